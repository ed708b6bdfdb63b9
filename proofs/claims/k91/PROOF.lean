import PyProof.Rows.All
import Wide.All
import OpenK.AllK
import Wide.FinOn
import KE.KStateDown
import HandS.ForMost
import HandS.IsInst
import HandS.Wide
import HandS.Zip
import HandS.Walk
import HandS.Conv
import HandS.Defaults
import HandS.TupMul
import PyProof.AutoListH
import PyProof.StrOps2
import KE.KRevSl
import HandS.Style
import HandS.SetFor
import PySem.Challenge.RW_alwayswritten_k91_whole_spoilt_tables_cl
import HandS.Head0
import HandS.Head1
import HandS.Head2
import HandS.HeadEnd
import HandS.HeadHook1
import HandS.HeadHook2
section
set_option Elab.async false
set_option linter.all false
set_option maxRecDepth 100000
set_option maxHeartbeats 4000000
namespace MM
open PySem PySem.Spec L2
abbrev D := PyData
mutual
theorem Dp_up {K : PySem.W.Frag} {F F' : Hp} (h : Same F F') : ∀ (d : PyData) (v : V), Dp K F v d → Dp K F' v d
  | .none, _, q => by cases q; exact .non
  | .bool b, _, q => by cases q; exact .bl b
  | .int i, _, q => by cases q; exact .int i
  | .str x, _, q => by cases q; exact .str x
  | .list ds, _, q => by
    cases q with
    | lst hs ha => exact .lst (h.seq hs) (DpAll_up h ds _ ha)
  | .tuple ds, _, q => by
    cases q with
    | tup hs ha =>
      refine .tup ?_ (DpAll_up h ds _ ha)
      rcases hs with (hs | ⟨o, hs⟩) | hs
      · exact .inl (.inl (h _ _ hs))
      · exact .inl (.inr ⟨o, h _ _ hs⟩)
      · exact .inr hs
  | .dict _, _, q => by cases q
theorem DpAll_up {K : PySem.W.Frag} {F F' : Hp} (h : Same F F') : ∀ (ds : List PyData) (vs : List V), DpAll K F vs ds → DpAll K F' vs ds
  | [], _, q => by cases q; exact .nil
  | d :: ds, _, q => by
    cases q with
    | cons h1 h2 => exact .cons (Dp_up h d _ h1) (DpAll_up h ds _ h2)
end
theorem Same_seqT {K : PySem.W.Frag} {H H' : Hp} {a : Addr} {xs : List V} (e : Same H H') (h : SqT K H a xs) : SqT K H' a xs := by
  rcases h with (h | ⟨o, h⟩) | h
  · exact .inl (.inl (e _ _ h))
  · exact .inl (.inr ⟨o, e _ _ h⟩)
  · exact .inr h
theorem DpAll_len {K : PySem.W.Frag} {F : Hp} : ∀ {ds : List PyData} {vs : List V}, DpAll K F vs ds → vs.length = ds.length
  | [], _, q => by cases q; rfl
  | d :: ds, _, q => by
    cases q with
    | cons h1 h2 => simp [DpAll_len h2]
theorem DpAll_get {K : PySem.W.Frag} {F : Hp} : ∀ {ds : List PyData} {vs : List V} {i : Nat} {d : PyData}, DpAll K F vs ds → ds[i]? = some d → ∃ v, vs[i]? = some v ∧ Dp K F v d
  | [], _, i, _, q, e => by simp at e
  | d :: ds, _, 0, _, q, e => by
    cases q with
    | cons h1 h2 => simp at e; subst e; exact ⟨_, rfl, h1⟩
  | d :: ds, _, i + 1, _, q, e => by
    cases q with
    | cons h1 h2 =>
      obtain ⟨v, e1, h⟩ := DpAll_get (i := i) h2 (by simpa using e)
      exact ⟨v, by simpa using e1, h⟩
theorem DpAll_append {K : PySem.W.Frag} {F : Hp} : ∀ {ds es : List PyData} {vs ws : List V}, DpAll K F vs ds → DpAll K F ws es → DpAll K F (vs ++ ws) (ds ++ es)
  | [], _, _, _, q, r => by cases q; exact r
  | d :: ds, _, _, _, q, r => by
    cases q with
    | cons h1 h2 => exact .cons h1 (DpAll_append h2 r)
theorem DpAll_set {K : PySem.W.Frag} {F : Hp} {x : V} {d : PyData} (r : Dp K F x d) : ∀ {ds : List PyData} {vs : List V} (i : Nat), DpAll K F vs ds → DpAll K F (vs.set i x) (ds.set i d)
  | [], _, _, q => by cases q; exact .nil
  | e :: ds, _, 0, q => by
    cases q with
    | cons h1 h2 => exact .cons r h2
  | e :: ds, _, i + 1, q => by
    cases q with
    | cons h1 h2 => exact .cons h1 (DpAll_set r i h2)
theorem DpAll_take {K : PySem.W.Frag} {F : Hp} : ∀ {ds : List PyData} {vs : List V} (n : Nat), DpAll K F vs ds → DpAll K F (vs.take n) (ds.take n)
  | _, _, 0, _ => by simp; exact .nil
  | [], _, n + 1, q => by cases q; exact .nil
  | d :: ds, _, n + 1, q => by
    cases q with
    | cons h1 h2 => exact .cons h1 (DpAll_take n h2)
theorem DpAll_drop {K : PySem.W.Frag} {F : Hp} : ∀ {ds : List PyData} {vs : List V} (n : Nat), DpAll K F vs ds → DpAll K F (vs.drop n) (ds.drop n)
  | _, _, 0, q => by simpa using q
  | [], _, n + 1, q => by cases q; exact .nil
  | d :: ds, _, n + 1, q => by
    cases q with
    | cons h1 h2 => exact DpAll_drop n h2
theorem DpAll_erase {K : PySem.W.Frag} {F : Hp} : ∀ {ds : List PyData} {vs : List V} (n : Nat), DpAll K F vs ds → DpAll K F (vs.eraseIdx n) (ds.eraseIdx n)
  | [], _, _, q => by cases q; exact .nil
  | d :: ds, _, 0, q => by
    cases q with
    | cons h1 h2 => exact h2
  | d :: ds, _, n + 1, q => by
    cases q with
    | cons h1 h2 => exact .cons h1 (DpAll_erase n h2)
theorem DpAll_rev {K : PySem.W.Frag} {F : Hp} : ∀ {ds : List PyData} {vs : List V}, DpAll K F vs ds → DpAll K F vs.reverse ds.reverse
  | [], _, q => by cases q; exact .nil
  | d :: ds, _, q => by
    cases q with
    | cons h1 h2 =>
      rw [List.reverse_cons, List.reverse_cons]
      exact DpAll_append (DpAll_rev h2) (.cons h1 .nil)
theorem DpAll_rep {K : PySem.W.Frag} {F : Hp} {ds : List PyData} {vs : List V} (h : DpAll K F vs ds) : ∀ n : Nat, DpAll K F (List.replicate n vs).flatten (List.replicate n ds).flatten
  | 0 => .nil
  | n + 1 => by
    rw [List.replicate_succ, List.replicate_succ, List.flatten_cons, List.flatten_cons]
    exact DpAll_append h (DpAll_rep h n)
inductive Sl where
  | frz (d : D)
  | own (ds : List D)
  | inn (ds : List D)
abbrev Ev := List (Option Sl)
def Sl.cont : Sl → Option (List D)
  | .own ds => some ds
  | .inn ds => some ds
  | .frz _ => none
def Sl.d : Sl → D
  | .frz d => d
  | .own ds => .list ds
  | .inn ds => .list ds
def Sl.put (ds : List D) : Sl → Sl
  | .inn _ => .inn ds
  | _ => .own ds
theorem Sl.put_cont (ds : List D) (s : Sl) : (s.put ds).cont = some ds := by cases s <;> rfl
structure RelS (K : PySem.W.Frag) (F G : Hp) (pin : Nat → Addr) (H : Hp) (σ : St) (ev : Ev) : Prop where
  len : σ.length = ev.length
  fh : Same F H
  gh : Same G H
  fz : ∀ (i : Nat) (d : D), ev[i]? = some (some (.frz d)) → ∃ v, σ[i]? = some (some v) ∧ Dp K F v d
  mu : ∀ (i : Nat) (s : Sl) (ds : List D), ev[i]? = some (some s) → s.cont = some ds → ∃ a vs, σ[i]? = some (some (.ref a)) ∧ F a = none ∧ G a = none ∧ H a = some (.lst vs) ∧ DpAll K F vs ds
  pins : ∀ (i : Nat) (ds : List D), ev[i]? = some (some (.inn ds)) → σ[i]? = some (some (.ref (pin i)))
  sep : ∀ (i j : Nat) (s t : Sl) (ds es : List D) (a : Addr), i ≠ j → ev[i]? = some (some s) → s.cont = some ds → ev[j]? = some (some t) → t.cont = some es → σ[i]? = some (some (.ref a)) → σ[j]? = some (some (.ref a)) → False
def New (G F F' : Hp) : Prop := ∀ a o, F' a = some o → F a = some o ∨ G a = none
theorem New.refl (G F : Hp) : New G F F := fun _ _ h => .inl h
theorem New.trans {G F F1 F2 : Hp} (a : New G F F1) (b : New G F1 F2) : New G F F2 := fun x o h => by
  rcases b x o h with h | h
  · exact a x o h
  · exact .inr h
def RR (K : PySem.W.Frag) (F G H : Hp) (σ : St) (ev : Ev) (v : V) : Sl → Prop
  | .frz d => Dp K F v d
  | .own ds => ∃ a vs, v = .ref a ∧ F a = none ∧ G a = none ∧ H a = some (.lst vs) ∧ DpAll K F vs ds ∧ ∀ (j : Nat) (t : Sl) (es : List D), ev[j]? = some (some t) → t.cont = some es → σ[j]? ≠ some (some (.ref a))
  | .inn _ => False
section
variable {K : PySem.W.Frag} {F G H : Hp} {pin : Nat → Addr} {σ : St} {ev : Ev} {v : V} {s : Sl}
theorem RR.freezeO {ds : List D} (R : RelS K F G pin H σ ev) (r : RR K F G H σ ev v (.own ds)) : ∃ a vs F', v = .ref a ∧ F' a = some (.lst vs) ∧ DpAll K F' vs ds ∧ Same F F' ∧ New G F F' ∧ RelS K F' G pin H σ ev := by
  obtain ⟨a, vs, rfl, h1, h2, h3, h4, h5⟩ := r
  have sm : Same F (upd F a (.lst vs)) := fun b o e => by
    rw [upd_ne (ne_of_none e h1)]
    exact e
  refine ⟨a, vs, upd F a (.lst vs), rfl, upd_same, DpAll_up sm _ _ h4, sm, fun b o e => ?_, ⟨R.len, fun b o e => ?_, R.gh, fun i d e => ?_, fun i t es e c => ?_, R.pins, R.sep⟩⟩
  · by_cases hb : b = a
    · exact .inr (by rw [hb]; exact h2)
    · rw [upd_ne hb] at e
      exact .inl e
  · by_cases hb : b = a
    · rw [hb, upd_same] at e
      cases e
      rw [hb]
      exact h3
    · rw [upd_ne hb] at e
      exact R.fh _ _ e
  · obtain ⟨v, e1, q⟩ := R.fz i d e
    exact ⟨v, e1, Dp_up sm _ _ q⟩
  · obtain ⟨b, ws, e1, q1, q2, q3, q4⟩ := R.mu i t es e c
    refine ⟨b, ws, e1, ?_, q2, q3, DpAll_up sm _ _ q4⟩
    rw [upd_ne (fun z => h5 i t es e c (by rw [e1, z]))]
    exact q1
theorem RR.freeze (R : RelS K F G pin H σ ev) (r : RR K F G H σ ev v s) : ∃ F', Same F F' ∧ New G F F' ∧ RelS K F' G pin H σ ev ∧ Dp K F' v s.d := by
  cases s with
  | frz d => exact ⟨F, Same.refl F, New.refl G F, R, r⟩
  | inn ds => exact r.elim
  | own ds =>
    obtain ⟨a, vs, F', rfl, h1, h2, s1, n1, R1⟩ := RR.freezeO R r
    exact ⟨F', s1, n1, R1, .lst (.inl (.inl h1)) h2⟩
end
def RV (K : PySem.W.Frag) (F' H H' : Hp) (v : V) : Sl → Prop
  | .frz d => Dp K F' v d
  | .own ds => ∃ a vs, v = .ref a ∧ F' a = none ∧ H a = none ∧ H' a = some (.lst vs) ∧ DpAll K F' vs ds
  | .inn _ => False
def Fin (K : PySem.W.Frag) (F H : Hp) (s : Sl) (Q : VK) : Prop := ∀ v H' F', Same F F' → (∀ a o, F' a = some o → F a = some o ∨ H a = none) → Same H H' → Same F' H' → RV K F' H H' v s → Q v H'
section
variable {K : PySem.W.Frag} {F G H H' F' : Hp} {pin : Nat → Addr} {σ : St} {ev : Ev} {v : V} {s : Sl} {Q : VK} {d : D} {ds : List D} {vs : List V}
theorem fin_val (sm : Same F H) (q : Fin K F H (.frz d) Q) (h : Dp K F v d) : Q v H := q v H F (Same.refl F) (fun _ _ e => .inl e) (Same.refl H) sm h
theorem fin_tup (sm : Same F H) (q : Fin K F H (.frz (.tuple ds)) Q) (h : DpAll K F vs ds) : ∀ p, H p = none → Q (.ref p) (upd H p (.tup vs)) := fun p hp => by
  have s0 : Same F (upd F p (.tup vs)) := fun b o e => by
    rw [upd_ne (ne_of_none (sm _ _ e) hp)]
    exact e
  have s1 : Same H (upd H p (.tup vs)) := fun b o e => by
    rw [upd_ne (ne_of_none e hp)]
    exact e
  refine q _ _ (upd F p (.tup vs)) s0 (fun b o e => ?_) s1 (fun b o e => ?_) (.tup (.inl (.inl upd_same)) (DpAll_up s0 _ _ h))
  · by_cases hb : b = p
    · exact .inr (by rw [hb]; exact hp)
    · rw [upd_ne hb] at e
      exact .inl e
  · by_cases hb : b = p
    · rw [hb, upd_same] at e
      cases e
      rw [hb]
      exact upd_same
    · rw [upd_ne hb] at e
      exact s1 _ _ (sm _ _ e)
theorem fin_lst (sm : Same F H) (q : Fin K F H (.own ds) Q) (h : DpAll K F vs ds) : ∀ p, H p = none → Q (.ref p) (upd H p (.lst vs)) := fun p hp => by
  have s1 : Same H (upd H p (.lst vs)) := fun b o e => by
    rw [upd_ne (ne_of_none e hp)]
    exact e
  have fp : F p = none := by
    cases e : F p with
    | none => rfl
    | some o =>
      have := sm _ _ e
      rw [hp] at this
      cases this
  exact q _ _ F (Same.refl F) (fun _ _ e => .inl e) s1 (fun b o e => s1 _ _ (sm _ _ e)) ⟨p, vs, rfl, fp, hp, upd_same, h⟩
theorem RelS.grow (R : RelS K F G pin H σ ev) (s1 : Same F F') (n : ∀ a o, F' a = some o → F a = some o ∨ H a = none) (s2 : Same H H') (s3 : Same F' H') : RelS K F' G pin H' σ ev ∧ New G F F' := by
  refine ⟨⟨R.len, s3, fun b o e => s2 _ _ (R.gh _ _ e), fun i d e => ?_, fun i t es e c => ?_, R.pins, R.sep⟩, fun a o e => ?_⟩
  · obtain ⟨v, e1, q⟩ := R.fz i d e
    exact ⟨v, e1, Dp_up s1 _ _ q⟩
  · obtain ⟨b, ws, e1, q1, q2, q3, q4⟩ := R.mu i t es e c
    refine ⟨b, ws, e1, ?_, q2, s2 _ _ q3, DpAll_up s1 _ _ q4⟩
    cases z : F' b with
    | none => rfl
    | some o =>
      rcases n b o z with y | y
      · rw [q1] at y; cases y
      · rw [q3] at y; cases y
  · rcases n a o e with y | y
    · exact .inl y
    · refine .inr ?_
      cases z : G a with
      | none => rfl
      | some o =>
        have := R.gh _ _ z
        rw [y] at this
        cases this
theorem RV.rr (R : RelS K F G pin H σ ev) (r : RV K F' H H' v s) : RR K F' G H' σ ev v s := by
  cases s with
  | frz d => exact r
  | inn ds => exact r
  | own ds =>
    obtain ⟨a, vs, e, h1, h2, h3, h4⟩ := r
    refine ⟨a, vs, e, h1, ?_, h3, h4, fun j t es e1 c e2 => ?_⟩
    · cases z : G a with
      | none => rfl
      | some o =>
        have := R.gh _ _ z
        rw [h2] at this
        cases this
    · obtain ⟨b, ws, e3, q1, q2, q3, q4⟩ := R.mu j t es e1 c
      rw [e3] at e2
      cases e2
      rw [h2] at q3
      cases q3
end
abbrev ME := Ev → Option (Sl × Ev)
def tM (K : PySem.W.Frag) (m : ME) : TE := fun σ H Q => ∃ F G pin ev s ev', RelS K F G pin H σ ev ∧ m ev = some (s, ev') ∧ ∀ v H' F', Same F F' → New G F F' → RelS K F' G pin H' σ ev' → RR K F' G H' σ ev' v s → Q v H'
abbrev MT := Ev → Option (Bool × Ev)
def tMT (K : PySem.W.Frag) (m : MT) : TT := fun σ H Q => ∃ F G pin ev b ev', RelS K F G pin H σ ev ∧ m ev = some (b, ev') ∧ ∀ H' F', Same F F' → New G F F' → RelS K F' G pin H' σ ev' → Q b H'
theorem PE_of {X : Cx} {e : Expr} {t t' : TE} (h : PE X e t) (w : ∀ σ H Q, t' σ H Q → t σ H Q) : PE X e t' := ⟨fun pins s σ H Q I q => h.run pins s σ H Q I (w σ H Q q)⟩
theorem PT_of {X : Cx} {e : Expr} {t t' : TT} (h : PT X e t) (w : ∀ σ H Q, t' σ H Q → t σ H Q) : PT X e t' := ⟨fun pins s σ H Q I q => h.run pins s σ H Q I (w σ H Q q)⟩
theorem PS_of {X : Cx} {e : Stmt} {t t' : TS} (h : PS X e t) (w : ∀ D σ H, t' D σ H → t D σ H) : PS X e t' := ⟨fun pins s σ H D I q => h.run pins s σ H D I (w D σ H q)⟩
theorem PSs_of {X : Cx} {e : List Stmt} {t t' : TS} (h : PSs X e t) (w : ∀ D σ H, t' D σ H → t D σ H) : PSs X e t' := ⟨fun pins s σ H D I q => h.run pins s σ H D I (w D σ H q)⟩
theorem PA_of {X : Cx} {e : List Expr} {t t' : TA} (h : PA X e t) (w : ∀ σ H Q, t' σ H Q → t σ H Q) : PA X e t' := ⟨fun pos pins s σ H Q I q => h.run pos pins s σ H Q I (w σ H Q q)⟩
theorem PI_of {X : Cx} {tg e : Expr} {t t' : TI} (h : PI X tg e t) (w : ∀ σ H Q, t' σ H Q → t σ H Q) : PI X tg e t' := ⟨fun pins s σ H Q I q => h.run pins s σ H Q I (w σ H Q q)⟩
section
variable {X : Cx} {pos : Pos} {K : PySem.W.Frag}
theorem tM_d {m : ME} {σ : St} {H : Hp} {Q : VK} {F G : Hp} {pin : Nat → Addr} {ev ev' : Ev} {s : Sl} (R : RelS K F G pin H σ ev) (e : m ev = some (s, ev'))
    (h : ∀ v H' F', Same F F' → New G F F' → RelS K F' G pin H' σ ev' → Dp K F' v s.d → Q v H') : tM K m σ H Q := by
  refine ⟨F, G, pin, ev, s, ev', R, e, fun v H' F' s1 n1 R1 r => ?_⟩
  obtain ⟨F2, s2, n2, R2, q⟩ := r.freeze R1
  exact h v H' F2 (s1.trans s2) (n1.trans n2) R2 q
def mC (d : D) : ME := fun ev => some (.frz d, ev)
theorem tMC {σ : St} {H : Hp} {Q : VK} {d : D} {v : V} (hd : ∀ F, Dp K F v d) (h : tM K (mC d) σ H Q) : Q v H := by
  obtain ⟨F, G, pin, ev, s, ev', R, e, q⟩ := h
  cases e
  exact q v H F (Same.refl F) (New.refl G F) R (hd F)
theorem me_int {i j} : PE X (.Constant (.int i) j pos) (tM X.K (mC (.int i))) := PE_of pe_int fun _ _ _ h => tMC (fun _ => .int i) h
theorem me_bl {b j} : PE X (.Constant (.bool b) j pos) (tM X.K (mC (.bool b))) := PE_of pe_bl fun _ _ _ h => tMC (fun _ => .bl b) h
theorem me_non {j} : PE X (.Constant .none j pos) (tM X.K (mC .none)) := PE_of pe_non fun _ _ _ h => tMC (fun _ => .non) h
theorem me_str {x j} : PE X (.Constant (.str x) j pos) (tM X.K (mC (.str x))) := PE_of pe_str fun _ _ _ h => tMC (fun _ => .str x) h
def mvar (i : Nat) : ME := fun ev => match ev[i]? with
  | some (some (.frz d)) => some (.frz d, ev)
  | some (some (.own ds)) => some (.frz (.list ds), ev.set i (some (.frz (.list ds))))
  | _ => none
theorem RelS.drop {F G H : Hp} {pin : Nat → Addr} {σ : St} {ev : Ev} (R : RelS K F G pin H σ ev) (i : Nat) : RelS K F G pin H σ (ev.set i none) := by
  have g : ∀ (j : Nat) (s : Sl), (ev.set i none)[j]? = some (some s) → ev[j]? = some (some s) := fun j s e => by
    by_cases hj : i = j
    · subst hj
      by_cases hl : i < ev.length
      · rw [List.getElem?_set_self hl] at e; cases e
      · rw [List.getElem?_eq_none (by simpa using hl)] at e; cases e
    · rw [List.getElem?_set_ne hj] at e; exact e
  exact ⟨by simpa using R.len, R.fh, R.gh, fun j d e => R.fz j d (g _ _ e), fun j s ds e c => R.mu j s ds (g _ _ e) c, fun j ds e => R.pins j ds (g _ _ e), fun i' j s t ds es a n e1 c1 e2 c2 => R.sep i' j s t ds es a n (g _ _ e1) c1 (g _ _ e2) c2⟩
theorem RelS.frozen {F G H : Hp} {pin : Nat → Addr} {σ : St} {ev : Ev} {i : Nat} {ds : List D} (R : RelS K F G pin H σ ev) (e : ev[i]? = some (some (.own ds))) :
    ∃ a F', σ[i]? = some (some (.ref a)) ∧ Same F F' ∧ New G F F' ∧ RelS K F' G pin H σ (ev.set i (some (.frz (.list ds)))) ∧ Dp K F' (.ref a) (.list ds) := by
  obtain ⟨a, vs, e1, q1, q2, q3, q4⟩ := R.mu i _ ds e rfl
  have R0 := R.drop i
  have rr : RR K F G H σ (ev.set i none) (.ref a) (.own ds) := by
    refine ⟨a, vs, rfl, q1, q2, q3, q4, fun j t es e2 c2 e3 => ?_⟩
    have hj : i ≠ j := fun z => by
      subst z
      have hl : i < ev.length := (List.getElem?_eq_some_iff.mp e).1
      rw [List.getElem?_set_self hl] at e2; cases e2
    rw [List.getElem?_set_ne hj] at e2
    exact R.sep i j _ t ds es a hj e rfl e2 c2 e1 e3
  obtain ⟨F', s1, n1, R1, d1⟩ := rr.freeze R0
  have hl : i < ev.length := (List.getElem?_eq_some_iff.mp e).1
  have g : ∀ (j : Nat) (s : Sl), j ≠ i → (ev.set i (some (.frz (.list ds))))[j]? = some (some s) → (ev.set i none)[j]? = some (some s) := fun j s hj e => by
    rw [List.getElem?_set_ne (Ne.symm hj)] at e ⊢; exact e
  have gi : ∀ (j : Nat) (s : Sl), (ev.set i (some (.frz (.list ds))))[j]? = some (some s) → s.cont ≠ none → j ≠ i := fun j s e c z => by
    subst z
    rw [List.getElem?_set_self hl] at e
    cases e
    exact c rfl
  refine ⟨a, F', e1, s1, n1, ⟨by simpa using R.len, R1.fh, R1.gh, fun j d e2 => ?_, fun j s es e2 c => ?_, fun j es e2 => ?_, fun i' j s t ds es a' n e1 c1 e2 c2 => ?_⟩, d1⟩
  · by_cases hj : j = i
    · subst hj
      rw [List.getElem?_set_self hl] at e2
      cases e2
      exact ⟨_, e1, d1⟩
    · exact R1.fz j d (g j _ hj e2)
  · exact R1.mu j s es (g j _ (gi j s e2 (by rw [c]; simp)) e2) c
  · exact R1.pins j es (g j _ (gi j _ e2 (by simp [Sl.cont])) e2)
  · exact R1.sep i' j s t ds es a' n (g _ _ (gi _ _ e1 (by rw [c1]; simp)) e1) c1 (g _ _ (gi _ _ e2 (by rw [c2]; simp)) e2) c2
theorem tM_var {i : Nat} {σ : St} {H : Hp} {Q : VK} (h : tM K (mvar i) σ H Q) : tVar i σ H Q := by
  obtain ⟨F, G, pin, ev, s, ev', R, e, q⟩ := h
  unfold mvar at e
  split at e
  · rename_i d e1
    cases e
    obtain ⟨v, e2, r⟩ := R.fz i d e1
    exact ⟨v, e2, q v H F (Same.refl F) (New.refl G F) R r⟩
  · rename_i ds e1
    cases e
    obtain ⟨a, F', e2, s1, n1, R1, d1⟩ := R.frozen e1
    exact ⟨_, e2, q _ H F' s1 n1 R1 d1⟩
  · cases e
theorem pm (i : Nat) {x : Str} (hN : X.N[i]? = some x := by rfl) (hv : Vis X.env.scope x := by first | exact Or.inl rfl | exact Or.inr (Or.inl rfl) | exact Or.inr (Or.inr rfl)) (hd : (x == ("__debug__" : Str)) = false := by decide)
    (hcd : (x == ("__classdict__" : Str)) = false := by decide) : PE X (.Name x pos) (tM X.K (mvar i)) := PE_of (pe_var hN hv hd hcd) fun _ _ _ h => tM_var h
def mmove (i : Nat) : ME := fun ev => match ev[i]? with
  | some (some (.frz d)) => some (.frz d, ev)
  | some (some (.own ds)) => some (.own ds, ev.set i none)
  | _ => none
theorem tM_move {i : Nat} {σ : St} {H : Hp} {Q : VK} (h : tM K (mmove i) σ H Q) : tVar i σ H Q := by
  obtain ⟨F, G, pin, ev, s, ev', R, e, q⟩ := h
  unfold mmove at e
  split at e
  · rename_i d e1
    cases e
    obtain ⟨v, e2, r⟩ := R.fz i d e1
    exact ⟨v, e2, q v H F (Same.refl F) (New.refl G F) R r⟩
  · rename_i ds e1
    cases e
    obtain ⟨a, vs, e2, q1, q2, q3, q4⟩ := R.mu i _ ds e1 rfl
    refine ⟨_, e2, q _ H F (Same.refl F) (New.refl G F) (R.drop i) ⟨a, vs, rfl, q1, q2, q3, q4, fun j t es e3 c3 e4 => ?_⟩⟩
    have hj : i ≠ j := fun z => by
      subst z
      have hl : i < ev.length := (List.getElem?_eq_some_iff.mp e1).1
      rw [List.getElem?_set_self hl] at e3; cases e3
    rw [List.getElem?_set_ne hj] at e3
    exact R.sep i j _ t ds es a hj e1 rfl e3 c3 e2 e4
  · cases e
theorem pmv (i : Nat) {x : Str} (hN : X.N[i]? = some x := by rfl) (hv : Vis X.env.scope x := by first | exact Or.inl rfl | exact Or.inr (Or.inl rfl) | exact Or.inr (Or.inr rfl)) (hd : (x == ("__debug__" : Str)) = false := by decide)
    (hcd : (x == ("__classdict__" : Str)) = false := by decide) : PE X (.Name x pos) (tM X.K (mmove i)) := PE_of (pe_var hN hv hd hcd) fun _ _ _ h => tM_move h
def rM2 (K : PySem.W.Frag) (f : D → D → Option Sl) : R2 := fun x y H Q => ∃ F d e s, Same F H ∧ Dp K F x d ∧ Dp K F y e ∧ f d e = some s ∧ Fin K F H s Q
def mbin (f : D → D → Option Sl) (ma mb : ME) : ME := fun ev => (ma ev).bind fun r => (mb r.2).bind fun q => (f r.1.d q.1.d).map fun s => (s, q.2)
theorem tM_bin {f : D → D → Option Sl} {ma mb : ME} {r : R2} (hr : ∀ x y H Q, rM2 K f x y H Q → r x y H Q) {σ : St} {H : Hp} {Q : VK} (h : tM K (mbin f ma mb) σ H Q) : tOp r (tM K ma) (tM K mb) σ H Q := by
  obtain ⟨F, G, pin, ev, s, ev', R, e, q⟩ := h
  unfold mbin at e
  cases e1 : ma ev with
  | none => rw [e1] at e; cases e
  | some r1 =>
    obtain ⟨s1, ev1⟩ := r1
    rw [e1] at e
    simp only [Option.bind_some] at e
    cases e2 : mb ev1 with
    | none => rw [e2] at e; cases e
    | some r2 =>
      obtain ⟨s2, ev2⟩ := r2
      rw [e2] at e
      simp only [Option.bind_some] at e
      cases e3 : f s1.d s2.d with
      | none => rw [e3] at e; cases e
      | some z =>
        rw [e3] at e
        simp only [Option.map_some, Option.some.injEq, Prod.mk.injEq] at e
        obtain ⟨rfl, rfl⟩ := e
        refine tM_d R e1 fun v H1 F1 sm1 n1 R1 d1 => ?_
        refine tM_d R1 e2 fun u H2 F2 sm2 n2 R2 d2 => ?_
        refine hr _ _ _ _ ⟨F2, _, _, z, R2.fh, Dp_up sm2 _ _ d1, d2, e3, fun w H3 F3 a b c d r => ?_⟩
        obtain ⟨R3, n3⟩ := R2.grow a b c d
        exact q w H3 F3 ((sm1.trans sm2).trans a) ((n1.trans n2).trans n3) R3 (r.rr R2)
theorem OpR_of {f : Value → Value → Sem Value} {r r' : R2} (h : OpR X f r) (w : ∀ x y H Q, r' x y H Q → r x y H Q) : OpR X f r' := fun pins s σ H x y v u Q I rx ry q => h pins s σ H x y v u Q I rx ry (w _ _ _ _ q)
theorem me_bin {op : Operator} {f : D → D → Option Sl} {a b : Expr} {ma mb : ME} (ho : OpR X (binaryOp op) (rM2 X.K f)) (ha : PE X a (tM X.K ma)) (hb : PE X b (tM X.K mb)) : PE X (.BinOp a op b pos) (tM X.K (mbin f ma mb)) :=
  PE_of (pe_op ho ha hb) fun _ _ _ h => tM_bin (fun _ _ _ _ z => z) h
theorem me_cmp {op : CmpOp} {f : D → D → Option Sl} {a b : Expr} {ma mb : ME} (ho : OpR X (compareOp op) (rM2 X.K f)) (ha : PE X a (tM X.K ma)) (hb : PE X b (tM X.K mb)) (hm : behindInMarks op b = false) : PE X (.Compare a [op] [b] pos) (tM X.K (mbin f ma mb)) :=
  PE_of (pe_cmpR ho ha hb hm) fun _ _ _ h => tM_bin (fun _ _ _ _ z => z) h
theorem me_ix {f : D → D → Option Sl} {a b : Expr} {ma mb : ME} (ho : IxR X (rM2 X.K f)) (ha : PE X a (tM X.K ma)) (hb : PE X b (tM X.K mb)) (hs : PlainIx b) : PE X (.Subscript a b pos) (tM X.K (mbin f ma mb)) :=
  PE_of (pe_ix ho ha hb hs) fun _ _ _ h => tM_bin (fun _ _ _ _ z => z) h
end
end MM
end
section
set_option Elab.async false
set_option linter.all false
set_option maxRecDepth 100000
set_option maxHeartbeats 4000000
namespace MM
open PySem PySem.Spec L2
section
variable {X : Cx} {pos : Pos} {K : PySem.W.Frag}
def truD : D → Option Bool
  | .none => some false
  | .bool b => some b
  | .int i => some (i != 0)
  | .str x => if x.length ≤ sizeLine then some (x.length != 0) else none
  | .list ds => some (!ds.isEmpty)
  | .tuple ds => some (!ds.isEmpty)
  | _ => none
def mtru (m : ME) : MT := fun ev => (m ev).bind fun r => (truD r.1.d).map fun b => (b, r.2)
theorem dpAll_empty {F : Hp} {vs : List V} {ds : List D} (h : DpAll K F vs ds) : vs.isEmpty = ds.isEmpty := by
  have e := DpAll_len h
  cases vs <;> cases ds <;> simp_all
theorem truV_of {F H : Hp} {v : V} {d : D} {b : Bool} (sm : Same F H) (h : Dp K F v d) (e : truD d = some b) : TruV K v H b := by
  cases h with
  | non => cases e; rfl
  | bl b => cases e; rfl
  | int i => cases e; rfl
  | str x =>
    by_cases hx : x.length ≤ sizeLine
    · have e' : (if x.length ≤ sizeLine then some (x.length != 0) else none) = some b := e
      rw [if_pos hx] at e'
      cases e'
      exact ⟨hx, by
        cases q : x.length with
        | zero => rfl
        | succ n =>
          simp
          omega⟩
    · have e' : (if x.length ≤ sizeLine then some (x.length != 0) else none) = some b := e
      rw [if_neg hx] at e'
      cases e'
  | lst hs ha =>
    cases e
    rw [← dpAll_empty ha]
    exact .inl ⟨_, sm.seq hs, rfl⟩
  | tup hs ha =>
    cases e
    rw [← dpAll_empty ha]
    exact .inr (.inl ⟨_, Same_seqT sm hs, rfl⟩)
theorem mt_truth {a : Expr} {m : ME} (ha : PE X a (tM X.K m)) (he : ∀ whole, isTrue a X.env whole = (do let v ← whole; standAt a.pos; holding [v] (truthy v)) := by intro _; rfl) : PT X a (tMT X.K (mtru m)) := by
  refine PT_of (pt_truth ha he) fun σ H Q h => ?_
  obtain ⟨F, G, pin, ev, b, ev', R, e, q⟩ := h
  unfold mtru at e
  cases e1 : m ev with
  | none => rw [e1] at e; cases e
  | some r1 =>
    obtain ⟨s1, ev1⟩ := r1
    rw [e1] at e
    simp only [Option.bind_some] at e
    cases e3 : truD s1.d with
    | none => rw [e3] at e; cases e
    | some z =>
      rw [e3] at e
      simp only [Option.map_some, Option.some.injEq, Prod.mk.injEq] at e
      obtain ⟨rfl, rfl⟩ := e
      refine tM_d R e1 fun v H1 F1 sm1 n1 R1 d1 => ⟨z, truV_of R1.fh d1 e3, q H1 F1 sm1 n1 R1⟩
def mtruN (i : Nat) : MT := fun ev => match ev[i]? with
  | some (some s) => (truD s.d).map fun b => (b, ev)
  | _ => none
theorem slot_read {F G H : Hp} {pin : Nat → Addr} {σ : St} {ev : Ev} {i : Nat} {s : Sl} (R : RelS K F G pin H σ ev) (e : ev[i]? = some (some s)) :
    ∃ v F', σ[i]? = some (some v) ∧ Same F F' ∧ Same F' H ∧ Dp K F' v s.d := by
  cases hc : s.cont with
  | none =>
    cases s with
    | frz d =>
      obtain ⟨v, e2, r⟩ := R.fz i d e
      exact ⟨v, F, e2, Same.refl F, R.fh, r⟩
    | own ds => cases hc
    | inn ds => cases hc
  | some ds =>
    obtain ⟨a, vs, e1, q1, q2, q3, q4⟩ := R.mu i s ds e hc
    have sm : Same F (upd F a (.lst vs)) := fun b o e => by
      rw [upd_ne (ne_of_none e q1)]
      exact e
    refine ⟨.ref a, upd F a (.lst vs), e1, sm, fun b o e => ?_, ?_⟩
    · by_cases hb : b = a
      · rw [hb, upd_same] at e; cases e; rw [hb]; exact q3
      · rw [upd_ne hb] at e; exact R.fh _ _ e
    · have ed : s.d = .list ds := by
        cases s with
        | frz d => cases hc
        | own es => cases hc; rfl
        | inn es => cases hc; rfl
      rw [ed]
      exact .lst (.inl (.inl upd_same)) (DpAll_up sm _ _ q4)
theorem mt_truthN (i : Nat) {x : Str} (hN : X.N[i]? = some x := by rfl) (hv : Vis X.env.scope x := by first | exact Or.inl rfl | exact Or.inr (Or.inl rfl) | exact Or.inr (Or.inr rfl)) (hd : (x == ("__debug__" : Str)) = false := by decide)
    (hcd : (x == ("__classdict__" : Str)) = false := by decide) : PT X (.Name x pos) (tMT X.K (mtruN i)) := by
  refine PT_of (pt_truth (pe_var (i := i) hN hv hd hcd) (by intro _; rfl)) fun σ H Q h => ?_
  obtain ⟨F, G, pin, ev, b, ev', R, e, q⟩ := h
  unfold mtruN at e
  split at e
  · rename_i s e1
    cases e3 : truD s.d with
    | none => rw [e3] at e; cases e
    | some z =>
      rw [e3] at e
      simp only [Option.map_some, Option.some.injEq, Prod.mk.injEq] at e
      obtain ⟨rfl, rfl⟩ := e
      obtain ⟨v, F', e2, s1, s2, d1⟩ := slot_read R e1
      exact ⟨v, e2, z, truV_of s2 d1 e3, q H F (Same.refl F) (New.refl G F) R⟩
  · cases e
def mtnot (m : MT) : MT := fun ev => (m ev).map fun r => (!r.1, r.2)
def mtand (m n : MT) : MT := fun ev => (m ev).bind fun r => if r.1 = true then n r.2 else some (false, r.2)
def mtor (m n : MT) : MT := fun ev => (m ev).bind fun r => if r.1 = true then some (true, r.2) else n r.2
theorem tMT_mono {m : MT} {σ : St} {H : Hp} {Q Q' : Bool → Hp → Prop} (h : tMT K m σ H Q) (w : ∀ b H, Q b H → Q' b H) : tMT K m σ H Q' := by
  obtain ⟨F, G, pin, ev, b, ev', R, e, q⟩ := h
  exact ⟨F, G, pin, ev, b, ev', R, e, fun H' F' a b c => w _ _ (q H' F' a b c)⟩
theorem mt_not {a : Expr} {m : MT} (ha : PT X a (tMT X.K m)) : PT X (.UnaryOp .Not a pos) (tMT X.K (mtnot m)) := by
  refine PT_of (pt_not ha) fun σ H Q h => ?_
  obtain ⟨F, G, pin, ev, b, ev', R, e, q⟩ := h
  unfold mtnot at e
  cases e1 : m ev with
  | none => rw [e1] at e; cases e
  | some r =>
    rw [e1] at e
    cases e
    exact ⟨F, G, pin, ev, r.1, r.2, R, e1, q⟩
theorem tMT_and {m n : MT} {σ : St} {H : Hp} {Q : Bool → Hp → Prop} (h : tMT K (mtand m n) σ H Q) : tAnd (tMT K m) (tMT K n) σ H Q := by
  obtain ⟨F, G, pin, ev, b, ev', R, e, q⟩ := h
  unfold mtand at e
  cases e1 : m ev with
  | none => rw [e1] at e; cases e
  | some r =>
    obtain ⟨c, ev1⟩ := r
    rw [e1] at e
    simp only [Option.bind_some] at e
    refine ⟨F, G, pin, ev, c, ev1, R, e1, fun H1 F1 s1 n1 R1 => ?_⟩
    cases c with
    | true =>
      simp only [if_true] at e ⊢
      exact ⟨F1, G, pin, ev1, b, ev', R1, e, fun H2 F2 s2 n2 R2 => q H2 F2 (s1.trans s2) (n1.trans n2) R2⟩
    | false =>
      simp only [Bool.false_eq_true, if_false] at e ⊢
      cases e
      exact q H1 F1 s1 n1 R1
theorem tMT_or {m n : MT} {σ : St} {H : Hp} {Q : Bool → Hp → Prop} (h : tMT K (mtor m n) σ H Q) : tOr (tMT K m) (tMT K n) σ H Q := by
  obtain ⟨F, G, pin, ev, b, ev', R, e, q⟩ := h
  unfold mtor at e
  cases e1 : m ev with
  | none => rw [e1] at e; cases e
  | some r =>
    obtain ⟨c, ev1⟩ := r
    rw [e1] at e
    simp only [Option.bind_some] at e
    refine ⟨F, G, pin, ev, c, ev1, R, e1, fun H1 F1 s1 n1 R1 => ?_⟩
    cases c with
    | false =>
      simp only [Bool.false_eq_true, if_false] at e ⊢
      exact ⟨F1, G, pin, ev1, b, ev', R1, e, fun H2 F2 s2 n2 R2 => q H2 F2 (s1.trans s2) (n1.trans n2) R2⟩
    | true =>
      simp only [if_true] at e ⊢
      cases e
      exact q H1 F1 s1 n1 R1
theorem PW_of {e : Expr} {t t' : TT} (h : PW X e t) (w : ∀ σ H Q, t' σ H Q → t σ H Q) : PW X e t' := ⟨fun wh pins s σ H Q I q => h.run wh pins s σ H Q I (w σ H Q q)⟩
theorem mw_and1 {a : Expr} {m : MT} (ha : PT X a (tMT X.K m)) : PW X (.BoolOp .And [a] pos) (tMT X.K m) := pw_and1 ha
theorem mw_or1 {a : Expr} {m : MT} (ha : PT X a (tMT X.K m)) : PW X (.BoolOp .Or [a] pos) (tMT X.K m) := pw_or1 ha
theorem mw_and {a b : Expr} {rest : List Expr} {m n : MT} (ha : PT X a (tMT X.K m)) (hb : PW X (.BoolOp .And (b :: rest) pos) (tMT X.K n)) : PW X (.BoolOp .And (a :: b :: rest) pos) (tMT X.K (mtand m n)) := PW_of (pw_and ha hb) fun _ _ _ h => tMT_and h
theorem mw_or {a b : Expr} {rest : List Expr} {m n : MT} (ha : PT X a (tMT X.K m)) (hb : PW X (.BoolOp .Or (b :: rest) pos) (tMT X.K n)) : PW X (.BoolOp .Or (a :: b :: rest) pos) (tMT X.K (mtor m n)) := PW_of (pw_or ha hb) fun _ _ _ h => tMT_or h
def mandV (m n : ME) : ME := fun ev => (m ev).bind fun r => match r.1.d with
  | .bool true => n r.2
  | .bool false => some (.frz (.bool false), r.2)
  | _ => none
def morV (m n : ME) : ME := fun ev => (m ev).bind fun r => match r.1.d with
  | .bool false => n r.2
  | .bool true => some (.frz (.bool true), r.2)
  | _ => none
theorem Dp_bool {F : Hp} {v : V} {b : Bool} (h : Dp K F v (.bool b)) : v = .bl b := by cases h; rfl
theorem tM_go {m : ME} {σ : St} {H : Hp} {Q : VK} {F0 F G : Hp} {pin : Nat → Addr} {ev ev' : Ev} {s : Sl} (R : RelS K F G pin H σ ev) (e : m ev = some (s, ev')) (s0 : Same F0 F) (n0 : New G F0 F)
    (q : ∀ v H' F', Same F0 F' → New G F0 F' → RelS K F' G pin H' σ ev' → RR K F' G H' σ ev' v s → Q v H') : tM K m σ H Q :=
  ⟨F, G, pin, ev, s, ev', R, e, fun v H' F' s1 n1 R1 r => q v H' F' (s0.trans s1) (n0.trans n1) R1 r⟩
theorem me_and {a b : Expr} {rest : List Expr} {m n : ME} (ha : PE X a (tM X.K m)) (hb : PE X (.BoolOp .And (b :: rest) pos) (tM X.K n)) : PE X (.BoolOp .And (a :: b :: rest) pos) (tM X.K (mandV m n)) := by
  refine PE_of (pe_and ha hb) fun σ H Q h => ?_
  obtain ⟨F, G, pin, ev, s, ev', R, e, q⟩ := h
  unfold mandV at e
  cases e1 : m ev with
  | none => rw [e1] at e; cases e
  | some r =>
    obtain ⟨s1, ev1⟩ := r
    rw [e1] at e
    simp only [Option.bind_some] at e
    refine tM_d R e1 fun v H1 F1 sm1 n1 R1 d1 => ?_
    split at e
    · rename_i e2
      rw [e2] at d1
      exact ⟨true, Dp_bool d1, by rw [if_pos rfl]; exact tM_go R1 e sm1 n1 q⟩
    · rename_i e2
      rw [e2] at d1
      cases e
      exact ⟨false, Dp_bool d1, by rw [if_neg (by decide)]; exact q _ H1 F1 sm1 n1 R1 (.bl false)⟩
    · cases e
theorem me_or {a b : Expr} {rest : List Expr} {m n : ME} (ha : PE X a (tM X.K m)) (hb : PE X (.BoolOp .Or (b :: rest) pos) (tM X.K n)) : PE X (.BoolOp .Or (a :: b :: rest) pos) (tM X.K (morV m n)) := by
  refine PE_of (pe_or ha hb) fun σ H Q h => ?_
  obtain ⟨F, G, pin, ev, s, ev', R, e, q⟩ := h
  unfold morV at e
  cases e1 : m ev with
  | none => rw [e1] at e; cases e
  | some r =>
    obtain ⟨s1, ev1⟩ := r
    rw [e1] at e
    simp only [Option.bind_some] at e
    refine tM_d R e1 fun v H1 F1 sm1 n1 R1 d1 => ?_
    split at e
    · rename_i e2
      rw [e2] at d1
      exact ⟨false, Dp_bool d1, by rw [if_neg (by decide)]; exact tM_go R1 e sm1 n1 q⟩
    · rename_i e2
      rw [e2] at d1
      cases e
      exact ⟨true, Dp_bool d1, by rw [if_pos rfl]; exact q _ H1 F1 sm1 n1 R1 (.bl true)⟩
    · cases e
theorem me_one {op} {a : Expr} {m : ME} (ha : PE X a (tM X.K m)) : PE X (.BoolOp op [a] pos) (tM X.K m) := pe_one ha
def mnotV (m : ME) : ME := fun ev => (m ev).bind fun r => match r.1.d with
  | .bool b => some (.frz (.bool (!b)), r.2)
  | _ => none
theorem me_not {a : Expr} {m : ME} (ha : PE X a (tM X.K m)) : PE X (.UnaryOp .Not a pos) (tM X.K (mnotV m)) := by
  refine PE_of (pe_not ha) fun σ H Q h => ?_
  obtain ⟨F, G, pin, ev, s, ev', R, e, q⟩ := h
  unfold mnotV at e
  cases e1 : m ev with
  | none => rw [e1] at e; cases e
  | some r =>
    obtain ⟨s1, ev1⟩ := r
    rw [e1] at e
    simp only [Option.bind_some] at e
    refine tM_d R e1 fun v H1 F1 sm1 n1 R1 d1 => ?_
    split at e
    · rename_i b e2
      rw [e2] at d1
      cases e
      exact ⟨b, Dp_bool d1, q _ H1 F1 sm1 n1 R1 (.bl _)⟩
    · cases e
def mif (t : MT) (m n : ME) : ME := fun ev => (t ev).bind fun r => if r.1 = true then m r.2 else n r.2
theorem me_if {c a b : Expr} {t : MT} {m n : ME} (hc : PT X c (tMT X.K t)) (ha : PE X a (tM X.K m)) (hb : PE X b (tM X.K n)) : PE X (.IfExp c a b pos) (tM X.K (mif t m n)) := by
  refine PE_of (pe_ifExp hc ha hb) fun σ H Q h => ?_
  obtain ⟨F, G, pin, ev, s, ev', R, e, q⟩ := h
  unfold mif at e
  cases e1 : t ev with
  | none => rw [e1] at e; cases e
  | some r =>
    obtain ⟨c1, ev1⟩ := r
    rw [e1] at e
    simp only [Option.bind_some] at e
    refine ⟨F, G, pin, ev, c1, ev1, R, e1, fun H1 F1 s1 n1 R1 => ?_⟩
    cases c1 with
    | true =>
      simp only [if_true] at e ⊢
      exact tM_go R1 e s1 n1 q
    | false =>
      simp only [Bool.false_eq_true, if_false] at e ⊢
      exact tM_go R1 e s1 n1 q
def mneg (m : ME) : ME := fun ev => (m ev).bind fun r => match r.1.d with
  | .int i => some (.frz (.int (-i)), r.2)
  | _ => none
theorem me_neg {a : Expr} {m : ME} (ha : PE X a (tM X.K m)) : PE X (.UnaryOp .USub a pos) (tM X.K (mneg m)) := by
  refine PE_of (pe_un un_neg ha) fun σ H Q h => ?_
  obtain ⟨F, G, pin, ev, s, ev', R, e, q⟩ := h
  unfold mneg at e
  cases e1 : m ev with
  | none => rw [e1] at e; cases e
  | some r =>
    obtain ⟨s1, ev1⟩ := r
    rw [e1] at e
    simp only [Option.bind_some] at e
    refine tM_d R e1 fun v H1 F1 sm1 n1 R1 d1 => ?_
    split at e
    · rename_i i e2
      rw [e2] at d1
      cases e
      cases d1
      exact ⟨i, rfl, q _ H1 F1 sm1 n1 R1 (.int _)⟩
    · cases e
inductive Ar where
  | val (d : D)
  | slot (j : Nat)
abbrev MA := Ev → Option (List Ar × Ev)
def ArOk (K : PySem.W.Frag) (F : Hp) (σ : St) (v : V) : Ar → Prop
  | .val d => Dp K F v d
  | .slot j => σ[j]? = some (some v)
def tMA (K : PySem.W.Frag) (m : MA) : TA := fun σ H Q => ∃ F G pin ev as ev', RelS K F G pin H σ ev ∧ m ev = some (as, ev') ∧ ∀ vs H' F', Same F F' → New G F F' → RelS K F' G pin H' σ ev' → Paired (ArOk K F' σ) vs as → Q vs H'
def maNil : MA := fun ev => some ([], ev)
def maCons (m : ME) (n : MA) : MA := fun ev => (m ev).bind fun r => (n r.2).map fun q => (Ar.val r.1.d :: q.1, q.2)
def maSlot (i : Nat) (n : MA) : MA := fun ev => match ev[i]? with
  | some (some s) => (n ev).map fun q => (Ar.slot i :: q.1, q.2)
  | _ => none
theorem ArOk_up {F F' : Hp} {σ : St} {v : V} {a : Ar} (h : Same F F') (q : ArOk K F σ v a) : ArOk K F' σ v a := by
  cases a with
  | val d => exact Dp_up h _ _ q
  | slot j => exact q
theorem ma_nil : PA X [] (tMA X.K maNil) := by
  refine PA_of pa_nil fun σ H Q h => ?_
  obtain ⟨F, G, pin, ev, s, ev', R, e, q⟩ := h
  cases e
  exact q [] H F (Same.refl F) (New.refl G F) R .nil
theorem ma_cons {e : Expr} {es : List Expr} {m : ME} {n : MA} (ha : PE X e (tM X.K m)) (hr : PA X es (tMA X.K n)) (hs : starEach (e :: es) X.env = (false, eval e X.env) :: starEach es X.env := by rfl) : PA X (e :: es) (tMA X.K (maCons m n)) := by
  refine PA_of (pa_cons ha hr hs) fun σ H Q h => ?_
  obtain ⟨F, G, pin, ev, s, ev', R, e, q⟩ := h
  unfold maCons at e
  cases e1 : m ev with
  | none => rw [e1] at e; cases e
  | some r =>
    obtain ⟨s1, ev1⟩ := r
    rw [e1] at e
    simp only [Option.bind_some] at e
    cases e2 : n ev1 with
    | none => rw [e2] at e; cases e
    | some r2 =>
      obtain ⟨as, ev2⟩ := r2
      rw [e2] at e
      cases e
      refine tM_d R e1 fun v H1 F1 sm1 n1 R1 d1 => ?_
      exact ⟨F1, G, pin, ev1, as, ev2, R1, e2, fun vs H2 F2 sm2 n2 R2 p => q _ H2 F2 (sm1.trans sm2) (n1.trans n2) R2 (.cons (Dp_up sm2 _ _ d1) p)⟩
theorem slot_val {F G H : Hp} {pin : Nat → Addr} {σ : St} {ev : Ev} {i : Nat} {s : Sl} (R : RelS K F G pin H σ ev) (e : ev[i]? = some (some s)) : ∃ v, σ[i]? = some (some v) := by
  obtain ⟨v, _, h, _⟩ := slot_read R e
  exact ⟨v, h⟩
theorem ma_slot (i : Nat) {x : Str} {p : Pos} {es : List Expr} {n : MA} (hr : PA X es (tMA X.K n)) (hN : X.N[i]? = some x := by rfl) (hv : Vis X.env.scope x := by first | exact Or.inl rfl | exact Or.inr (Or.inl rfl) | exact Or.inr (Or.inr rfl)) (hd : (x == ("__debug__" : Str)) = false := by decide)
    (hcd : (x == ("__classdict__" : Str)) = false := by decide) (hs : starEach (.Name x p :: es) X.env = (false, eval (.Name x p) X.env) :: starEach es X.env := by rfl) : PA X (.Name x p :: es) (tMA X.K (maSlot i n)) := by
  refine PA_of (pa_cons (pe_var (i := i) hN hv hd hcd) hr hs) fun σ H Q h => ?_
  obtain ⟨F, G, pin, ev, s, ev', R, e, q⟩ := h
  unfold maSlot at e
  split at e
  · rename_i s e1
    cases e2 : n ev with
    | none => rw [e2] at e; cases e
    | some r2 =>
      obtain ⟨as, ev2⟩ := r2
      rw [e2] at e
      cases e
      obtain ⟨v, e3⟩ := slot_val R e1
      exact ⟨v, e3, F, G, pin, ev, as, ev2, R, e2, fun vs H2 F2 sm2 n2 R2 p => q _ H2 F2 sm2 n2 R2 (.cons e3 p)⟩
  · cases e
def Ar.d? : Ar → Option D
  | .val d => some d
  | .slot _ => none
def ads : List Ar → Option (List D)
  | [] => some []
  | .val d :: r => (ads r).map fun ds => d :: ds
  | .slot _ :: _ => none
theorem ads_dp {F : Hp} {σ : St} : ∀ {as : List Ar} {vs : List V} {ds : List D}, Paired (ArOk K F σ) vs as → ads as = some ds → DpAll K F vs ds
  | [], _, _, p, e => by cases p; cases e; exact .nil
  | .val d :: r, _, ds, p, e => by
    cases p with
    | cons h1 h2 =>
      unfold ads at e
      cases e2 : ads r with
      | none => rw [e2] at e; cases e
      | some es =>
        rw [e2] at e
        cases e
        exact .cons h1 (ads_dp h2 e2)
  | .slot j :: r, _, ds, p, e => by cases e
def mtup (m : MA) : ME := fun ev => (m ev).bind fun r => (ads r.1).bind fun ds => if ds.length ≤ sizeLine then some (.frz (.tuple ds), r.2) else none
def mlst (m : MA) : ME := fun ev => (m ev).bind fun r => (ads r.1).bind fun ds => if ds.length ≤ sizeLine then some (.own ds, r.2) else none
theorem me_tup {x1} {es : List Expr} {m : MA} (h : PA X es (tMA X.K m)) : PE X (.Tuple es x1 pos) (tM X.K (mtup m)) := by
  refine PE_of (pe_tup h) fun σ H Q h => ?_
  obtain ⟨F, G, pin, ev, s, ev', R, e, q⟩ := h
  unfold mtup at e
  cases e1 : m ev with
  | none => rw [e1] at e; cases e
  | some r =>
    obtain ⟨as, ev1⟩ := r
    rw [e1] at e
    simp only [Option.bind_some] at e
    cases e2 : ads as with
    | none => rw [e2] at e; cases e
    | some ds =>
      rw [e2] at e
      simp only [Option.bind_some] at e
      split at e
      · rename_i hz
        cases e
        refine ⟨F, G, pin, ev, as, _, R, e1, fun vs H1 F1 s1 n1 R1 p => ?_⟩
        have dp := ads_dp p e2
        refine ⟨by rw [DpAll_len dp]; exact hz, fin_tup R1.fh (fun w H3 F3 a b c d r => ?_) dp⟩
        obtain ⟨R3, n3⟩ := R1.grow a b c d
        exact q w H3 F3 (s1.trans a) (n1.trans n3) R3 (r.rr R1)
      · cases e
theorem me_lst {es : List Expr} {m : MA} (h : PA X es (tMA X.K m)) : PE X (.List es pos) (tM X.K (mlst m)) := by
  refine PE_of (pe_lst h) fun σ H Q h => ?_
  obtain ⟨F, G, pin, ev, s, ev', R, e, q⟩ := h
  unfold mlst at e
  cases e1 : m ev with
  | none => rw [e1] at e; cases e
  | some r =>
    obtain ⟨as, ev1⟩ := r
    rw [e1] at e
    simp only [Option.bind_some] at e
    cases e2 : ads as with
    | none => rw [e2] at e; cases e
    | some ds =>
      rw [e2] at e
      simp only [Option.bind_some] at e
      split at e
      · rename_i hz
        cases e
        refine ⟨F, G, pin, ev, as, _, R, e1, fun vs H1 F1 s1 n1 R1 p => ?_⟩
        have dp := ads_dp p e2
        refine ⟨by rw [DpAll_len dp]; exact hz, fin_lst R1.fh (fun w H3 F3 a b c d r => ?_) dp⟩
        obtain ⟨R3, n3⟩ := R1.grow a b c d
        exact q w H3 F3 (s1.trans a) (n1.trans n3) R3 (r.rr R1)
      · cases e
def rMC (K : PySem.W.Frag) (f : List D → Option Sl) : List V → Hp → VK → Prop := fun xs H Q => ∃ F ds s, Same F H ∧ DpAll K F xs ds ∧ f ds = some s ∧ Fin K F H s Q
def mcallB (f : List D → Option Sl) (m : MA) : ME := fun ev => (m ev).bind fun r => (ads r.1).bind fun ds => (f ds).map fun s => (s, r.2)
theorem tM_callB {f : List D → Option Sl} {m : MA} {σ : St} {H : Hp} {Q : VK} (h : tM K (mcallB f m) σ H Q) : tMA K m σ H fun vs H1 => rMC K f vs H1 Q := by
  obtain ⟨F, G, pin, ev, s, ev', R, e, q⟩ := h
  unfold mcallB at e
  cases e1 : m ev with
  | none => rw [e1] at e; cases e
  | some r =>
    obtain ⟨as, ev1⟩ := r
    rw [e1] at e
    simp only [Option.bind_some] at e
    cases e2 : ads as with
    | none => rw [e2] at e; cases e
    | some ds =>
      rw [e2] at e
      simp only [Option.bind_some] at e
      cases e3 : f ds with
      | none => rw [e3] at e; cases e
      | some z =>
        rw [e3] at e
        cases e
        refine ⟨F, G, pin, ev, as, _, R, e1, fun vs H1 F1 s1 n1 R1 p => ?_⟩
        refine ⟨F1, ds, _, R1.fh, ads_dp p e2, e3, fun w H3 F3 a b c d r => ?_⟩
        obtain ⟨R3, n3⟩ := R1.grow a b c d
        exact q w H3 F3 (s1.trans a) (n1.trans n3) R3 (r.rr R1)
theorem me_callB {f : List D → Option Sl} {x : Str} {id : String} {p : Pos} {e : Expr} {es : List Expr} {m : MA} (hc : CallR X (.builtin id) (rMC X.K f)) (hg : Gl X x) (hm : X.mg x = none) (hv : bootBuiltins x = some (.builtin id)) (ha : PA X (e :: es) (tMA X.K m)) (hn : x ≠ "__name__" := by decide) (hdb : (x == ("__debug__" : Str)) = false := by decide)
    (he : starEach (e :: es) X.env = (false, eval e X.env) :: starEach es X.env := by rfl) (hpl : (backTo pos (starEach es X.env)).any (·.1) = false := by rfl) : PE X (.Call (.Name x p) (e :: es) [] pos) (tM X.K (mcallB f m)) :=
  PE_of (pe_callB hc hg hm hv ha hn hdb he hpl) fun _ _ _ h => tM_callB h
theorem me_callTy {f : List D → Option Sl} {x : Str} {T : String} {p : Pos} {e : Expr} {es : List Expr} {m : MA} (hc : CallR X (.type T) (rMC X.K f)) (hg : Gl X x) (hm : X.mg x = none) (hv : bootBuiltins x = some (.type T)) (ha : PA X (e :: es) (tMA X.K m)) (hn : x ≠ "__name__" := by decide) (hdb : (x == ("__debug__" : Str)) = false := by decide)
    (he : starEach (e :: es) X.env = (false, eval e X.env) :: starEach es X.env := by rfl) (hpl : (backTo pos (starEach es X.env)).any (·.1) = false := by rfl) : PE X (.Call (.Name x p) (e :: es) [] pos) (tM X.K (mcallB f m)) :=
  PE_of (pe_callTy hc hg hm hv ha hn hdb he hpl) fun _ _ _ h => tM_callB h
def Sl.flat : Sl → Bool
  | .frz .none => true
  | .frz (.bool _) => true
  | .frz (.int _) => true
  | .frz (.str _) => true
  | _ => false
def mrd1 (f : List D → Option Sl) (i : Nat) : ME := fun ev => match ev[i]? with
  | some (some s) => (f [s.d]).bind fun r => if r.flat = true then some (r, ev) else none
  | _ => none
theorem tM_rd1 {f : List D → Option Sl} {i : Nat} {σ : St} {H : Hp} {Q : VK} (h : tM K (mrd1 f i) σ H Q) : tCons (tVar i) tNil σ H fun vs H1 => rMC K f vs H1 Q := by
  obtain ⟨F, G, pin, ev, s, ev', R, e, q⟩ := h
  unfold mrd1 at e
  split at e
  · rename_i t e1
    cases e3 : f [t.d] with
    | none => rw [e3] at e; cases e
    | some z =>
      rw [e3] at e
      simp only [Option.bind_some] at e
      split at e
      · rename_i hz
        cases e
        obtain ⟨v, F', e2, s1, s2, d1⟩ := slot_read R e1
        refine ⟨v, e2, F', [t.d], s, s2, .cons d1 .nil, e3, fun w H3 F3 a b c d r => ?_⟩
        obtain ⟨R3, n3⟩ := R.grow (F' := F) (Same.refl F) (fun _ _ e => .inl e) c (fun b o e => c _ _ (R.fh _ _ e))
        refine q w H3 F (Same.refl F) (New.refl G F) R3 ?_
        cases s with
        | frz d =>
          cases d with
          | none => cases r; exact .non
          | bool b => cases r; exact .bl b
          | int i => cases r; exact .int i
          | str x => cases r; exact .str x
          | list ds => cases hz
          | tuple ds => cases hz
          | dict ds => cases hz
        | own ds => cases hz
        | inn ds => cases hz
      · cases e
  · cases e
theorem me_rdB {f : List D → Option Sl} {x : Str} {id : String} {p p2 : Pos} (i : Nat) {y : Str} (hc : CallR X (.builtin id) (rMC X.K f)) (hg : Gl X x) (hm : X.mg x = none) (hv : bootBuiltins x = some (.builtin id)) (hN : X.N[i]? = some y := by rfl) (hvi : Vis X.env.scope y := by first | exact Or.inl rfl | exact Or.inr (Or.inl rfl) | exact Or.inr (Or.inr rfl))
    (hd : (y == ("__debug__" : Str)) = false := by decide) (hcd : (y == ("__classdict__" : Str)) = false := by decide) (hn : x ≠ "__name__" := by decide) (hdb : (x == ("__debug__" : Str)) = false := by decide)
    (he : starEach [.Name y p2] X.env = (false, eval (.Name y p2) X.env) :: starEach [] X.env := by rfl) (hpl : (backTo pos (starEach [] X.env)).any (·.1) = false := by rfl) : PE X (.Call (.Name x p) [.Name y p2] [] pos) (tM X.K (mrd1 f i)) :=
  PE_of (pe_callB hc hg hm hv (pa_cons (pe_var (i := i) hN hvi hd hcd) pa_nil he) hn hdb he hpl) fun _ _ _ h => tM_rd1 h
def mtupN (i : Nat) : ME := fun ev => match ev[i]? with
  | some (some s) => (match s.d with
    | .list ds => some (.frz (.tuple ds), ev)
    | .tuple ds => some (.frz (.tuple ds), ev)
    | _ => none)
  | _ => none
def mlstN (i : Nat) : ME := fun ev => match ev[i]? with
  | some (some s) => (match s.d with
    | .list ds => some (.own ds, ev)
    | .tuple ds => some (.own ds, ev)
    | _ => none)
  | _ => none
theorem slot_seq {F G H : Hp} {pin : Nat → Addr} {σ : St} {ev : Ev} {i : Nat} {s : Sl} {ds : List D} (R : RelS K F G pin H σ ev) (e : ev[i]? = some (some s)) (h : s.d = .list ds) : ∃ a vs, σ[i]? = some (some (.ref a)) ∧ SqL K H a vs ∧ DpAll K F vs ds := by
  cases hc : s.cont with
  | some es =>
    obtain ⟨a, vs, e1, q1, q2, q3, q4⟩ := R.mu i s es e hc
    have : es = ds := by
      cases s with
      | frz d => cases hc
      | own fs => cases hc; cases h; rfl
      | inn fs => cases hc; cases h; rfl
    subst this
    exact ⟨a, vs, e1, .inl (.inl q3), q4⟩
  | none =>
    cases s with
    | frz d =>
      obtain ⟨v, e2, r⟩ := R.fz i d e
      cases h
      cases r with
      | lst hs ha => exact ⟨_, _, e2, R.fh.seq hs, ha⟩
    | own ds => cases hc
    | inn ds => cases hc
theorem slot_tup {F G H : Hp} {pin : Nat → Addr} {σ : St} {ev : Ev} {i : Nat} {s : Sl} {ds : List D} (R : RelS K F G pin H σ ev) (e : ev[i]? = some (some s)) (h : s.d = .tuple ds) : ∃ a vs, σ[i]? = some (some (.ref a)) ∧ SqT K F a vs ∧ DpAll K F vs ds := by
  cases s with
  | frz d =>
    obtain ⟨v, e2, r⟩ := R.fz i d e
    cases h
    cases r with
    | tup hs ha => exact ⟨_, _, e2, hs, ha⟩
  | own ds => cases h
  | inn ds => cases h
theorem me_tupN (i : Nat) {y : Str} {p p2 : Pos} (hg : Gl X "tuple") (hm : X.mg "tuple" = none) (hN : X.N[i]? = some y := by rfl) (hvi : Vis X.env.scope y := by first | exact Or.inl rfl | exact Or.inr (Or.inl rfl) | exact Or.inr (Or.inr rfl))
    (hd : (y == ("__debug__" : Str)) = false := by decide) (hcd : (y == ("__classdict__" : Str)) = false := by decide)
    (he : starEach [.Name y p2] X.env = (false, eval (.Name y p2) X.env) :: starEach [] X.env := by rfl) (hpl : (backTo pos (starEach [] X.env)).any (·.1) = false := by rfl) : PE X (.Call (.Name "tuple" p) [.Name y p2] [] pos) (tM X.K (mtupN i)) := by
  refine PE_of (pe_callTy call_tuple_of hg hm (by decide +kernel) (pa_cons (pe_var (i := i) hN hvi hd hcd) pa_nil he) (by decide) (by decide) he hpl) fun σ H Q h => ?_
  obtain ⟨F, G, pin, ev, s, ev', R, e, q⟩ := h
  unfold mtupN at e
  split at e
  · rename_i t e1
    split at e
    · rename_i ds e2
      cases e
      obtain ⟨a, vs, e3, hs, ha⟩ := slot_seq R e1 e2
      refine ⟨_, e3, a, vs, rfl, .inl ⟨hs, fin_tup R.fh (fun w H3 F3 a b c d r => ?_) ha⟩⟩
      obtain ⟨R3, n3⟩ := R.grow a b c d
      exact q w H3 F3 a n3 R3 (r.rr R)
    · rename_i ds e2
      cases e
      obtain ⟨a, vs, e3, hs, ha⟩ := slot_tup R e1 e2
      exact ⟨_, e3, a, vs, rfl, .inr ⟨Same_seqT R.fh hs, q _ H F (Same.refl F) (New.refl G F) R (.tup hs ha)⟩⟩
    · cases e
  · cases e
theorem me_lstN (i : Nat) {y : Str} {p p2 : Pos} (hg : Gl X "list") (hm : X.mg "list" = none) (hN : X.N[i]? = some y := by rfl) (hvi : Vis X.env.scope y := by first | exact Or.inl rfl | exact Or.inr (Or.inl rfl) | exact Or.inr (Or.inr rfl))
    (hd : (y == ("__debug__" : Str)) = false := by decide) (hcd : (y == ("__classdict__" : Str)) = false := by decide)
    (he : starEach [.Name y p2] X.env = (false, eval (.Name y p2) X.env) :: starEach [] X.env := by rfl) (hpl : (backTo pos (starEach [] X.env)).any (·.1) = false := by rfl) : PE X (.Call (.Name "list" p) [.Name y p2] [] pos) (tM X.K (mlstN i)) := by
  refine PE_of (pe_callTy call_list_of hg hm (by decide +kernel) (pa_cons (pe_var (i := i) hN hvi hd hcd) pa_nil he) (by decide) (by decide) he hpl) fun σ H Q h => ?_
  obtain ⟨F, G, pin, ev, s, ev', R, e, q⟩ := h
  unfold mlstN at e
  split at e
  · rename_i t e1
    split at e
    · rename_i ds e2
      cases e
      obtain ⟨a, vs, e3, hs, ha⟩ := slot_seq R e1 e2
      refine ⟨_, e3, a, vs, rfl, .inl hs, fin_lst R.fh (fun w H3 F3 a b c d r => ?_) ha⟩
      obtain ⟨R3, n3⟩ := R.grow a b c d
      exact q w H3 F3 a n3 R3 (r.rr R)
    · rename_i ds e2
      cases e
      obtain ⟨a, vs, e3, hs, ha⟩ := slot_tup R e1 e2
      refine ⟨_, e3, a, vs, rfl, .inr (Same_seqT R.fh hs), fin_lst R.fh (fun w H3 F3 a b c d r => ?_) ha⟩
      obtain ⟨R3, n3⟩ := R.grow a b c d
      exact q w H3 F3 a n3 R3 (r.rr R)
    · cases e
  · cases e
def itemD (d e : D) : Option D := match d, e with
  | .list ds, .int i => atI ds i
  | .tuple ds, .int i => atI ds i
  | .str z, .int i => if z.length ≤ sizeLine then (atI z.cps.toList i).map fun c => .str ⟨#[c]⟩ else none
  | _, _ => none
def mixN (i : Nat) (m : ME) : ME := fun ev => match ev[i]? with
  | some (some _) => (m ev).bind fun r => (match r.2[i]? with
    | some (some s) => (itemD s.d r.1.d).map fun d => (.frz d, r.2)
    | _ => none)
  | _ => none
theorem atI_dp {F : Hp} {vs : List V} {ds : List D} {i : Int} {d : D} (h : DpAll K F vs ds) (e : atI ds i = some d) : ∃ v, atI vs i = some v ∧ Dp K F v d := by
  unfold atI at e ⊢
  rw [DpAll_len h]
  cases q : ixN ds.length i with
  | none => rw [q] at e; cases e
  | some j =>
    rw [q] at e
    simp only [Option.bind_some] at e ⊢
    exact DpAll_get h e
theorem ix_slot {F G H : Hp} {pin : Nat → Addr} {σ : St} {ev : Ev} {i : Nat} {s : Sl} {d : D} {y : V} {t : D} {Q : VK} (R : RelS K F G pin H σ ev) (e : ev[i]? = some (some s)) (hy : Dp K F y t) (h : itemD s.d t = some d)
    (q : ∀ v, Dp K F v d → Q v H) : ∃ v, σ[i]? = some (some v) ∧ rIx K v y H Q := by
  unfold itemD at h
  split at h
  · rename_i ds j e2
    cases hy
    obtain ⟨a, vs, e3, hs, ha⟩ := slot_seq R e e2
    obtain ⟨v, e4, r⟩ := atI_dp ha h
    exact ⟨_, e3, .inl ⟨a, vs, _, v, rfl, rfl, hs, e4, q v r⟩⟩
  · rename_i ds j e2
    cases hy
    obtain ⟨a, vs, e3, hs, ha⟩ := slot_tup R e e2
    obtain ⟨v, e4, r⟩ := atI_dp ha h
    exact ⟨_, e3, .inr (.inl ⟨a, vs, _, v, rfl, rfl, Same_seqT R.fh hs, e4, q v r⟩)⟩
  · rename_i z j e2
    cases hy
    split at h
    · rename_i hz
      cases e5 : atI z.cps.toList j with
      | none => rw [e5] at h; cases h
      | some c =>
        rw [e5] at h
        cases h
        cases s with
        | frz d =>
          cases e2
          obtain ⟨v, e6, r⟩ := R.fz i _ e
          cases r
          exact ⟨_, e6, .inr (.inr ⟨z, _, c, rfl, rfl, hz, e5, q _ (.str _)⟩)⟩
        | own ds => cases e2
        | inn ds => cases e2
    · cases h
  · cases h
theorem me_ixN (i : Nat) {y : Str} {p : Pos} {b : Expr} {m : ME} (hb : PE X b (tM X.K m)) (hs : PlainIx b) (hN : X.N[i]? = some y := by rfl) (hvi : Vis X.env.scope y := by first | exact Or.inl rfl | exact Or.inr (Or.inl rfl) | exact Or.inr (Or.inr rfl))
    (hd : (y == ("__debug__" : Str)) = false := by decide) (hcd : (y == ("__classdict__" : Str)) = false := by decide) : PE X (.Subscript (.Name y p) b pos) (tM X.K (mixN i m)) := by
  refine PE_of (pe_ix ix_seq (pe_var (i := i) hN hvi hd hcd) hb hs) fun σ H Q h => ?_
  obtain ⟨F, G, pin, ev, s, ev', R, e, q⟩ := h
  unfold mixN at e
  split at e
  · rename_i s0 e0
    cases e1 : m ev with
    | none => rw [e1] at e; cases e
    | some r =>
      obtain ⟨t, ev1⟩ := r
      rw [e1] at e
      simp only [Option.bind_some] at e
      split at e
      · rename_i u e2
        cases e3 : itemD u.d t.d with
        | none => rw [e3] at e; cases e
        | some d =>
          rw [e3] at e
          cases e
          obtain ⟨v, e4⟩ := slot_val R e0
          refine ⟨v, e4, tM_d R e1 fun w H1 F1 sm1 n1 R1 d1 => ?_⟩
          obtain ⟨v', e5, z⟩ := ix_slot (Q := Q) R1 e2 d1 e3 fun x hx => q x H1 F1 sm1 n1 R1 hx
          rw [e4] at e5
          cases e5
          exact z
      · cases e
  · cases e
end
end MM
end
section
set_option Elab.async false
set_option linter.all false
set_option maxRecDepth 100000
set_option maxHeartbeats 4000000
namespace MM
open PySem PySem.Spec L2
section
variable {X : Cx} {pos : Pos} {K : PySem.W.Frag}
theorem RelS.write {F G H : Hp} {pin : Nat → Addr} {σ : St} {ev : Ev} {i : Nat} {s : Sl} {ds es : List D} {ws : List V} {a : Addr} (R : RelS K F G pin H σ ev) (e : ev[i]? = some (some s)) (c : s.cont = some ds) (ea : σ[i]? = some (some (.ref a)))
    (r : DpAll K F ws es) : RelS K F G pin (upd H a (.lst ws)) σ (ev.set i (some (s.put es))) := by
  obtain ⟨a', vs, e1, q1, q2, q3, q4⟩ := R.mu i s ds e c
  rw [ea] at e1
  cases e1
  have hl : i < ev.length := (List.getElem?_eq_some_iff.mp e).1
  have nF : ∀ b o, F b = some o → b ≠ a := fun b o z w => by rw [w, q1] at z; cases z
  have nG : ∀ b o, G b = some o → b ≠ a := fun b o z w => by rw [w, q2] at z; cases z
  have other : ∀ (j : Nat) (t : Sl) (fs : List D) (b : Addr), j ≠ i → ev[j]? = some (some t) → t.cont = some fs → σ[j]? = some (some (.ref b)) → b ≠ a := fun j t fs b hj e2 c2 e3 z => by
    subst z
    exact R.sep j i t s fs ds b hj e2 c2 e c e3 ea
  have get : ∀ (j : Nat) (t : Sl), (ev.set i (some (s.put es)))[j]? = some (some t) → (j = i ∧ t = s.put es) ∨ (j ≠ i ∧ ev[j]? = some (some t)) := fun j t z => by
    by_cases hj : j = i
    · subst hj
      rw [List.getElem?_set_self hl] at z
      cases z
      exact .inl ⟨rfl, rfl⟩
    · rw [List.getElem?_set_ne (Ne.symm hj)] at z
      exact .inr ⟨hj, z⟩
  have old : ∀ (j : Nat) (t : Sl) (fs : List D), (ev.set i (some (s.put es)))[j]? = some (some t) → t.cont = some fs → ∃ t' fs', ev[j]? = some (some t') ∧ t'.cont = some fs' := fun j t fs z cz => by
    rcases get j t z with ⟨rfl, rfl⟩ | ⟨_, z⟩
    · exact ⟨s, ds, e, c⟩
    · exact ⟨t, fs, z, cz⟩
  refine ⟨by simpa using R.len, fun b o z => ?_, fun b o z => ?_, fun j d z => ?_, fun j t fs z cz => ?_, fun j fs z => ?_, fun j k t u fs gs b n e1 c1 e2 c2 => ?_⟩
  · rw [upd_ne (nF b o z)]
    exact R.fh b o z
  · rw [upd_ne (nG b o z)]
    exact R.gh b o z
  · rcases get j _ z with ⟨rfl, z'⟩ | ⟨_, z'⟩
    · have : (s.put es).cont = some es := s.put_cont es
      rw [← z'] at this
      cases this
    · exact R.fz j d z'
  · rcases get j t z with ⟨rfl, rfl⟩ | ⟨hj, z⟩
    · have : (s.put es).cont = some es := s.put_cont es
      rw [cz] at this
      cases this
      exact ⟨a, ws, ea, q1, q2, upd_same, r⟩
    · obtain ⟨b, vs', e2, p1, p2, p3, p4⟩ := R.mu j t fs z cz
      refine ⟨b, vs', e2, p1, p2, ?_, p4⟩
      rw [upd_ne (other j t fs b hj z cz e2)]
      exact p3
  · rcases get j _ z with ⟨rfl, z'⟩ | ⟨_, z'⟩
    · cases s with
      | inn gs => exact R.pins _ gs e
      | own gs => cases z'
      | frz d => cases c
    · exact R.pins j fs z'
  · obtain ⟨t', fs', e1', c1'⟩ := old j t fs e1 c1
    obtain ⟨u', gs', e2', c2'⟩ := old k u gs e2 c2
    exact R.sep j k t' u' fs' gs' b n e1' c1' e2' c2'
def mapp (i : Nat) (m : ME) : ME := fun ev => match ev[i]? with
  | some (some (.frz _)) => none
  | some (some _) => (m ev).bind fun r => (match r.2[i]? with
    | some (some s) => (match s.cont with
      | some ds => if ds.length < sizeLine then some (.frz .none, r.2.set i (some (s.put (ds ++ [r.1.d])))) else none
      | none => none)
    | _ => none)
  | _ => none
theorem tyV_list {H : Hp} {a : Addr} {xs : List V} (h : H a = some (.lst xs)) : tyV K "list" (.ref a) H := .inl ⟨rfl, _, .inl (.inl h)⟩
theorem me_append (i : Nat) {y : Str} {p p2 : Pos} {b : Expr} {m : ME} (hb : PE X b (tM X.K m)) (hN : X.N[i]? = some y := by rfl) (hvi : Vis X.env.scope y := by first | exact Or.inl rfl | exact Or.inr (Or.inl rfl) | exact Or.inr (Or.inr rfl))
    (hd : (y == ("__debug__" : Str)) = false := by decide) (hcd : (y == ("__classdict__" : Str)) = false := by decide) (he : starEach [b] X.env = (false, eval b X.env) :: starEach [] X.env := by rfl) (hpl : (backTo pos (starEach [] X.env)).any (·.1) = false := by rfl)
    (hbb : attributeBase (.Name y p) "append" X.env (eval (.Name y p) X.env) = eval (.Name y p) X.env := by rfl)
    (hfew : ((backTo pos (starEach [b] X.env)).all (fun x => !x.1) && (backToKw pos (keywordEach [] X.env)).all (fun x => x.1.isSome)
      && decide (([b] : List Expr).length + ([] : List Keyword).length + (if ([] : List Keyword).isEmpty then 0 else 1) < 30)) = true := by rfl)
    (hline : (p2.endLine == pos.line) = true := by rfl) :
    PE X (.Call (.Attribute (.Name y p) "append" p2) [b] [] pos) (tM X.K (mapp i m)) := by
  refine PE_of (pe_bm PySem.F.plainAttrs_list PySem.F.slot_list_append PySem.F.type_list_append mt_append (pe_var (i := i) hN hvi hd hcd) (pa_cons hb pa_nil he) hbb hfew hline he hpl) fun σ H Q h => ?_
  obtain ⟨F, G, pin, ev, s, ev', R, e, q⟩ := h
  unfold mapp at e
  split at e
  · cases e
  · rename_i s0 hs0 e0
    have c0 : ∃ ds0, s0.cont = some ds0 := by
      cases s0 with
      | frz d => exact absurd rfl (hs0 d)
      | own ds => exact ⟨_, rfl⟩
      | inn ds => exact ⟨_, rfl⟩
    obtain ⟨ds0, c0⟩ := c0
    obtain ⟨a, vs, e1, q1, q2, q3, q4⟩ := R.mu i s0 ds0 e0 c0
    cases e2 : m ev with
    | none => rw [e2] at e; cases e
    | some r =>
      obtain ⟨t, ev1⟩ := r
      rw [e2] at e
      simp only [Option.bind_some] at e
      split at e
      · rename_i u e3
        split at e
        · rename_i ds c3
          split at e
          · rename_i hz
            cases e
            refine ⟨_, e1, tyV_list q3, tM_d R e2 fun w H1 F1 sm1 n1 R1 d1 => ?_⟩
            obtain ⟨a', vs', e1', p1, p2, p3, p4⟩ := R1.mu i u ds e3 c3
            rw [e1] at e1'
            cases e1'
            refine ⟨a, vs', w, rfl, rfl, p3, by rw [DpAll_len p4]; exact hz, ?_⟩
            exact q _ _ F1 sm1 n1 (R1.write e3 c3 e1 (DpAll_append p4 (.cons d1 .nil))) .non
          · cases e
        · cases e
      · cases e
  · cases e
def mpop (i : Nat) (m : ME) : ME := fun ev => match ev[i]? with
  | some (some (.frz _)) => none
  | some (some _) => (m ev).bind fun r => (match r.2[i]?, r.1.d with
    | some (some s), .int j => (match s.cont with
      | some ds => if -(2 ^ 63) ≤ j ∧ j < 2 ^ 63 then ((seqIndex? j ds.length).bind fun k => (ds[k]?).map fun d => (.frz d, r.2.set i (some (s.put (ds.eraseIdx k))))) else none
      | none => none)
    | _, _ => none)
  | _ => none
theorem me_pop (i : Nat) {y : Str} {p p2 : Pos} {b : Expr} {m : ME} (hb : PE X b (tM X.K m)) (hN : X.N[i]? = some y := by rfl) (hvi : Vis X.env.scope y := by first | exact Or.inl rfl | exact Or.inr (Or.inl rfl) | exact Or.inr (Or.inr rfl))
    (hd : (y == ("__debug__" : Str)) = false := by decide) (hcd : (y == ("__classdict__" : Str)) = false := by decide) (he : starEach [b] X.env = (false, eval b X.env) :: starEach [] X.env := by rfl) (hpl : (backTo pos (starEach [] X.env)).any (·.1) = false := by rfl)
    (hbb : attributeBase (.Name y p) "pop" X.env (eval (.Name y p) X.env) = eval (.Name y p) X.env := by rfl)
    (hfew : ((backTo pos (starEach [b] X.env)).all (fun x => !x.1) && (backToKw pos (keywordEach [] X.env)).all (fun x => x.1.isSome)
      && decide (([b] : List Expr).length + ([] : List Keyword).length + (if ([] : List Keyword).isEmpty then 0 else 1) < 30)) = true := by rfl)
    (hline : (p2.endLine == pos.line) = true := by rfl) :
    PE X (.Call (.Attribute (.Name y p) "pop" p2) [b] [] pos) (tM X.K (mpop i m)) := by
  refine PE_of (pe_bm PySem.F.plainAttrs_list PySem.F.slot_list_pop PySem.F.type_list_pop mt_popAt (pe_var (i := i) hN hvi hd hcd) (pa_cons hb pa_nil he) hbb hfew hline he hpl) fun σ H Q h => ?_
  obtain ⟨F, G, pin, ev, s, ev', R, e, q⟩ := h
  unfold mpop at e
  split at e
  · cases e
  · rename_i s0 hs0 e0
    have c0 : ∃ ds0, s0.cont = some ds0 := by
      cases s0 with
      | frz d => exact absurd rfl (hs0 d)
      | own ds => exact ⟨_, rfl⟩
      | inn ds => exact ⟨_, rfl⟩
    obtain ⟨ds0, c0⟩ := c0
    obtain ⟨a, vs, e1, q1, q2, q3, q4⟩ := R.mu i s0 ds0 e0 c0
    cases e2 : m ev with
    | none => rw [e2] at e; cases e
    | some r =>
      obtain ⟨t, ev1⟩ := r
      rw [e2] at e
      simp only [Option.bind_some] at e
      split at e
      · rename_i u j e3 e4
        split at e
        · rename_i ds c3
          split at e
          · rename_i hz
            cases e5 : seqIndex? j ds.length with
            | none => rw [e5] at e; cases e
            | some k =>
              rw [e5] at e
              simp only [Option.bind_some] at e
              cases e6 : ds[k]? with
              | none => rw [e6] at e; cases e
              | some d =>
                rw [e6] at e
                cases e
                refine ⟨_, e1, tyV_list q3, tM_d R e2 fun w H1 F1 sm1 n1 R1 d1 => ?_⟩
                rw [e4] at d1
                cases d1
                obtain ⟨a', vs', e1', p1, p2, p3, p4⟩ := R1.mu i u ds e3 c3
                rw [e1] at e1'
                cases e1'
                obtain ⟨x, ex, dx⟩ := DpAll_get p4 e6
                refine ⟨a, vs', j, k, x, rfl, rfl, p3, hz.1, hz.2, by rw [DpAll_len p4]; exact e5, ex, ?_⟩
                exact q _ _ F1 sm1 n1 (R1.write e3 c3 e1 (DpAll_erase k p4)) dx
          · cases e
        · cases e
      · cases e
  · cases e
def mpop0 (i : Nat) : ME := fun ev => match ev[i]? with
  | some (some s) => (match s.cont with
    | some ds => (ds[ds.length - 1]?).map fun d => (.frz d, ev.set i (some (s.put ds.dropLast)))
    | none => none)
  | _ => none
theorem DpAll_dropLast {F : Hp} {ds : List PyData} {vs : List V} (h : DpAll K F vs ds) : DpAll K F vs.dropLast ds.dropLast := by
  rw [List.dropLast_eq_take, List.dropLast_eq_take, DpAll_len h]
  exact DpAll_take _ h
theorem me_pop0 (i : Nat) {y : Str} {p p2 : Pos} (hN : X.N[i]? = some y := by rfl) (hvi : Vis X.env.scope y := by first | exact Or.inl rfl | exact Or.inr (Or.inl rfl) | exact Or.inr (Or.inr rfl))
    (hd : (y == ("__debug__" : Str)) = false := by decide) (hcd : (y == ("__classdict__" : Str)) = false := by decide)
    (hbb : attributeBase (.Name y p) "pop" X.env (eval (.Name y p) X.env) = eval (.Name y p) X.env := by rfl) (hline : (p2.endLine == pos.line) = true := by rfl) :
    PE X (.Call (.Attribute (.Name y p) "pop" p2) [] [] pos) (tM X.K (mpop0 i)) := by
  refine PE_of (pe_bm0 PySem.F.plainAttrs_list PySem.F.slot_list_pop PySem.F.type_list_pop mt_pop (pe_var (i := i) hN hvi hd hcd) hbb hline) fun σ H Q h => ?_
  obtain ⟨F, G, pin, ev, s, ev', R, e, q⟩ := h
  unfold mpop0 at e
  split at e
  · rename_i u e3
    split at e
    · rename_i ds c3
      cases e6 : ds[ds.length - 1]? with
      | none => rw [e6] at e; cases e
      | some d =>
        rw [e6] at e
        cases e
        obtain ⟨a, vs, e1, p1, p2, p3, p4⟩ := R.mu i u ds e3 c3
        obtain ⟨x, ex, dx⟩ := DpAll_get p4 e6
        refine ⟨_, e1, tyV_list p3, a, vs, x, rfl, rfl, p3, by rw [DpAll_len p4]; exact ex, ?_⟩
        exact q _ _ F (Same.refl F) (New.refl G F) (R.write e3 c3 e1 (DpAll_dropLast p4)) dx
    · cases e
  · cases e
abbrev Fn := List Sl → Option (Sl × Ev)
def spM (K : PySem.W.Frag) (n : Nat) (f : Fn) : Sp := fun vs H Q _ => ∃ F G pin args r outs, args.length = n ∧ RelS K F G pin H (vs.map some) (args.map some) ∧ f args = some (r, outs) ∧
  ∀ v H' F', Same F F' → New G F F' → RelS K F' G pin H' (vs.map some) outs → RR K F' G H' (vs.map some) outs v r → Q v H'
def arSl (ev : Ev) : Ar → Option Sl
  | .val d => some (.frz d)
  | .slot j => match ev[j]? with
    | some (some (.frz d)) => some (.frz d)
    | some (some (.own ds)) => some (.inn ds)
    | some (some (.inn ds)) => some (.inn ds)
    | _ => none
def arSls (ev : Ev) : List Ar → Option (List Sl)
  | [] => some []
  | a :: r => (arSl ev a).bind fun s => (arSls ev r).map fun ss => s :: ss
def arNd : List Ar → List Nat
  | [] => []
  | .val _ :: r => arNd r
  | .slot j :: r => j :: arNd r
def arAt (j : Nat) : List Ar → Option Nat
  | [] => none
  | .val _ :: r => (arAt j r).map (· + 1)
  | .slot i :: r => if i = j then some 0 else (arAt j r).map (· + 1)
def backAt (as : List Ar) (os : Ev) (j : Nat) (o : Option Sl) : Option Sl := match o with
  | some s => (match s.cont with
    | some _ => (match arAt j as with
      | some k => (match os[k]? with
        | some (some (.inn ds)) => some (s.put ds)
        | _ => none)
      | none => some s)
    | none => some s)
  | none => none
def backG (g : Nat → Option Sl → Option Sl) : Nat → Ev → Ev
  | _, [] => []
  | n, o :: r => g n o :: backG g (n + 1) r
def back (ev : Ev) (as : List Ar) (os : Ev) : Ev := backG (backAt as os) 0 ev
theorem backG_len (g : Nat → Option Sl → Option Sl) : ∀ (ev : Ev) (n : Nat), (backG g n ev).length = ev.length
  | [], _ => rfl
  | o :: r, n => by
    show (backG g (n + 1) r).length + 1 = r.length + 1
    rw [backG_len g r]
theorem backG_get (g : Nat → Option Sl → Option Sl) : ∀ (ev : Ev) (n j : Nat), (backG g n ev)[j]? = (ev[j]?).map (g (n + j))
  | [], _, _ => by simp [backG]
  | o :: r, n, 0 => by simp [backG]
  | o :: r, n, j + 1 => by
    have := backG_get g r (n + 1) j
    simp only [backG, List.getElem?_cons_succ]
    rw [this, show n + 1 + j = n + (j + 1) by omega]
def mcall (f : Fn) (m : MA) : ME := fun ev => (m ev).bind fun r => if (arNd r.1).Nodup then (arSls r.2 r.1).bind fun args => (f args).map fun q => (q.1, back r.2 r.1 q.2) else none
theorem arSl_slot {ev : Ev} {j : Nat} {s : Sl} (h : arSl ev (.slot j) = some s) : (∃ d, ev[j]? = some (some (.frz d)) ∧ s = .frz d) ∨ ∃ t ds, ev[j]? = some (some t) ∧ t.cont = some ds ∧ s = .inn ds := by
  have h' : (match ev[j]? with
    | some (some (.frz d)) => some (.frz d)
    | some (some (.own ds)) => some (.inn ds)
    | some (some (.inn ds)) => some (.inn ds)
    | _ => none) = some s := h
  split at h'
  · rename_i d he
    cases h'
    exact .inl ⟨d, he, rfl⟩
  · rename_i ds he
    cases h'
    exact .inr ⟨_, ds, he, rfl, rfl⟩
  · rename_i ds he
    cases h'
    exact .inr ⟨_, ds, he, rfl, rfl⟩
  · cases h'
theorem arg_at {F : Hp} {σ : St} {ev : Ev} : ∀ {as : List Ar} {vs : List V} {args : List Sl}, Paired (ArOk K F σ) vs as → arSls ev as = some args → vs.length = args.length ∧
    ∀ (i : Nat) (s : Sl), args[i]? = some s → ∃ v, vs[i]? = some v ∧ ((∃ d, s = .frz d ∧ as[i]? = some (.val d) ∧ Dp K F v d) ∨ ∃ j, as[i]? = some (.slot j) ∧ σ[j]? = some (some v) ∧ arSl ev (.slot j) = some s)
  | [], _, _, p, e => by
    cases p
    cases e
    exact ⟨rfl, fun i s z => by simp at z⟩
  | a :: r, _, args, p, e => by
    cases p with
    | cons h1 h2 =>
      rename_i v vs
      unfold arSls at e
      cases e1 : arSl ev a with
      | none => rw [e1] at e; cases e
      | some s0 =>
        rw [e1] at e
        simp only [Option.bind_some] at e
        cases e2 : arSls ev r with
        | none => rw [e2] at e; cases e
        | some ss =>
          rw [e2] at e
          cases e
          obtain ⟨hl, hi⟩ := arg_at h2 e2
          refine ⟨by simp [hl], fun i s z => ?_⟩
          cases i with
          | zero =>
            simp only [List.getElem?_cons_zero, Option.some.injEq] at z
            subst z
            refine ⟨v, rfl, ?_⟩
            cases a with
            | val d =>
              cases e1
              exact .inl ⟨d, rfl, rfl, h1⟩
            | slot j => exact .inr ⟨j, rfl, h1, e1⟩
          | succ i =>
            simp only [List.getElem?_cons_succ] at z ⊢
            exact hi i s z
theorem arNd_mem {j : Nat} : ∀ {as : List Ar} {i : Nat}, as[i]? = some (.slot j) → j ∈ arNd as
  | [], _, e => by simp at e
  | .val d :: r, 0, e => by simp at e
  | .val d :: r, i + 1, e => arNd_mem (as := r) (i := i) (by simpa using e)
  | .slot k :: r, 0, e => by
    simp at e
    subst e
    exact List.mem_cons_self
  | .slot k :: r, i + 1, e => List.mem_cons_of_mem _ (arNd_mem (as := r) (i := i) (by simpa using e))
theorem arNd_inj {j : Nat} : ∀ {as : List Ar} {i k : Nat}, (arNd as).Nodup → as[i]? = some (.slot j) → as[k]? = some (.slot j) → i = k
  | [], _, _, _, e, _ => by simp at e
  | .val d :: r, 0, _, _, e, _ => by simp at e
  | .val d :: r, _ + 1, 0, _, _, e => by simp at e
  | .val d :: r, i + 1, k + 1, h, e, e2 => by rw [arNd_inj (as := r) (i := i) (k := k) h (by simpa using e) (by simpa using e2)]
  | .slot l :: r, 0, 0, _, _, _ => rfl
  | .slot l :: r, 0, k + 1, h, e, e2 => by
    simp at e
    subst e
    exact absurd (arNd_mem (by simpa using e2)) (List.nodup_cons.mp h).1
  | .slot l :: r, i + 1, 0, h, e, e2 => by
    simp at e2
    subst e2
    exact absurd (arNd_mem (by simpa using e)) (List.nodup_cons.mp h).1
  | .slot l :: r, i + 1, k + 1, h, e, e2 => by rw [arNd_inj (as := r) (i := i) (k := k) (List.nodup_cons.mp h).2 (by simpa using e) (by simpa using e2)]
theorem arAt_some {j : Nat} : ∀ {as : List Ar} {k : Nat}, arAt j as = some k → as[k]? = some (.slot j)
  | [], _, e => by cases e
  | .val d :: r, k, e => by
    unfold arAt at e
    cases q : arAt j r with
    | none => rw [q] at e; cases e
    | some k' =>
      rw [q] at e
      cases e
      simpa using arAt_some q
  | .slot l :: r, k, e => by
    unfold arAt at e
    split at e
    · rename_i h
      cases e
      rw [h] <;> rfl
    · cases q : arAt j r with
      | none => rw [q] at e; cases e
      | some k' =>
        rw [q] at e
        cases e
        simpa using arAt_some q
theorem arAt_none {j : Nat} : ∀ {as : List Ar} {k : Nat}, arAt j as = none → as[k]? ≠ some (.slot j)
  | [], _, _ => by simp
  | .val d :: r, 0, _ => by simp
  | .val d :: r, k + 1, e => by
    unfold arAt at e
    simpa using arAt_none (as := r) (k := k) (by simpa using e)
  | .slot l :: r, 0, e => by
    unfold arAt at e
    split at e
    · cases e
    · rename_i h; simpa using h
  | .slot l :: r, k + 1, e => by
    unfold arAt at e
    split at e
    · cases e
    · simpa using arAt_none (as := r) (k := k) (by simpa using e)
theorem back_some {ev : Ev} {as : List Ar} {os : Ev} {j : Nat} {s : Sl} (h : (back ev as os)[j]? = some (some s)) :
    ∃ t, ev[j]? = some (some t) ∧ ((t.cont = none ∧ s = t) ∨ (∃ es, t.cont = some es ∧ arAt j as = none ∧ s = t) ∨ ∃ es k ds, t.cont = some es ∧ arAt j as = some k ∧ os[k]? = some (some (.inn ds)) ∧ s = t.put ds) := by
  unfold back at h
  rw [backG_get, Nat.zero_add] at h
  cases e : ev[j]? with
  | none => rw [e] at h; cases h
  | some o =>
    rw [e] at h
    simp only [Option.map_some, Option.some.injEq] at h
    unfold backAt at h
    split at h
    · rename_i t
      refine ⟨t, rfl, ?_⟩
      split at h
      · rename_i es hc
        split at h
        · rename_i k hk
          split at h
          · rename_i ds hd
            cases h
            exact .inr (.inr ⟨es, k, ds, hc, hk, hd, rfl⟩)
          · cases h
        · rename_i hk
          cases h
          exact .inr (.inl ⟨es, hc, hk, rfl⟩)
      · rename_i hc
        cases h
        exact .inl ⟨hc, rfl⟩
    · cases h
open Classical in
theorem tM_call {n : Nat} {f : Fn} {m : MA} {E : XK} (hn : ∀ ev as ev', m ev = some (as, ev') → as.length = n) {σ : St} {H : Hp} {Q : VK} (h : tM K (mcall f m) σ H Q) : tCall (spM K n f) [] E (tMA K m) σ H Q := by
  obtain ⟨F, G, pin, ev, s, ev', R, e, q⟩ := h
  unfold mcall at e
  cases e1 : m ev with
  | none => rw [e1] at e; cases e
  | some r1 =>
    obtain ⟨as, ev1⟩ := r1
    rw [e1] at e
    simp only [Option.bind_some] at e
    split at e
    rotate_left
    · cases e
    rename_i hnd
    cases e2 : arSls ev1 as with
    | none => rw [e2] at e; cases e
    | some args =>
      rw [e2] at e
      simp only [Option.bind_some] at e
      cases e3 : f args with
      | none => rw [e3] at e; cases e
      | some z =>
        obtain ⟨r, outs⟩ := z
        rw [e3] at e
        cases e
        refine ⟨F, G, pin, ev, as, ev1, R, e1, fun vs H1 F1 s1 n1 R1 p => ?_⟩
        show spM K n f (vs ++ []) H1 Q E
        rw [List.append_nil]
        obtain ⟨hl, hat⟩ := arg_at p e2
        have hla : args.length = n := by
          have hp := p.length
          rw [← hl, hp]
          exact hn _ _ _ e1
        have inn : ∀ (i : Nat) (ds : List D), args[i]? = some (.inn ds) → ∃ j t a ws, as[i]? = some (.slot j) ∧ ev1[j]? = some (some t) ∧ t.cont = some ds ∧ vs[i]? = some (.ref a) ∧ σ[j]? = some (some (.ref a)) ∧ F1 a = none ∧ G a = none ∧ H1 a = some (.lst ws) ∧ DpAll K F1 ws ds := fun i ds hi => by
          obtain ⟨v, hv, ⟨d, hd, _⟩ | ⟨j, hj, hs, ha⟩⟩ := hat i _ hi
          · cases hd
          · rcases arSl_slot ha with ⟨d, _, w⟩ | ⟨t, es, he, hc, w⟩
            · cases w
            · cases w
              obtain ⟨a, ws, q1, q2, q3, q4, q5⟩ := R1.mu j _ ds he hc
              rw [hs] at q1
              cases q1
              exact ⟨j, _, a, ws, hj, he, hc, hv, hs, q2, q3, q4, q5⟩
        have noown : ∀ (i : Nat) (ds : List D), args[i]? ≠ some (.own ds) := fun i ds hi => by
          obtain ⟨v, hv, ⟨d, hd, _⟩ | ⟨j, hj, hs, ha⟩⟩ := hat i _ hi
          · cases hd
          · rcases arSl_slot ha with ⟨d, _, w⟩ | ⟨t, es, he, hc, w⟩ <;> cases w
        have am : ∀ (i : Nat) (s : Sl), (args.map some)[i]? = some (some s) → args[i]? = some s := fun i s z => by
          rw [List.getElem?_map] at z
          cases q : args[i]? with
          | none => rw [q] at z; cases z
          | some s' => rw [q] at z; cases z; rfl
        have vm : ∀ (i : Nat) (v : V), vs[i]? = some v → (vs.map some)[i]? = some (some v) := fun i v z => by rw [List.getElem?_map, z]; rfl
        have vm' : ∀ (i : Nat) (v : V), (vs.map some)[i]? = some (some v) → vs[i]? = some v := fun i s z => by
          rw [List.getElem?_map] at z
          cases q : vs[i]? with
          | none => rw [q] at z; cases z
          | some s' => rw [q] at z; cases z; rfl
        have isInn : ∀ (i : Nat) (s : Sl) (ds : List D), args[i]? = some s → s.cont = some ds → s = .inn ds := fun i s ds hi hc => by
          cases s with
          | frz d => cases hc
          | own es => exact absurd hi (noown i es)
          | inn es => cases hc; rfl
        let A : Addr → Prop := fun a => ∃ (i : Nat) (ds : List D), args[i]? = some (.inn ds) ∧ vs[i]? = some (.ref a)
        let Gb : Hp := fun a => if A a then none else H1 a
        let pb : Nat → Addr := fun i => match vs[i]? with
          | some (.ref a) => a
          | _ => 0
        have gA : ∀ a, A a → Gb a = none := fun a h => if_pos h
        have gN : ∀ a, ¬ A a → Gb a = H1 a := fun a h => if_neg h
        have GA : ∀ a o, G a = some o → ¬ A a := fun a o z ⟨i, ds, hi, hv⟩ => by
          obtain ⟨j, t, b, ws, _, _, _, q4, _, _, q7, _⟩ := inn i ds hi
          rw [hv] at q4
          cases q4
          rw [q7] at z
          cases z
        have FA : ∀ a, A a → F1 a = none := fun a ⟨i, ds, hi, hv⟩ => by
          obtain ⟨j, t, b, ws, _, _, _, q4, _, q6, q7, _⟩ := inn i ds hi
          rw [hv] at q4
          cases q4
          exact q6
        have other : ∀ (j : Nat) (t : Sl) (es : List D) (a : Addr), ev1[j]? = some (some t) → t.cont = some es → σ[j]? = some (some (.ref a)) → arAt j as = none → ¬ A a := fun j t es a hj hc hs hk ⟨i, ds, hi, hv⟩ => by
          obtain ⟨j', t', b, ws, q1, q2, q3, q4, q5, _⟩ := inn i ds hi
          rw [hv] at q4
          cases q4
          refine R1.sep j j' t t' es ds a (fun z => ?_) hj hc q2 q3 hs q5
          subst z
          exact arAt_none hk q1
        refine ⟨F1, Gb, pb, args, r, outs, hla, ⟨by simp [hl], R1.fh, fun a o z => ?_, fun i d z => ?_, fun i s ds z c => ?_, fun i ds z => ?_, fun i k s t ds es a n z1 c1 z2 c2 a1 a2 => ?_⟩, e3, fun v H2 F2 s2 n2 R2 r2 => ?_⟩
        · by_cases hA : A a
          · rw [gA a hA] at z; cases z
          · rw [gN a hA] at z; exact z
        · have hi := am i _ z
          obtain ⟨v, hv, ⟨d', hd, _, dp⟩ | ⟨j, hj, hs, ha⟩⟩ := hat i _ hi
          · cases hd
            exact ⟨v, vm i v hv, dp⟩
          · rcases arSl_slot ha with ⟨d', he, w⟩ | ⟨t, es, he, hc, w⟩
            · cases w
              obtain ⟨v', e5, dp⟩ := R1.fz j d he
              rw [hs] at e5
              cases e5
              exact ⟨v, vm i v hv, dp⟩
            · cases w
        · have hi := am i _ z
          have := isInn i s ds hi c
          subst this
          obtain ⟨j, t, a, ws, _, _, _, q4, _, q6, q7, q8, q9⟩ := inn i ds hi
          exact ⟨a, ws, vm i _ q4, q6, gA a ⟨i, ds, hi, q4⟩, q8, q9⟩
        · have hi := am i _ z
          obtain ⟨j, t, a, ws, _, _, _, q4, _⟩ := inn i ds hi
          have : pb i = a := by show (match vs[i]? with | some (.ref a) => a | _ => 0) = a; rw [q4]
          rw [this]
          exact vm i _ q4
        · have h1 := am i _ z1
          have h2 := am k _ z2
          have w1 := isInn i s ds h1 c1
          have w2 := isInn k t es h2 c2
          subst w1 w2
          obtain ⟨j, t, b, ws, q1, q2, q3, q4, q5, _⟩ := inn i ds h1
          obtain ⟨j', t', b', ws', q1', q2', q3', q4', q5', _⟩ := inn k es h2
          have a1 := vm' i _ a1
          have a2 := vm' k _ a2
          rw [q4] at a1
          rw [q4'] at a2
          cases a1
          cases a2
          refine R1.sep j j' t t' ds es _ (fun w => ?_) q2 q3 q2' q3' q5 q5'
          subst w
          exact n (arNd_inj hnd q1 q1')
        ·
          have nF : ∀ a o, H1 a = some o → ¬ A a → F1 a = none → F2 a = none := fun a o z nA f1 => by
            cases w : F2 a with
            | none => rfl
            | some u =>
              rcases n2 a u w with y | y
              · rw [f1] at y; cases y
              · rw [gN a nA, z] at y; cases y
          have keep : ∀ a o, H1 a = some o → ¬ A a → H2 a = some o := fun a o z nA => R2.gh a o (by rw [gN a nA]; exact z)
          have R3 : RelS K F2 G pin H2 σ (back ev1 as outs) := by
            refine ⟨by rw [R1.len]; exact (backG_len _ _ _).symm, R2.fh, fun a o z => keep a o (R1.gh a o z) (GA a o z), fun j d z => ?_, fun j s ds z c => ?_, fun j ds z => ?_, fun i j s t ds es a n z1 c1 z2 c2 a1 a2 => ?_⟩
            · obtain ⟨t, hj, ⟨hc, rfl⟩ | ⟨es, hc, hk, rfl⟩ | ⟨es, k, ds, hc, hk, ho, hs⟩⟩ := back_some z
              · obtain ⟨v, e5, dp⟩ := R1.fz j d hj
                exact ⟨v, e5, Dp_up s2 _ _ dp⟩
              · cases hc
              · have := t.put_cont ds
                rw [← hs] at this
                cases this
            · obtain ⟨t, hj, ⟨hc, rfl⟩ | ⟨es, hc, hk, rfl⟩ | ⟨es, k, ds', hc, hk, ho, rfl⟩⟩ := back_some z
              · rw [hc] at c; cases c
              · rw [hc] at c
                cases c
                obtain ⟨a, ws, q1, q2, q3, q4, q5⟩ := R1.mu j s ds hj hc
                have nA := other j s ds a hj hc q1 hk
                exact ⟨a, ws, q1, nF a _ q4 nA q2, q3, keep a _ q4 nA, DpAll_up s2 _ _ q5⟩
              · rw [t.put_cont ds'] at c
                cases c
                obtain ⟨a, ws, q1, q2, q3, q4, q5⟩ := R2.mu k _ ds ho rfl
                have q1 := vm' k _ q1
                have hka := arAt_some hk
                obtain ⟨b, ws', p1, p2, p3, p4, p5⟩ := R1.mu j t es hj hc
                have hlt : k < args.length := by
                  rw [← hl]
                  exact (List.getElem?_eq_some_iff.mp q1).1
                obtain ⟨v', hv', ⟨d', _, hd', _⟩ | ⟨j', hj', hs', _⟩⟩ := hat k args[k] (by simp [hlt])
                · rw [hka] at hd'; cases hd'
                · rw [hka] at hj'
                  cases hj'
                  rw [p1] at hs'
                  cases hs'
                  rw [q1] at hv'
                  cases hv'
                  exact ⟨a, ws, p1, q2, p3, q4, q5⟩
            · obtain ⟨t, hj, ⟨hc, rfl⟩ | ⟨es, hc, hk, rfl⟩ | ⟨es, k, ds', hc, hk, ho, hs⟩⟩ := back_some z
              · cases hc
              · exact R1.pins j ds hj
              · cases t with
                | frz d => cases hc
                | own fs => cases hs
                | inn fs => exact R1.pins j fs hj
            · obtain ⟨t1, h1, w1⟩ := back_some z1
              obtain ⟨t2, h2, w2⟩ := back_some z2
              have g1 : ∃ es, t1.cont = some es := by
                rcases w1 with ⟨hc, rfl⟩ | ⟨es, hc, _⟩ | ⟨es, k, ds', hc, _⟩
                · exact ⟨_, c1⟩
                · exact ⟨_, hc⟩
                · exact ⟨_, hc⟩
              have g2 : ∃ es, t2.cont = some es := by
                rcases w2 with ⟨hc, rfl⟩ | ⟨es, hc, _⟩ | ⟨es, k, ds', hc, _⟩
                · exact ⟨_, c2⟩
                · exact ⟨_, hc⟩
                · exact ⟨_, hc⟩
              obtain ⟨e1', g1⟩ := g1
              obtain ⟨e2', g2⟩ := g2
              exact R1.sep i j t1 t2 e1' e2' a n h1 g1 h2 g2 a1 a2
          refine q v H2 F2 (s1.trans s2) (n1.trans fun a o z => ?_) R3 ?_
          · rcases n2 a o z with y | y
            · exact .inl y
            · refine .inr ?_
              cases w : G a with
              | none => rfl
              | some u =>
                rw [gN a (GA a u w), R1.gh a u w] at y
                cases y
          · cases r with
            | frz d => exact r2
            | inn ds => exact r2
            | own ds =>
              obtain ⟨a, ws, rfl, q1, q2, q3, q4, q5⟩ := r2
              refine ⟨a, ws, rfl, q1, ?_, q3, q4, fun j t es z c w => ?_⟩
              · cases w : G a with
                | none => rfl
                | some u =>
                  rw [gN a (GA a u w), R1.gh a u w] at q2
                  cases q2
              · obtain ⟨t', hj, ⟨hc, rfl⟩ | ⟨es', hc, hk, rfl⟩ | ⟨es', k, ds', hc, hk, ho, rfl⟩⟩ := back_some z
                · rw [hc] at c; cases c
                · obtain ⟨b, ws', p1, p2, p3, p4, p5⟩ := R1.mu j t es' hj hc
                  rw [p1] at w
                  cases w
                  rw [gN _ (other j t es' _ hj hc p1 hk), p4] at q2
                  cases q2
                · refine q5 k _ ds' ho rfl ?_
                  obtain ⟨a', ws2, y1, _⟩ := R2.mu k _ ds' ho rfl
                  have y1' := vm' k _ y1
                  have hka := arAt_some hk
                  have hlt : k < args.length := by
                    rw [← hl]
                    exact (List.getElem?_eq_some_iff.mp y1').1
                  obtain ⟨v', hv', ⟨d', _, hd', _⟩ | ⟨j', hj', hs', _⟩⟩ := hat k args[k] (by simp [hlt])
                  · rw [hka] at hd'; cases hd'
                  · rw [hka] at hj'
                    cases hj'
                    rw [w] at hs'
                    cases hs'
                    exact vm k _ hv'
end
end MM
end
section
set_option Elab.async false
set_option linter.all false
set_option maxRecDepth 100000
set_option maxHeartbeats 4000000
namespace MM
open PySem PySem.Spec L2
section
variable {X : Cx} {pos : Pos} {K : PySem.W.Frag}
def MaLen (m : MA) (n : Nat) : Prop := ∀ ev as ev', m ev = some (as, ev') → as.length = n
theorem ml_nil : MaLen maNil 0 := fun ev as ev' e => by cases e; rfl
theorem ml_cons {m : ME} {r : MA} {n : Nat} (h : MaLen r n) : MaLen (maCons m r) (n + 1) := fun ev as ev' e => by
  unfold maCons at e
  cases e1 : m ev with
  | none => rw [e1] at e; cases e
  | some x =>
    rw [e1] at e
    simp only [Option.bind_some] at e
    cases e2 : r x.2 with
    | none => rw [e2] at e; cases e
    | some y =>
      rw [e2] at e
      cases e
      simp [h _ _ _ e2]
theorem ml_slot {i : Nat} {r : MA} {n : Nat} (h : MaLen r n) : MaLen (maSlot i r) (n + 1) := fun ev as ev' e => by
  unfold maSlot at e
  split at e
  · cases e2 : r ev with
    | none => rw [e2] at e; cases e
    | some y =>
      rw [e2] at e
      cases e
      simp [h _ _ _ e2]
  · cases e
structure Df (P : Program) (w : World) (K : PySem.W.Frag) (mg : Str → Option Value) (base : Heap) (x : Str) (k n : Nat) (f : Fn) : Prop where
  ex : ∃ (a : Addr) (fd : FuncData) (ps : List Str), mg x = some (.ref a) ∧ PySem.W.keepIn K (.ref a) = true ∧ Binds K fd ps [] ∧ FnOk P w K mg base CX0 k a fd ps (spM K n f)
theorem me_call {x : Str} {k n : Nat} {f : Fn} {p : Pos} {e : Expr} {es : List Expr} {m : MA} (F : Df X.prog X.w X.K X.mg X.base x k n f) (hr : Room k X.A) (hg : Gl X x) (ha : PA X (e :: es) (tMA X.K m)) (hl : MaLen m n)
    (hdb : (x == ("__debug__" : Str)) = false := by decide) (he : starEach (e :: es) X.env = (false, eval e X.env) :: starEach es X.env := by rfl) (hpl : (backTo pos (starEach es X.env)).any (·.1) = false := by rfl) :
    PE X (.Call (.Name x p) (e :: es) [] pos) (tM X.K (mcall f m)) := by
  obtain ⟨a, fd, ps, hm, hk, hb, ok⟩ := F.ex
  exact PE_of (pe_call ok hr hg hm hk hb .nil pass0 ha hdb he hpl) fun _ _ _ h => tM_call hl h
theorem RelS.store {F G H : Hp} {pin : Nat → Addr} {σ : St} {ev : Ev} {i : Nat} {v : V} {s : Sl} {o : Option Sl} (R : RelS K F G pin H σ ev) (r : RR K F G H σ ev v s) (e : ev[i]? = some o) (hi : ∀ ds, o ≠ some (.inn ds)) :
    RelS K F G pin H (σ.set i (some v)) (ev.set i (some s)) := by
  have hl : i < ev.length := (List.getElem?_eq_some_iff.mp e).1
  have hlσ : i < σ.length := by rw [R.len]; exact hl
  have get : ∀ (j : Nat) (t : Sl), (ev.set i (some s))[j]? = some (some t) → (j = i ∧ t = s) ∨ (j ≠ i ∧ ev[j]? = some (some t)) := fun j t z => by
    by_cases hj : j = i
    · subst hj
      rw [List.getElem?_set_self hl] at z
      cases z
      exact .inl ⟨rfl, rfl⟩
    · rw [List.getElem?_set_ne (Ne.symm hj)] at z
      exact .inr ⟨hj, z⟩
  have sl : ∀ j, j ≠ i → (σ.set i (some v))[j]? = σ[j]? := fun j hj => List.getElem?_set_ne (Ne.symm hj)
  have si : (σ.set i (some v))[i]? = some (some v) := List.getElem?_set_self hlσ
  refine ⟨by simpa using R.len, R.fh, R.gh, fun j d z => ?_, fun j t fs z cz => ?_, fun j fs z => ?_, fun j k t u fs gs b n e1 c1 e2 c2 a1 a2 => ?_⟩
  · rcases get j _ z with ⟨rfl, rfl⟩ | ⟨hj, z'⟩
    · exact ⟨v, si, r⟩
    · rw [sl j hj]
      exact R.fz j d z'
  · rcases get j t z with ⟨rfl, rfl⟩ | ⟨hj, z'⟩
    · cases t with
      | frz d => cases cz
      | inn es => exact r.elim
      | own es =>
        cases cz
        obtain ⟨a, vs, rfl, q1, q2, q3, q4, _⟩ := r
        exact ⟨a, vs, si, q1, q2, q3, q4⟩
    · rw [sl j hj]
      exact R.mu j t fs z' cz
  · rcases get j _ z with ⟨rfl, w⟩ | ⟨hj, z'⟩
    · subst w
      exact r.elim
    · rw [sl j hj]
      exact R.pins j fs z'
  · rcases get j t e1 with ⟨rfl, rfl⟩ | ⟨hj, z1⟩
    · rcases get k u e2 with ⟨rfl, rfl⟩ | ⟨hk, z2⟩
      · exact n rfl
      · cases t with
        | frz d => cases c1
        | inn es => exact r.elim
        | own es =>
          obtain ⟨a, vs, rfl, q1, q2, q3, q4, q5⟩ := r
          rw [si] at a1
          cases a1
          rw [sl k hk] at a2
          exact q5 k u gs z2 c2 a2
    · rcases get k u e2 with ⟨rfl, rfl⟩ | ⟨hk, z2⟩
      · cases u with
        | frz d => cases c2
        | inn es => exact r.elim
        | own es =>
          obtain ⟨a, vs, rfl, q1, q2, q3, q4, q5⟩ := r
          rw [si] at a2
          cases a2
          rw [sl j hj] at a1
          exact q5 j t fs z1 c1 a1
      · rw [sl j hj] at a1
        rw [sl k hk] at a2
        exact R.sep j k t u fs gs b n z1 c1 z2 c2 a1 a2
abbrev MG := D → Ev → Option Ev
abbrev MGs := List D → Ev → Option Ev
def gM (K : PySem.W.Frag) (g : MG) : TG := fun v σ H Q => ∃ F G pin ev d ev', RelS K F G pin H σ ev ∧ Dp K F v d ∧ g d ev = some ev' ∧ ∀ σ', RelS K F G pin H σ' ev' → Q σ' H
def gMs (K : PySem.W.Frag) (g : MGs) : TGs := fun vs σ H Q => ∃ F G pin ev ds ev', RelS K F G pin H σ ev ∧ DpAll K F vs ds ∧ g ds ev = some ev' ∧ ∀ σ', RelS K F G pin H σ' ev' → Q σ' H
def isInn : Option Sl → Bool
  | some (.inn _) => true
  | _ => false
def putS (i : Nat) (s : Sl) (ev : Ev) : Option Ev := match ev[i]? with
  | some o => if isInn o = true then none else some (ev.set i (some s))
  | none => none
theorem RelS.putS {F G H : Hp} {pin : Nat → Addr} {σ : St} {ev ev' : Ev} {i : Nat} {v : V} {s : Sl} (R : RelS K F G pin H σ ev) (r : RR K F G H σ ev v s) (e : putS i s ev = some ev') : RelS K F G pin H (σ.set i (some v)) ev' := by
  unfold MM.putS at e
  split at e
  · rename_i o e1
    split at e
    · cases e
    · rename_i hn
      cases e
      exact R.store r e1 fun ds z => hn (by rw [z] <;> rfl)
  · cases e
def gset (i : Nat) : MG := fun d ev => putS i (.frz d) ev
theorem PG_of {tg : Expr} {t t' : TG} (h : PG X tg t) (w : ∀ v σ H Q, t' v σ H Q → t v σ H Q) : PG X tg t' := ⟨fun pins s σ H v u Q I r q => h.run pins s σ H v u Q I r (w v σ H Q q)⟩
theorem PGs_of {tg : List Expr} {t t' : TGs} (h : PGs X tg t) (w : ∀ v σ H Q, t' v σ H Q → t v σ H Q) : PGs X tg t' := ⟨fun pins s σ H v u Q I r q => h.run pins s σ H v u Q I r (w v σ H Q q)⟩
theorem mg_name {i : Nat} {x : Str} (hN : X.N.Nodup) (hi : X.N[i]? = some x) (hx : Loc X.env.scope x) (hf : X.fn x = true ∨ X.env.scope.names.lookup x = some .local := by first | exact .inl rfl | exact .inr rfl | assumption) : PG X (.Name x pos) (gM X.K (gset i)) := by
  refine PG_of (pg_name hN hi hx hf) fun v σ H Q h => ?_
  obtain ⟨F, G, pin, ev, d, ev', R, dp, e, q⟩ := h
  exact q _ (R.putS (s := .frz d) dp e)
def gsNil : MGs := fun ds ev => match ds with
  | [] => some ev
  | _ => none
def gsCons (g : MG) (h : MGs) : MGs := fun ds ev => match ds with
  | d :: r => (g d ev).bind fun ev1 => h r ev1
  | [] => none
theorem mgs_nil : PGs X [] (gMs X.K gsNil) := by
  refine PGs_of pgs_nil fun v σ H Q h => ?_
  obtain ⟨F, G, pin, ev, ds, ev', R, dp, e, q⟩ := h
  unfold gsNil at e
  split at e
  · cases e
    cases dp
    exact ⟨rfl, q _ R⟩
  · cases e
theorem mgs_cons {e : Expr} {es : List Expr} {g : MG} {h : MGs} (h1 : PG X e (gM X.K g)) (h2 : PGs X es (gMs X.K h))
    (hs : (assignEach (e :: es) X.env).map (·.2) = assign e X.env :: (assignEach es X.env).map (·.2) := by rfl) : PGs X (e :: es) (gMs X.K (gsCons g h)) := by
  refine PGs_of (pgs_cons h1 h2 hs) fun vs σ H Q hh => ?_
  obtain ⟨F, G, pin, ev, ds, ev', R, dp, e, q⟩ := hh
  unfold gsCons at e
  split at e
  · rename_i d r
    cases dp with
    | cons d1 d2 =>
      rename_i v vs
      cases e1 : g d ev with
      | none => rw [e1] at e; cases e
      | some ev1 =>
        rw [e1] at e
        simp only [Option.bind_some] at e
        exact ⟨v, vs, rfl, F, G, pin, ev, d, ev1, R, d1, e1, fun σ' R' => ⟨F, G, pin, ev1, r, ev', R', d2, e, q⟩⟩
  · cases e
def gtup (n : Nat) (g : MGs) : MG := fun d ev => match d with
  | .tuple ds => if ds.length = n then g ds ev else none
  | _ => none
theorem mg_tup {es : List Expr} {k : Nat} {g : MGs} {n : Nat} (hc : X.calm = true) (h : PGs X es (gMs X.K g))
    (hn : (assignEach es X.env).length = n := by rfl) (hst : (assignEach es X.env).findIdx? (·.1) = none := by rfl) : PG X (.Tuple es k pos) (gM X.K (gtup n g)) := by
  refine PG_of (pg_tup hc h hn hst) fun v σ H Q hh => ?_
  obtain ⟨F, G, pin, ev, d, ev', R, dp, e, q⟩ := hh
  unfold gtup at e
  split at e
  · rename_i ds
    split at e
    · rename_i hl
      cases dp with
      | tup hs ha =>
        exact ⟨_, _, rfl, Same_seqT R.fh hs, by rw [DpAll_len ha]; exact hl, F, G, pin, ev, ds, ev', R, ha, e, q⟩
    · cases e
  · cases e
inductive Fl where
  | nx
  | bk
  | ct
  | rt (s : Sl)
abbrev MS := Ev → Option (Fl × Ev)
def EOk (K : PySem.W.Frag) (F G H : Hp) (σ : St) (ev : Ev) (D : Ends) : Fl → Prop
  | .nx => D.nx σ H
  | .bk => D.bk σ H
  | .ct => D.ct σ H
  | .rt s => ∀ v, RR K F G H σ ev v s → D.rt v H
def tMS (K : PySem.W.Frag) (m : MS) : TS := fun D σ H => ∃ F G pin ev fl ev', RelS K F G pin H σ ev ∧ m ev = some (fl, ev') ∧ ∀ σ' H' F', Same F F' → New G F F' → RelS K F' G pin H' σ' ev' → EOk K F' G H' σ' ev' D fl
theorem tMS_go {m : MS} {σ : St} {H : Hp} {D : Ends} {F0 F G : Hp} {pin : Nat → Addr} {ev ev' : Ev} {fl : Fl} (R : RelS K F G pin H σ ev) (e : m ev = some (fl, ev')) (s0 : Same F0 F) (n0 : New G F0 F)
    (q : ∀ σ' H' F', Same F0 F' → New G F0 F' → RelS K F' G pin H' σ' ev' → EOk K F' G H' σ' ev' D fl) : tMS K m D σ H :=
  ⟨F, G, pin, ev, fl, ev', R, e, fun σ' H' F' s1 n1 R1 => q σ' H' F' (s0.trans s1) (n0.trans n1) R1⟩
def mnil : MS := fun ev => some (.nx, ev)
def mseq (a b : MS) : MS := fun ev => (a ev).bind fun r => match r.1 with
  | .nx => b r.2
  | fl => some (fl, r.2)
theorem ms_nil : PSs X [] (tMS X.K mnil) := PSs_of pss_nil fun D σ H h => by
  obtain ⟨F, G, pin, ev, fl, ev', R, e, q⟩ := h
  cases e
  exact q σ H F (Same.refl F) (New.refl G F) R
theorem ms_cons {st : Stmt} {rest : List Stmt} {a b : MS} (h1 : PS X st (tMS X.K a)) (h2 : PSs X rest (tMS X.K b)) : PSs X (st :: rest) (tMS X.K (mseq a b)) := PSs_of (pss_cons h1 h2) fun D σ H h => by
  obtain ⟨F, G, pin, ev, fl, ev', R, e, q⟩ := h
  unfold mseq at e
  cases e1 : a ev with
  | none => rw [e1] at e; cases e
  | some r =>
    obtain ⟨f1, ev1⟩ := r
    rw [e1] at e
    simp only [Option.bind_some] at e
    refine ⟨F, G, pin, ev, f1, ev1, R, e1, fun σ1 H1 F1 s1 n1 R1 => ?_⟩
    cases f1 with
    | nx => exact tMS_go R1 e s1 n1 q
    | bk =>
      cases e
      exact q σ1 H1 F1 s1 n1 R1
    | ct =>
      cases e
      exact q σ1 H1 F1 s1 n1 R1
    | rt s =>
      cases e
      exact q σ1 H1 F1 s1 n1 R1
theorem ms_one {st : Stmt} {a : MS} (h1 : PS X st (tMS X.K a)) : PSs X [st] (tMS X.K a) := pss_one h1
def mpass : MS := fun ev => some (.nx, ev)
def mbreak : MS := fun ev => some (.bk, ev)
def mcont : MS := fun ev => some (.ct, ev)
theorem ms_pass : PS X (.Pass pos) (tMS X.K mpass) := PS_of ps_pass fun D σ H h => by
  obtain ⟨F, G, pin, ev, fl, ev', R, e, q⟩ := h
  cases e
  exact q σ H F (Same.refl F) (New.refl G F) R
theorem ms_break : PS X (.Break pos) (tMS X.K mbreak) := PS_of ps_break fun D σ H h => by
  obtain ⟨F, G, pin, ev, fl, ev', R, e, q⟩ := h
  cases e
  exact q σ H F (Same.refl F) (New.refl G F) R
theorem ms_continue : PS X (.Continue pos) (tMS X.K mcont) := PS_of ps_continue fun D σ H h => by
  obtain ⟨F, G, pin, ev, fl, ev', R, e, q⟩ := h
  cases e
  exact q σ H F (Same.refl F) (New.refl G F) R
def mdrop (m : ME) : MS := fun ev => (m ev).map fun r => (.nx, r.2)
theorem ms_expr {e : Expr} {m : ME} (he : PE X e (tM X.K m)) (hs : swapsWith e none pos.line X.env = pure false := by rfl) : PS X (.Expr e pos) (tMS X.K (mdrop m)) := PS_of (ps_expr he hs) fun D σ H h => by
  obtain ⟨F, G, pin, ev, fl, ev', R, e, q⟩ := h
  unfold mdrop at e
  cases e1 : m ev with
  | none => rw [e1] at e; cases e
  | some r =>
    rw [e1] at e
    cases e
    exact ⟨F, G, pin, ev, r.1, r.2, R, e1, fun v H1 F1 s1 n1 R1 _ => q σ H1 F1 s1 n1 R1⟩
def mret (m : ME) : MS := fun ev => (m ev).map fun r => (.rt r.1, r.2)
theorem ms_ret {e : Expr} {m : ME} (he : PE X e (tM X.K m)) : PS X (.Return (some e) pos) (tMS X.K (mret m)) := PS_of (ps_ret he) fun D σ H h => by
  obtain ⟨F, G, pin, ev, fl, ev', R, e, q⟩ := h
  unfold mret at e
  cases e1 : m ev with
  | none => rw [e1] at e; cases e
  | some r =>
    rw [e1] at e
    cases e
    exact ⟨F, G, pin, ev, r.1, r.2, R, e1, fun v H1 F1 s1 n1 R1 rr => q σ H1 F1 s1 n1 R1 v rr⟩
def mretN : MS := fun ev => some (.rt (.frz .none), ev)
theorem ms_retN : PS X (.Return none pos) (tMS X.K mretN) := PS_of ps_retN fun D σ H h => by
  obtain ⟨F, G, pin, ev, fl, ev', R, e, q⟩ := h
  cases e
  exact q σ H F (Same.refl F) (New.refl G F) R _ .non
def mifS (c : MT) (a b : MS) : MS := fun ev => (c ev).bind fun r => if r.1 = true then a r.2 else b r.2
theorem ms_if {c : Expr} {x y : List Stmt} {t : MT} {a b : MS} (hc : PT X c (tMT X.K t)) (ha : PSs X x (tMS X.K a)) (hb : PSs X y (tMS X.K b)) : PS X (.If c x y pos) (tMS X.K (mifS t a b)) := PS_of (ps_if hc ha hb) fun D σ H h => by
  obtain ⟨F, G, pin, ev, fl, ev', R, e, q⟩ := h
  unfold mifS at e
  cases e1 : t ev with
  | none => rw [e1] at e; cases e
  | some r =>
    obtain ⟨c1, ev1⟩ := r
    rw [e1] at e
    simp only [Option.bind_some] at e
    refine ⟨F, G, pin, ev, c1, ev1, R, e1, fun H1 F1 s1 n1 R1 => ?_⟩
    cases c1 with
    | true =>
      simp only [if_true] at e ⊢
      exact tMS_go R1 e s1 n1 q
    | false =>
      simp only [Bool.false_eq_true, if_false] at e ⊢
      exact tMS_go R1 e s1 n1 q
def mset (i : Nat) (m : ME) : MS := fun ev => (m ev).bind fun r => (putS i r.1 r.2).map fun ev2 => (.nx, ev2)
theorem tMS_set {i : Nat} {m : ME} {D : Ends} {σ : St} {H : Hp} (h : tMS K (mset i m) D σ H) : tAsg (tM K m) (gName i) D σ H := by
  obtain ⟨F, G, pin, ev, fl, ev', R, e, q⟩ := h
  unfold mset at e
  cases e1 : m ev with
  | none => rw [e1] at e; cases e
  | some r =>
    rw [e1] at e
    simp only [Option.bind_some] at e
    cases e2 : putS i r.1 r.2 with
    | none => rw [e2] at e; cases e
    | some ev2 =>
      rw [e2] at e
      cases e
      exact ⟨F, G, pin, ev, r.1, r.2, R, e1, fun v H1 F1 s1 n1 R1 rr => q _ H1 F1 s1 n1 (R1.putS rr e2)⟩
theorem ms_set {i : Nat} {x : Str} {e : Expr} {m : ME} {pos' : Pos} (hN : X.N.Nodup) (hi : X.N[i]? = some x) (hx : Loc X.env.scope x) (he : PE X e (tM X.K m)) (hs : swapsWith e (some (.Name x pos')) pos.line X.env = pure false := by rfl) (hf : X.fn x = true ∨ X.env.scope.names.lookup x = some .local := by first | exact .inl rfl | exact .inr rfl | assumption) :
    PS X (.Assign [.Name x pos'] e pos) (tMS X.K (mset i m)) := PS_of (ps_set hN hi hx he hs hf) fun _ _ _ h => tMS_set h
def masg (g : MG) (m : ME) : MS := fun ev => (m ev).bind fun r => (g r.1.d r.2).map fun ev2 => (.nx, ev2)
theorem ms_asg {tg e : Expr} {m : ME} {g : MG} (he : PE X e (tM X.K m)) (hg : PG X tg (gM X.K g)) (hs : swapsWithSole [tg] e pos.line X.env = pure false := by rfl) (hw : swappedStores [tg] e X.env = pure none := by rfl)
    (h1 : (assignEach [tg] X.env).map (·.2) = [assign tg X.env] := by rfl) : PS X (.Assign [tg] e pos) (tMS X.K (masg g m)) := PS_of (ps_asg he hg hs hw h1) fun D σ H h => by
  obtain ⟨F, G, pin, ev, fl, ev', R, e, q⟩ := h
  unfold masg at e
  cases e1 : m ev with
  | none => rw [e1] at e; cases e
  | some r =>
    rw [e1] at e
    simp only [Option.bind_some] at e
    cases e2 : g r.1.d r.2 with
    | none => rw [e2] at e; cases e
    | some ev2 =>
      rw [e2] at e
      cases e
      refine tM_d R e1 fun v H1 F1 s1 n1 R1 dp => ?_
      exact ⟨F1, G, pin, r.2, r.1.d, _, R1, dp, e2, fun σ' R' => q σ' H1 F1 s1 n1 R'⟩
def msub (i : Nat) (mv mi : ME) : MS := fun ev => (mv ev).bind fun r => (match r.2[i]? with
  | some (some _) => (mi r.2).bind fun q => (match q.2[i]?, q.1.d with
    | some (some s), .int j => (match s.cont with
      | some ds => (ixN ds.length j).map fun k => (.nx, q.2.set i (some (s.put (ds.set k r.1.d))))
      | none => none)
    | _, _ => none)
  | _ => none)
theorem ms_sub (i : Nat) {y : Str} {p tpos : Pos} {e ix : Expr} {mv mi : ME} (he : PE X e (tM X.K mv)) (hi : PE X ix (tM X.K mi)) (hN : X.N[i]? = some y := by rfl) (hvi : Vis X.env.scope y := by first | exact Or.inl rfl | exact Or.inr (Or.inl rfl) | exact Or.inr (Or.inr rfl))
    (hd : (y == ("__debug__" : Str)) = false := by decide) (hcd : (y == ("__classdict__" : Str)) = false := by decide)
    (hs : swapsWithSole [.Subscript (.Name y p) ix tpos] e pos.line X.env = pure false := by rfl) (hw : swappedStores [.Subscript (.Name y p) ix tpos] e X.env = pure none := by rfl)
    (h1 : (assignEach [.Subscript (.Name y p) ix tpos] X.env).map (·.2) = [assign (.Subscript (.Name y p) ix tpos) X.env] := by rfl)
    (ha : ∀ v, assign (.Subscript (.Name y p) ix tpos) X.env v = (do
      let ov ← holding [v] (eval (.Name y p) X.env)
      let iv ← holding [v, ov] (eval ix X.env)
      standAt tpos
      holding [v, ov, iv] (setItem ov iv v)
      release [v, ov, iv] []) := by intro _; rfl) : PS X (.Assign [.Subscript (.Name y p) ix tpos] e pos) (tMS X.K (msub i mv mi)) :=
  PS_of (ps_asg he (pg_sub (pe_var (i := i) hN hvi hd hcd) hi set_list ha) hs hw h1) fun D σ H h => by
  obtain ⟨F, G, pin, ev, fl, ev', R, e, q⟩ := h
  unfold msub at e
  cases e1 : mv ev with
  | none => rw [e1] at e; cases e
  | some r =>
    rw [e1] at e
    simp only [Option.bind_some] at e
    split at e
    · rename_i s0 e0
      cases e2 : mi r.2 with
      | none => rw [e2] at e; cases e
      | some z =>
        rw [e2] at e
        simp only [Option.bind_some] at e
        split at e
        · rename_i s j e3 e4
          split at e
          · rename_i ds c3
            cases e5 : ixN ds.length j with
            | none => rw [e5] at e; cases e
            | some k =>
              rw [e5] at e
              cases e
              refine tM_d R e1 fun v H1 F1 s1 n1 R1 d1 => ?_
              obtain ⟨o, e6⟩ := slot_val R1 e0
              refine ⟨o, e6, tM_d R1 e2 fun w H2 F2 s2 n2 R2 d2 => ?_⟩
              rw [e4] at d2
              cases d2
              obtain ⟨a, vs, p1, p2, p3, p4, p5⟩ := R2.mu i s ds e3 c3
              rw [e6] at p1
              cases p1
              refine ⟨a, vs, j, k, rfl, rfl, p4, by rw [DpAll_len p5]; exact e5, ?_⟩
              exact q _ _ F2 (s1.trans s2) (n1.trans n2) (R2.write e3 c3 e6 (DpAll_set (Dp_up s2 _ _ d1) k p5))
          · cases e
        · cases e
    · cases e
def mwN (t : MT) (b : MS) : Nat → Ev → Option (Fl × Ev)
  | 0, _ => none
  | n + 1, ev => (t ev).bind fun r => if r.1 = true then ((b r.2).bind fun z => match z.1 with
    | .nx => mwN t b n z.2
    | .ct => mwN t b n z.2
    | .bk => some (.nx, z.2)
    | .rt s => some (.rt s, z.2)) else some (.nx, r.2)
theorem mwN_mono {t : MT} {b : MS} : ∀ {n : Nat} {ev : Ev} {r : Fl × Ev} (m : Nat), mwN t b n ev = some r → mwN t b (n + m) ev = some r
  | 0, _, _, _, e => by cases e
  | n + 1, ev, r, m, e => by
    rw [show n + 1 + m = (n + m) + 1 by omega]
    unfold mwN at e ⊢
    cases e1 : t ev with
    | none => rw [e1] at e; cases e
    | some x =>
      rw [e1] at e
      simp only [Option.bind_some] at e ⊢
      split at e
      · rename_i hx
        rw [if_pos hx]
        cases e2 : b x.2 with
        | none => rw [e2] at e; cases e
        | some z =>
          rw [e2] at e
          simp only [Option.bind_some] at e ⊢
          split at e
          · exact mwN_mono m e
          · exact mwN_mono m e
          · exact e
          · exact e
      · rename_i hx
        rw [if_neg hx]
        exact e
open Classical in
noncomputable def mwhile (t : MT) (b : MS) : MS := fun ev => if h : ∃ r n, mwN t b n ev = some r then some (Classical.choose h) else none
theorem mwhile_of {t : MT} {b : MS} {n : Nat} {ev : Ev} {r : Fl × Ev} (e : mwN t b n ev = some r) : mwhile t b ev = some r := by
  unfold mwhile
  have h : ∃ r n, mwN t b n ev = some r := ⟨r, n, e⟩
  rw [dif_pos h]
  obtain ⟨n', e'⟩ := Classical.choose_spec h
  have a := mwN_mono n e'
  have c := mwN_mono n' e
  rw [Nat.add_comm, c] at a
  cases a
  rfl
theorem of_mwhile {t : MT} {b : MS} {ev : Ev} {r : Fl × Ev} (e : mwhile t b ev = some r) : ∃ n, mwN t b n ev = some r := by
  unfold mwhile at e
  split at e
  · rename_i h
    cases e
    exact Classical.choose_spec h
  · cases e
theorem ms_while {c : Expr} {body : List Stmt} {t : MT} {b : MS} (hp : PassesOwn (model X.prog X.w) X.A X.env X.xe) (hc : PT X c (tMT X.K t)) (hb : PSs X body (tMS X.K b)) : PS X (.While c body [] pos) (tMS X.K (mwhile t b)) :=
  PS_of (ps_while hp hc hb) fun D σ H h => by
  obtain ⟨F, G, pin, ev, fl, ev', R, e, q⟩ := h
  obtain ⟨n, e⟩ := of_mwhile e
  refine ⟨fun n σ H => ∃ F1 ev1, Same F F1 ∧ New G F F1 ∧ RelS X.K F1 G pin H σ ev1 ∧ mwN t b n ev1 = some (fl, ev'), ⟨n, F, ev, Same.refl F, New.refl G F, R, e⟩, ?_⟩
  rintro n σ1 H1 ⟨F1, ev1, s1, n1, R1, e1⟩
  cases n with
  | zero => cases e1
  | succ n =>
    unfold mwN at e1
    cases e2 : t ev1 with
    | none => rw [e2] at e1; cases e1
    | some x =>
      obtain ⟨c1, ev2⟩ := x
      rw [e2] at e1
      simp only [Option.bind_some] at e1
      refine ⟨F1, G, pin, ev1, c1, ev2, R1, e2, fun H2 F2 s2 n2 R2 => ?_⟩
      cases c1 with
      | false =>
        simp only [Bool.false_eq_true, if_false] at e1 ⊢
        cases e1
        exact q σ1 H2 F2 (s1.trans s2) (n1.trans n2) R2
      | true =>
        simp only [if_true] at e1 ⊢
        cases e3 : b ev2 with
        | none => rw [e3] at e1; cases e1
        | some z =>
          obtain ⟨f3, ev3⟩ := z
          rw [e3] at e1
          simp only [Option.bind_some] at e1
          refine ⟨fun σ' H' => ∃ F3 ev4, Same F F3 ∧ New G F F3 ∧ RelS X.K F3 G pin H' σ' ev4 ∧ mwN t b n ev4 = some (fl, ev'), fun σ' H' z => ⟨n, Nat.lt_succ_self n, z⟩, F2, G, pin, ev2, f3, ev3, R2, e3, fun σ3 H3 F3 s3 n3 R3 => ?_⟩
          have st := s1.trans (s2.trans s3)
          have nt := n1.trans (n2.trans n3)
          cases f3 with
          | nx => exact ⟨F3, ev3, st, nt, R3, e1⟩
          | ct => exact ⟨F3, ev3, st, nt, R3, e1⟩
          | bk =>
            cases e1
            exact q σ3 H3 F3 st nt R3
          | rt s =>
            cases e1
            exact q σ3 H3 F3 st nt R3
def dropE : List Nat → Ev → Ev
  | [], ev => ev
  | v :: vs, ev => dropE vs (ev.set v none)
theorem RelS.dropE {F G H : Hp} {pin : Nat → Addr} {σ : St} : ∀ {vs : List Nat} {ev : Ev}, RelS K F G pin H σ ev → RelS K F G pin H σ (dropE vs ev)
  | [], _, R => R
  | v :: vs, _, R => RelS.dropE (vs := vs) (R.drop v)
theorem dropE_get {j : Nat} {s : Sl} : ∀ {vs : List Nat} {ev : Ev}, (dropE vs ev)[j]? = some (some s) → ev[j]? = some (some s)
  | [], _, e => e
  | v :: vs, ev, e => by
    have e := dropE_get (vs := vs) e
    by_cases hj : v = j
    · subst hj
      by_cases hl : v < ev.length
      · rw [List.getElem?_set_self hl] at e; cases e
      · rw [List.getElem?_eq_none (by simpa using hl)] at e; cases e
    · rw [List.getElem?_set_ne hj] at e
      exact e
theorem RR.dropE {F G H : Hp} {σ : St} {ev : Ev} {vs : List Nat} {v : V} {s : Sl} (r : RR K F G H σ ev v s) : RR K F G H σ (dropE vs ev) v s := by
  cases s with
  | frz d => exact r
  | inn ds => exact r
  | own ds =>
    obtain ⟨a, ws, h1, h2, h3, h4, h5, h6⟩ := r
    exact ⟨a, ws, h1, h2, h3, h4, h5, fun j t es e c => h6 j t es (dropE_get e) c⟩
def mdrp (vs : List Nat) (b : MS) : MS := fun ev => (b ev).map fun r => (r.1, dropE vs r.2)
def mpre (vs : List Nat) (b : MS) : MS := fun ev => b (dropE vs ev)
theorem ms_drp {sts : List Stmt} {b : MS} (vs : List Nat) (h : PSs X sts (tMS X.K b)) : PSs X sts (tMS X.K (mdrp vs b)) := PSs_of h fun D σ H hh => by
  obtain ⟨F, G, pin, ev, fl, ev', R, e, q⟩ := hh
  unfold mdrp at e
  cases e1 : b ev with
  | none => rw [e1] at e; cases e
  | some r =>
    obtain ⟨f1, ev1⟩ := r
    rw [e1] at e
    cases e
    refine ⟨F, G, pin, ev, f1, ev1, R, e1, fun σ' H' F' s1 n1 R1 => ?_⟩
    have z := q σ' H' F' s1 n1 R1.dropE
    cases f1 with
    | nx => exact z
    | bk => exact z
    | ct => exact z
    | rt s => exact fun v rr => z v rr.dropE
theorem ms_pre {st : Stmt} {b : MS} (vs : List Nat) (h : PS X st (tMS X.K b)) : PS X st (tMS X.K (mpre vs b)) := PS_of h fun D σ H hh => by
  obtain ⟨F, G, pin, ev, fl, ev', R, e, q⟩ := hh
  exact ⟨F, G, pin, dropE vs ev, fl, ev', R.dropE, e, q⟩
abbrev MI := Ev → Option (List D × Ev)
structure WalkM (K : PySem.W.Frag) (F : Hp) (J : It) (ds : List D) : Prop where
  go : ∀ i H, Same F H → i < ds.length → J.go i H
  stop : ∀ H, Same F H → J.stop ds.length H
  yld : ∀ (i : Nat) (F1 H : Hp) (x : V) (H' : Hp) (d : D), Same F F1 → Same F1 H → ds[i]? = some d → J.yld i H x H' → ∃ F', Same F1 F' ∧ (∀ a o, F' a = some o → F1 a = some o ∨ H a = none) ∧ Same H H' ∧ Same F' H' ∧ Dp K F' x d
def tMI (K : PySem.W.Frag) (m : MI) : TI := fun σ H R => ∃ F G pin ev ds ev', RelS K F G pin H σ ev ∧ m ev = some (ds, ev') ∧ ∀ J H' F', Same F F' → New G F F' → RelS K F' G pin H' σ ev' → WalkM K F' J ds → R J H'
theorem walkM_list {F : Hp} {a : Addr} {vs : List V} {ds : List D} (hs : SqL K F a vs) (ha : DpAll K F vs ds) : WalkM K F (Itl K a) ds := by
  refine ⟨fun i H sm hi => ?_, fun H sm => ⟨vs, sm.seq hs, by rw [DpAll_len ha]; exact Nat.le_refl _⟩, fun i F1 H x H' d s1 s2 e y => ?_⟩
  · rw [← DpAll_len ha] at hi
    exact ⟨vs, vs[i], sm.seq hs, by simp [hi]⟩
  · obtain ⟨rfl, y⟩ := y
    have e2 := y vs ((s1.trans s2).seq hs)
    obtain ⟨v, e3, dp⟩ := DpAll_get ha e
    rw [e2] at e3
    cases e3
    exact ⟨F1, Same.refl F1, fun _ _ z => .inl z, Same.refl _, s2, Dp_up s1 _ _ dp⟩
theorem walkM_tup {F : Hp} {a : Addr} {vs : List V} {ds : List D} (hs : SqT K F a vs) (ha : DpAll K F vs ds) : WalkM K F (Itt K a) ds := by
  refine ⟨fun i H sm hi => ?_, fun H sm => ⟨vs, Same_seqT sm hs, by rw [DpAll_len ha]; exact Nat.le_refl _⟩, fun i F1 H x H' d s1 s2 e y => ?_⟩
  · rw [← DpAll_len ha] at hi
    exact ⟨vs, vs[i], Same_seqT sm hs, by simp [hi]⟩
  · obtain ⟨rfl, y⟩ := y
    have e2 := y vs (Same_seqT (s1.trans s2) hs)
    obtain ⟨v, e3, dp⟩ := DpAll_get ha e
    rw [e2] at e3
    cases e3
    exact ⟨F1, Same.refl F1, fun _ _ z => .inl z, Same.refl _, s2, Dp_up s1 _ _ dp⟩
def miSeq (m : ME) : MI := fun ev => (m ev).bind fun r => match r.1.d with
  | .list ds => some (ds, r.2)
  | .tuple ds => some (ds, r.2)
  | _ => none
theorem PI_or {tg e : Expr} {t t' : TI} (h : PI X tg e t) (h' : PI X tg e t') : PI X tg e (fun σ H R => t σ H R ∨ t' σ H R) :=
  ⟨fun pins s σ H R I q => q.elim (fun q => h.run pins s σ H R I q) fun q => h'.run pins s σ H R I q⟩
theorem mi_seq {tg l : Expr} {m : ME} (hl : PE X l (tM X.K m)) : PI X tg l (tMI X.K (miSeq m)) := PI_of (PI_or (pi_list hl) (pi_tup hl)) fun σ H R h => by
  obtain ⟨F, G, pin, ev, ds, ev', RR, e, q⟩ := h
  unfold miSeq at e
  cases e1 : m ev with
  | none => rw [e1] at e; cases e
  | some r =>
    rw [e1] at e
    simp only [Option.bind_some] at e
    split at e
    · rename_i es e2
      cases e
      refine .inl (tM_d RR e1 fun v H1 F1 s1 n1 R1 dp => ?_)
      rw [e2] at dp
      cases dp with
      | lst hs ha => exact ⟨_, rfl, ⟨_, R1.fh.seq hs⟩, q _ H1 F1 s1 n1 R1 (walkM_list hs ha)⟩
    · rename_i es e2
      cases e
      refine .inr (tM_d RR e1 fun v H1 F1 s1 n1 R1 dp => ?_)
      rw [e2] at dp
      cases dp with
      | tup hs ha => exact ⟨_, rfl, ⟨_, Same_seqT R1.fh hs⟩, q _ H1 F1 s1 n1 R1 (walkM_tup hs ha)⟩
    · cases e
def intsD (lo : Int) : Nat → List D
  | 0 => []
  | n + 1 => .int lo :: intsD (lo + 1) n
theorem intsD_len (lo : Int) : ∀ n, (intsD lo n).length = n := by
  intro n
  induction n generalizing lo with
  | zero => rfl
  | succ n ih => simp [intsD, ih]
theorem intsD_get : ∀ (n : Nat) (lo : Int) (i : Nat), i < n → (intsD lo n)[i]? = some (.int (lo + i))
  | 0, _, _, h => by omega
  | n + 1, lo, 0, _ => by simp [intsD]
  | n + 1, lo, i + 1, h => by
    simp only [intsD, List.getElem?_cons_succ]
    rw [intsD_get n (lo + 1) i (by omega)]
    congr 2
    push_cast
    omega
theorem walkM_range {F : Hp} {lo : Int} {n : Nat} : WalkM K F (Itr lo n) (intsD lo n) := by
  refine ⟨fun i H sm hi => by rw [intsD_len] at hi; exact hi, fun H sm => by rw [intsD_len]; exact Nat.le_refl n, fun i F1 H x H' d s1 s2 e y => ?_⟩
  obtain ⟨rfl, rfl⟩ := y
  have hi : i < n := by
    have := (List.getElem?_eq_some_iff.mp e).1
    rw [intsD_len] at this
    exact this
  rw [intsD_get n lo i hi] at e
  cases e
  exact ⟨F1, Same.refl F1, fun _ _ z => .inl z, Same.refl _, s2, .int _⟩
def miRng1 (m : MA) : MI := fun ev => (m ev).bind fun r => match ads r.1 with
  | some [.int j] => if -(2 ^ 62) ≤ j ∧ j < 2 ^ 62 then some (intsD 0 j.toNat, r.2) else none
  | _ => none
def miRng2 (m : MA) : MI := fun ev => (m ev).bind fun r => match ads r.1 with
  | some [.int i, .int j] => if -(2 ^ 62) ≤ i ∧ i < 2 ^ 62 ∧ -(2 ^ 62) ≤ j ∧ j < 2 ^ 62 then some (intsD i (j - i).toNat, r.2) else none
  | _ => none
theorem mi_range1 {tg a : Expr} {m : MA} {p : Pos} (hg : Gl X "range") (hm : X.mg "range" = none) (ha : PA X [a] (tMA X.K m)) (hs : starEach [a] X.env = [(false, eval a X.env)] := by rfl) : PI X tg (.Call (.Name "range" p) [a] [] pos) (tMI X.K (miRng1 m)) :=
  PI_of (pi_range1 hg hm ha hs) fun σ H R h => by
  obtain ⟨F, G, pin, ev, ds, ev', RR, e, q⟩ := h
  unfold miRng1 at e
  cases e1 : m ev with
  | none => rw [e1] at e; cases e
  | some r =>
    rw [e1] at e
    simp only [Option.bind_some] at e
    split at e
    · rename_i j e2
      split at e
      · rename_i hb
        cases e
        refine ⟨F, G, pin, ev, r.1, r.2, RR, e1, fun vs H1 F1 s1 n1 R1 p => ?_⟩
        have dp := ads_dp p e2
        cases dp with
        | cons d1 d2 =>
          cases d2
          cases d1
          exact ⟨j, rfl, hb.1, hb.2, q _ H1 F1 s1 n1 R1 walkM_range⟩
      · cases e
    · cases e
theorem mi_range2 {tg a b : Expr} {m : MA} {p : Pos} (hg : Gl X "range") (hm : X.mg "range" = none) (ha : PA X [a, b] (tMA X.K m)) (hs : starEach [a, b] X.env = [(false, eval a X.env), (false, eval b X.env)] := by rfl) (hs2 : starEach [b] X.env = [(false, eval b X.env)] := by rfl) : PI X tg (.Call (.Name "range" p) [a, b] [] pos) (tMI X.K (miRng2 m)) :=
  PI_of (pi_range2 hg hm ha hs hs2) fun σ H R h => by
  obtain ⟨F, G, pin, ev, ds, ev', RR, e, q⟩ := h
  unfold miRng2 at e
  cases e1 : m ev with
  | none => rw [e1] at e; cases e
  | some r =>
    rw [e1] at e
    simp only [Option.bind_some] at e
    split at e
    · rename_i i j e2
      split at e
      · rename_i hb
        cases e
        refine ⟨F, G, pin, ev, r.1, r.2, RR, e1, fun vs H1 F1 s1 n1 R1 p => ?_⟩
        have dp := ads_dp p e2
        cases dp with
        | cons d1 d2 =>
          cases d2 with
          | cons d2 d3 =>
            cases d3
            cases d2
            cases d1
            exact ⟨i, j, rfl, hb, q _ H1 F1 s1 n1 R1 walkM_range⟩
      · cases e
    · cases e
def zipD (xs ys : List D) : List D := (xs.zip ys).map fun p => .tuple [p.1, p.2]
def miZip (m : MA) : MI := fun ev => (m ev).bind fun r => match ads r.1 with
  | some [.list xs, .list ys] => some (zipD xs ys, r.2)
  | some [.tuple xs, .tuple ys] => some (zipD xs ys, r.2)
  | _ => none
theorem zipD_len (xs ys : List D) : (zipD xs ys).length = min xs.length ys.length := by simp [zipD]
theorem zipD_get {xs ys : List D} {i : Nat} {d : D} (h : (zipD xs ys)[i]? = some d) : ∃ x y, xs[i]? = some x ∧ ys[i]? = some y ∧ d = .tuple [x, y] := by
  unfold zipD at h
  rw [List.getElem?_map] at h
  cases e : (xs.zip ys)[i]? with
  | none => rw [e] at h; cases h
  | some p =>
    rw [e] at h
    cases h
    obtain ⟨x, y⟩ := p
    rw [List.getElem?_zip_eq_some] at e
    exact ⟨x, y, e.1, e.2, rfl⟩
theorem yld_pair {F1 H : Hp} {T : Addr} {x y : V} {c d : D} (s2 : Same F1 H) (nT : H T = none) (d1 : Dp K F1 x c) (d2 : Dp K F1 y d) :
    ∃ F', Same F1 F' ∧ (∀ a o, F' a = some o → F1 a = some o ∨ H a = none) ∧ Same H (upd H T (.tup [x, y])) ∧ Same F' (upd H T (.tup [x, y])) ∧ Dp K F' (.ref T) (.tuple [c, d]) := by
  have f1 : F1 T = none := by
    cases e : F1 T with
    | none => rfl
    | some o =>
      have := s2 _ _ e
      rw [nT] at this
      cases this
  have sm : Same F1 (upd F1 T (.tup [x, y])) := fun b o e => by
    rw [upd_ne (ne_of_none e f1)]
    exact e
  refine ⟨upd F1 T (.tup [x, y]), sm, fun b o e => ?_, fun b o e => by rw [upd_ne (ne_of_none e nT)]; exact e, fun b o e => ?_, .tup (.inl (.inl upd_same)) (.cons (Dp_up sm _ _ d1) (.cons (Dp_up sm _ _ d2) .nil))⟩
  · by_cases hb : b = T
    · exact .inr (by rw [hb]; exact nT)
    · rw [upd_ne hb] at e
      exact .inl e
  · by_cases hb : b = T
    · rw [hb, upd_same] at e
      cases e
      rw [hb]
      exact upd_same
    · rw [upd_ne hb] at e ⊢
      exact s2 _ _ e
theorem walkM_zipL {F : Hp} {a b : Addr} {vs ws : List V} {xs ys : List D} (h1 : SqL K F a vs) (a1 : DpAll K F vs xs) (h2 : SqL K F b ws) (a2 : DpAll K F ws ys) : WalkM K F (Itz K a b) (zipD xs ys) := by
  have l1 := DpAll_len a1
  have l2 := DpAll_len a2
  refine ⟨fun i H sm hi => ?_, fun H sm => ⟨vs, ws, sm.seq h1, sm.seq h2, by rw [zipD_len]; omega⟩, fun i F1 H x H' d s1 s2 e y => ?_⟩
  · rw [zipD_len] at hi
    have q1 : i < vs.length := by omega
    have q2 : i < ws.length := by omega
    exact ⟨vs, ws, vs[i], ws[i], sm.seq h1, sm.seq h2, by simp [q1], by simp [q2]⟩
  · obtain ⟨T, x1, y1, rfl, nT, rfl, f1, f2⟩ := y
    obtain ⟨c1, c2, e1, e2, rfl⟩ := zipD_get e
    obtain ⟨v1, g1, p1⟩ := DpAll_get a1 e1
    obtain ⟨v2, g2, p2⟩ := DpAll_get a2 e2
    have z1 := f1 vs ((s1.trans s2).seq h1)
    have z2 := f2 ws ((s1.trans s2).seq h2)
    rw [z1] at g1
    rw [z2] at g2
    cases g1
    cases g2
    exact yld_pair s2 nT (Dp_up s1 _ _ p1) (Dp_up s1 _ _ p2)
theorem walkM_zipT {F : Hp} {a b : Addr} {vs ws : List V} {xs ys : List D} (h1 : SqT K F a vs) (a1 : DpAll K F vs xs) (h2 : SqT K F b ws) (a2 : DpAll K F ws ys) : WalkM K F (RZ.ItzT K a b) (zipD xs ys) := by
  have l1 := DpAll_len a1
  have l2 := DpAll_len a2
  refine ⟨fun i H sm hi => ?_, fun H sm => ⟨vs, ws, Same_seqT sm h1, Same_seqT sm h2, by rw [zipD_len]; omega⟩, fun i F1 H x H' d s1 s2 e y => ?_⟩
  · rw [zipD_len] at hi
    have q1 : i < vs.length := by omega
    have q2 : i < ws.length := by omega
    exact ⟨vs, ws, vs[i], ws[i], Same_seqT sm h1, Same_seqT sm h2, by simp [q1], by simp [q2]⟩
  · obtain ⟨T, x1, y1, rfl, nT, rfl, f1, f2⟩ := y
    obtain ⟨c1, c2, e1, e2, rfl⟩ := zipD_get e
    obtain ⟨v1, g1, p1⟩ := DpAll_get a1 e1
    obtain ⟨v2, g2, p2⟩ := DpAll_get a2 e2
    have z1 := f1 vs (Same_seqT (s1.trans s2) h1)
    have z2 := f2 ws (Same_seqT (s1.trans s2) h2)
    rw [z1] at g1
    rw [z2] at g2
    cases g1
    cases g2
    exact yld_pair s2 nT (Dp_up s1 _ _ p1) (Dp_up s1 _ _ p2)
theorem mi_zip {e e2 : Expr} {m : MA} {p tpos : Pos} {elts : List Expr} {kk : Nat} (hg : Gl X "zip") (hm : X.mg "zip" = none) (ha : PA X [e, e2] (tMA X.K m))
    (hs : starEach [e, e2] X.env = (false, eval e X.env) :: starEach [e2] X.env := by rfl) (hpl : (backTo pos (starEach [e2] X.env)).any (·.1) = false := by rfl) :
    PI X (.Tuple elts kk tpos) (.Call (.Name "zip" p) [e, e2] [] pos) (tMI X.K (miZip m)) :=
  PI_of (RZ.pi_zipA hg hm ha hs hpl) fun σ H R h => by
  obtain ⟨F, G, pin, ev, ds, ev', RR, e, q⟩ := h
  unfold miZip at e
  cases e1 : m ev with
  | none => rw [e1] at e; cases e
  | some r =>
    rw [e1] at e
    simp only [Option.bind_some] at e
    split at e
    · rename_i xs ys e2
      cases e
      refine ⟨F, G, pin, ev, r.1, r.2, RR, e1, fun vs H1 F1 s1 n1 R1 p => ?_⟩
      have dp := ads_dp p e2
      cases dp with
      | cons d1 d2 =>
        cases d2 with
        | cons d2 d3 =>
          cases d3
          cases d1 with
          | lst h1 a1 =>
            cases d2 with
            | lst h2 a2 => exact ⟨_, _, _, _, rfl, .inl ⟨R1.fh.seq h1, R1.fh.seq h2, q _ H1 F1 s1 n1 R1 (walkM_zipL h1 a1 h2 a2)⟩⟩
    · rename_i xs ys e2
      cases e
      refine ⟨F, G, pin, ev, r.1, r.2, RR, e1, fun vs H1 F1 s1 n1 R1 p => ?_⟩
      have dp := ads_dp p e2
      cases dp with
      | cons d1 d2 =>
        cases d2 with
        | cons d2 d3 =>
          cases d3
          cases d1 with
          | tup h1 a1 =>
            cases d2 with
            | tup h2 a2 => exact ⟨_, _, _, _, rfl, .inr ⟨Same_seqT R1.fh h1, Same_seqT R1.fh h2, q _ H1 F1 s1 n1 R1 (walkM_zipT h1 a1 h2 a2)⟩⟩
    · cases e
def mloop (g : MG) (b : MS) : List D → Ev → Option (Fl × Ev)
  | [], ev => some (.nx, ev)
  | d :: ds, ev => (g d ev).bind fun ev1 => (b ev1).bind fun z => match z.1 with
    | .nx => mloop g b ds z.2
    | .ct => mloop g b ds z.2
    | .bk => some (.nx, z.2)
    | .rt s => some (.rt s, z.2)
def mfor (it : MI) (g : MG) (b : MS) : MS := fun ev => (it ev).bind fun r => mloop g b r.1 r.2
theorem ms_for {tg iter : Expr} {body : List Stmt} {it : MI} {g : MG} {b : MS} (hp : PassesOwn (model X.prog X.w) X.A X.env X.xe) (hc : X.calm = true) (hi : PI X tg iter (tMI X.K it)) (hg : PG X tg (gM X.K g)) (hb : PSs X body (tMS X.K b))
    (hs : ∀ x, foldedSetIterable iter X.env x = pure x := by intro _; rfl) : PS X (.For tg iter body [] pos) (tMS X.K (mfor it g b)) := PS_of (ps_for hp hc hi hg hb hs) fun D σ H h => by
  obtain ⟨F, G, pin, ev, fl, ev', R, e, q⟩ := h
  unfold mfor at e
  cases e1 : it ev with
  | none => rw [e1] at e; cases e
  | some r =>
    obtain ⟨ds, ev1⟩ := r
    rw [e1] at e
    simp only [Option.bind_some] at e
    refine ⟨F, G, pin, ev, ds, ev1, R, e1, fun J H1 F1 s1 n1 R1 w => ?_⟩
    refine ⟨fun i m σ H => m = ds.length - i ∧ i ≤ ds.length ∧ ∃ F2 ev2, Same F1 F2 ∧ New G F1 F2 ∧ RelS X.K F2 G pin H σ ev2 ∧ mloop g b (ds.drop i) ev2 = some (fl, ev'), ⟨ds.length, by simp, Nat.zero_le _, F1, ev1, Same.refl F1, New.refl G F1, R1, by simpa using e⟩, ?_⟩
    rintro i m σ2 H2 ⟨rfl, hi, F2, ev2, s2, n2, R2, e2⟩
    by_cases hlt : i < ds.length
    · refine .inr ⟨w.go i H2 (s2.trans R2.fh) hlt, fun σ' H' => ∃ F3 ev3, Same F1 F3 ∧ New G F1 F3 ∧ RelS X.K F3 G pin H' σ' ev3 ∧ mloop g b (ds.drop (i + 1)) ev3 = some (fl, ev'), fun σ' H' z => ⟨ds.length - (i + 1), by omega, rfl, hlt, z⟩, fun x H3 y => ?_⟩
      have ed : ds[i]? = some ds[i] := by simp [hlt]
      obtain ⟨F3, t1, t2, t3, t4, t5⟩ := w.yld i F2 H2 x H3 ds[i] s2 R2.fh ed y
      obtain ⟨R3, n3⟩ := R2.grow t1 t2 t3 t4
      rw [List.drop_eq_getElem_cons hlt] at e2
      unfold mloop at e2
      cases e3 : g ds[i] ev2 with
      | none => rw [e3] at e2; cases e2
      | some ev3 =>
        rw [e3] at e2
        simp only [Option.bind_some] at e2
        cases e4 : b ev3 with
        | none => rw [e4] at e2; cases e2
        | some z =>
          obtain ⟨f4, ev4⟩ := z
          rw [e4] at e2
          simp only [Option.bind_some] at e2
          refine ⟨F3, G, pin, ev2, ds[i], ev3, R3, t5, e3, fun σ' R' => ?_⟩
          refine ⟨F3, G, pin, ev3, f4, ev4, R', e4, fun σ5 H5 F5 s5 n5 R5 => ?_⟩
          have st := s2.trans (t1.trans s5)
          have nt := n2.trans (n3.trans n5)
          cases f4 with
          | nx => exact ⟨F5, ev4, st, nt, R5, e2⟩
          | ct => exact ⟨F5, ev4, st, nt, R5, e2⟩
          | bk =>
            cases e2
            exact q σ5 H5 F5 (s1.trans st) (n1.trans nt) R5
          | rt s =>
            cases e2
            exact q σ5 H5 F5 (s1.trans st) (n1.trans nt) R5
    · have : i = ds.length := by omega
      subst this
      rw [List.drop_length] at e2
      cases e2
      exact .inl ⟨w.stop H2 (s2.trans R2.fh), q σ2 H2 F2 (s1.trans s2) (n1.trans n2) R2⟩
def wipeE (ev : Ev) : List Nat → Ev
  | [] => ev
  | v :: vs => (wipeE ev vs).set v none
theorem wipe_rel {F G H : Hp} {pin : Nat → Addr} {σ : St} {ev : Ev} (R : RelS K F G pin H σ ev) : ∀ vs : List Nat, RelS K F G pin H (wipe σ vs) (wipeE ev vs)
  | [] => R
  | v :: vs => by
    have ih := wipe_rel R vs
    have R1 := ih.drop v
    show RelS K F G pin H ((wipe σ vs).set v none) ((wipeE ev vs).set v none)
    have hn : ∀ (j : Nat) (s : Sl), ((wipeE ev vs).set v none)[j]? = some (some s) → j ≠ v := fun j s e z => by
      subst z
      by_cases hl : j < (wipeE ev vs).length
      · rw [List.getElem?_set_self hl] at e; cases e
      · rw [List.getElem?_eq_none (by simpa using hl)] at e; cases e
    have sl : ∀ j, j ≠ v → ((wipe σ vs).set v none)[j]? = (wipe σ vs)[j]? := fun j hj => List.getElem?_set_ne (Ne.symm hj)
    refine ⟨by simpa using ih.len, R1.fh, R1.gh, fun j d e => ?_, fun j s ds e c => ?_, fun j ds e => ?_, fun i j s t ds es a n e1 c1 e2 c2 a1 a2 => ?_⟩
    · rw [sl j (hn j _ e)]; exact R1.fz j d e
    · rw [sl j (hn j _ e)]; exact R1.mu j s ds e c
    · rw [sl j (hn j _ e)]; exact R1.pins j ds e
    · rw [sl i (hn i _ e1)] at a1
      rw [sl j (hn j _ e2)] at a2
      exact R1.sep i j s t ds es a n e1 c1 e2 c2 a1 a2
def frzAt (ev : Ev) (v : Nat) : Bool := match ev[v]? with
  | some none => true
  | some (some (.frz _)) => true
  | _ => false
def unwipe (ev0 : Ev) (ev : Ev) : List Nat → Ev
  | [] => ev
  | v :: vs => (unwipe ev0 ev vs).set v ((ev0[v]?).getD none)
def mcloop (g : MG) (t : MT) (m : ME) (vs : List Nat) : List D → Ev → List D → Option (List D × Ev)
  | [], ev, acc => some (acc, ev)
  | d :: ds, ev, acc => (g d ev).bind fun ev1 => (t ev1).bind fun r => if r.1 = true then ((m r.2).bind fun z => if acc.length < sizeLine then mcloop g t m vs ds (wipeE z.2 vs) (acc ++ [z.1.d]) else none) else mcloop g t m vs ds (wipeE r.2 vs) acc
def mlc (it : MI) (g : MG) (t : MT) (m : ME) (vs : List Nat) : ME := fun ev => (it ev).bind fun r => if vs.all (frzAt r.2) = true then (mcloop g t m vs r.1 (wipeE r.2 vs) []).map fun z => (.own z.1, unwipe r.2 z.2 vs) else none
def mtYes : MT := fun ev => some (true, ev)
theorem wipeE_len (ev : Ev) : ∀ vs, (wipeE ev vs).length = ev.length
  | [] => rfl
  | v :: vs => by simp [wipeE, wipeE_len ev vs]
theorem unwipe_len (ev0 ev : Ev) : ∀ vs, (unwipe ev0 ev vs).length = ev.length
  | [] => rfl
  | v :: vs => by simp [unwipe, unwipe_len ev0 ev vs]
theorem unwipe_get (ev0 ev : Ev) (hl : ev0.length = ev.length) : ∀ (vs : List Nat) (j : Nat), (j ∈ vs ∧ (unwipe ev0 ev vs)[j]? = ev0[j]?) ∨ (j ∉ vs ∧ (unwipe ev0 ev vs)[j]? = ev[j]?)
  | [], j => .inr ⟨by simp, rfl⟩
  | v :: vs, j => by
    by_cases hj : j = v
    · subst hj
      refine .inl ⟨by simp, ?_⟩
      by_cases hlt : j < ev.length
      · have h2 : j < (unwipe ev0 ev vs).length := by rw [unwipe_len]; exact hlt
        unfold unwipe
        rw [List.getElem?_set_self h2]
        have h3 : j < ev0.length := by omega
        simp [h3]
      · have h2 : ¬ j < (unwipe ev0 ev (j :: vs)).length := by rw [unwipe_len]; exact hlt
        rw [List.getElem?_eq_none (by omega), List.getElem?_eq_none (by omega)]
    · have e : (unwipe ev0 ev (v :: vs))[j]? = (unwipe ev0 ev vs)[j]? := by
        show ((unwipe ev0 ev vs).set v ((ev0[v]?).getD none))[j]? = _
        rw [List.getElem?_set_ne (Ne.symm hj)]
      rcases unwipe_get ev0 ev hl vs j with ⟨h1, h2⟩ | ⟨h1, h2⟩
      · exact .inl ⟨List.mem_cons_of_mem _ h1, e.trans h2⟩
      · exact .inr ⟨by simp [hj, h1], e.trans h2⟩
theorem wipe_get {σ : St} {j : Nat} : ∀ {vs : List Nat}, j ∉ vs → (wipe σ vs)[j]? = σ[j]?
  | [], _ => rfl
  | v :: vs, h => by
    unfold wipe
    rw [List.getElem?_set_ne (fun z => h (by simp [z]))]
    exact wipe_get fun z => h (List.mem_cons_of_mem _ z)
theorem RelS.unwiped {F F1 G H H1 : Hp} {pin : Nat → Addr} {σ : St} {ev0 ev : Ev} {vs : List Nat} (R0 : RelS K F G pin H σ ev0) (sm : Same F F1) (R : RelS K F1 G pin H1 (wipe σ vs) ev) (hv : vs.all (frzAt ev0) = true) :
    RelS K F1 G pin H1 σ (unwipe ev0 ev vs) := by
  have hl : ev0.length = ev.length := by
    have := R.len
    rw [wipe_length] at this
    rw [← R0.len, this]
  have fz : ∀ j, j ∈ vs → ∀ s, ev0[j]? = some (some s) → s.cont = none := fun j hj s e => by
    have := List.all_eq_true.mp hv j hj
    unfold frzAt at this
    rw [e] at this
    cases s with
    | frz d => rfl
    | own ds => cases this
    | inn ds => cases this
  have get : ∀ (j : Nat) (s : Sl) (ds : List D), (unwipe ev0 ev vs)[j]? = some (some s) → s.cont = some ds → j ∉ vs ∧ ev[j]? = some (some s) := fun j s ds e c => by
    rcases unwipe_get ev0 ev hl vs j with ⟨h1, h2⟩ | ⟨h1, h2⟩
    · rw [h2] at e
      have := fz j h1 s e
      rw [c] at this
      cases this
    · rw [h2] at e
      exact ⟨h1, e⟩
  refine ⟨by rw [unwipe_len, ← hl]; exact R0.len, R.fh, R.gh, fun j d e => ?_, fun j s ds e c => ?_, fun j ds e => ?_, fun i j s t ds es a n e1 c1 e2 c2 a1 a2 => ?_⟩
  · rcases unwipe_get ev0 ev hl vs j with ⟨h1, h2⟩ | ⟨h1, h2⟩
    · rw [h2] at e
      obtain ⟨v, q, dp⟩ := R0.fz j d e
      exact ⟨v, q, Dp_up sm _ _ dp⟩
    · rw [h2] at e
      obtain ⟨v, q, dp⟩ := R.fz j d e
      rw [wipe_get h1] at q
      exact ⟨v, q, dp⟩
  · obtain ⟨h1, e'⟩ := get j s ds e c
    have := R.mu j s ds e' c
    rw [wipe_get h1] at this
    exact this
  · obtain ⟨h1, e'⟩ := get j _ ds e rfl
    have := R.pins j ds e'
    rw [wipe_get h1] at this
    exact this
  · obtain ⟨h1, e1'⟩ := get i s ds e1 c1
    obtain ⟨h2, e2'⟩ := get j t es e2 c2
    refine R.sep i j s t ds es a n e1' c1 e2' c2 ?_ ?_
    · rw [wipe_get h1]; exact a1
    · rw [wipe_get h2]; exact a2
theorem tM_lc {gT : TG} {it : MI} {g : MG} {t : MT} {m : ME} {vs : List Nat} {σ : St} {H : Hp} {Q : VK}
    (hg : ∀ (F G : Hp) (pin : Nat → Addr) (H : Hp) (x : V) (d : D) (ev ev1 : Ev) (R : St → Hp → Prop), RelS K F G pin H (wipe σ vs) ev → Dp K F x d → g d ev = some ev1 → (∀ σ2, wipe σ2 vs = wipe σ vs → RelS K F G pin H σ2 ev1 → R σ2 H) → gT x (wipe σ vs) H R)
    (h : tM K (mlc it g t m vs) σ H Q) : tLc (tMI K it) gT (tMT K t) (tM K m) vs σ H Q := by
  obtain ⟨F, G, pin, ev, s, ev', R, e, q⟩ := h
  unfold mlc at e
  cases e1 : it ev with
  | none => rw [e1] at e; cases e
  | some r =>
    obtain ⟨ds, ev1⟩ := r
    rw [e1] at e
    simp only [Option.bind_some] at e
    split at e
    rotate_left
    · cases e
    rename_i hv
    cases e2 : mcloop g t m vs ds (wipeE ev1 vs) [] with
    | none => rw [e2] at e; cases e
    | some z =>
      obtain ⟨acc, ev2⟩ := z
      rw [e2] at e
      cases e
      refine ⟨F, G, pin, ev, ds, ev1, R, e1, fun J H1 F1 s1 n1 R1 w Da hD => ?_⟩
      have gD : G Da = none := by
        cases z : G Da with
        | none => rfl
        | some o =>
          have := R1.gh _ _ z
          rw [hD] at this
          cases this
      have fD : F1 Da = none := by
        cases z : F1 Da with
        | none => rfl
        | some o =>
          have := R1.fh _ _ z
          rw [hD] at this
          cases this
      let Inv : Nat → Hp → Prop := fun i H => ∃ F2 ev3 ac vs2, Same F1 F2 ∧ New G F1 F2 ∧ F2 Da = none ∧ RelS K F2 G pin H (wipe σ vs) ev3 ∧ H Da = some (.lst vs2) ∧ DpAll K F2 vs2 ac ∧ mcloop g t m vs (ds.drop i) ev3 ac = some (acc, ev2) ∧
        ∀ (j : Nat) (t : Sl) (es : List D), ev3[j]? = some (some t) → t.cont = some es → (wipe σ vs)[j]? ≠ some (some (.ref Da))
      have Rw := wipe_rel R1 vs
      have s0 : Same H1 (upd H1 Da (.lst [])) := fun b o e => by rw [upd_ne (ne_of_none e hD)]; exact e
      obtain ⟨Rw0, _⟩ := Rw.grow (F' := F1) (Same.refl F1) (fun _ _ e => .inl e) s0 (fun b o e => s0 _ _ (Rw.fh _ _ e))
      have i0 : Inv 0 (upd H1 Da (.lst [])) := ⟨F1, _, [], [], Same.refl F1, New.refl G F1, fD, Rw0, upd_same, .nil, by simpa using e2, fun j t es z c y => by
        obtain ⟨a, ws, p1, p2, p3, p4, p5⟩ := Rw.mu j t es z c
        rw [p1] at y
        cases y
        rw [hD] at p4
        cases p4⟩
      refine ⟨fun i mm H => mm = ds.length - i ∧ i ≤ ds.length ∧ Inv i H, ⟨ds.length, by simp, Nat.zero_le _, i0⟩, ?_⟩
      rintro i mm H2 ⟨rfl, hi, F2, ev3, ac, vs2, s2, n2, f2, R2, h2, a2, e3, o2⟩
      by_cases hlt : i < ds.length
      · refine .inr ⟨w.go i H2 (s2.trans R2.fh) hlt, Inv (i + 1), fun H' z => ⟨ds.length - (i + 1), by omega, rfl, hlt, z⟩, fun x H3 y => ?_⟩
        have ed : ds[i]? = some ds[i] := by simp [hlt]
        obtain ⟨F3, t1, t2, t3, t4, t5⟩ := w.yld i F2 H2 x H3 ds[i] s2 R2.fh ed y
        obtain ⟨R3, n3⟩ := R2.grow t1 t2 t3 t4
        have f3 : F3 Da = none := by
          cases z : F3 Da with
          | none => rfl
          | some o =>
            rcases t2 _ _ z with u | u
            · rw [f2] at u; cases u
            · rw [h2] at u; cases u
        have h3 := t3 _ _ h2
        let G3 : Hp := upd G Da (.lst vs2)
        have R3' : RelS K F3 G3 pin H3 (wipe σ vs) ev3 := by
          refine ⟨R3.len, R3.fh, fun b o z => ?_, R3.fz, fun j t es z c => ?_, R3.pins, R3.sep⟩
          · by_cases hb : b = Da
            · rw [hb] at z ⊢
              have : some (HO.lst vs2) = some o := by rw [← z]; exact upd_same.symm
              cases this
              exact h3
            · have z' : G b = some o := by rw [← z]; exact (upd_ne hb).symm
              exact R3.gh b o z'
          · obtain ⟨a, ws, p1, p2, p3, p4, p5⟩ := R3.mu j t es z c
            refine ⟨a, ws, p1, p2, ?_, p4, p5⟩
            have : a ≠ Da := fun y => o2 j t es z c (by rw [p1, y])
            show upd G Da (.lst vs2) a = none
            rw [upd_ne this]
            exact p3
        rw [List.drop_eq_getElem_cons hlt] at e3
        unfold mcloop at e3
        cases e4 : g ds[i] ev3 with
        | none => rw [e4] at e3; cases e3
        | some ev4 =>
          rw [e4] at e3
          simp only [Option.bind_some] at e3
          cases e5 : t ev4 with
          | none => rw [e5] at e3; cases e3
          | some z =>
            obtain ⟨b5, ev5⟩ := z
            rw [e5] at e3
            simp only [Option.bind_some] at e3
            refine hg F3 G3 pin H3 x ds[i] ev3 ev4 _ R3' t5 e4 fun σ2 hw R4 => ?_
            refine ⟨hw, F3, G3, pin, ev4, b5, ev5, R4, e5, fun H5 F5 s5 n5 R5 => ?_⟩
            have keepD : ∀ {F6 H6 : Hp} {σ6 : St} {ev6 : Ev}, Same F3 F6 → New G3 F3 F6 → RelS K F6 G3 pin H6 σ6 ev6 → F6 Da = none ∧ H6 Da = some (.lst vs2) ∧ (∀ (j : Nat) (t : Sl) (es : List D), ev6[j]? = some (some t) → t.cont = some es → σ6[j]? ≠ some (some (.ref Da))) ∧ New G F1 F6 ∧ RelS K F6 G pin H6 σ6 ev6 := fun {F6 H6 σ6 ev6} s6 n6 R6 => by
              have gD3 : G3 Da = some (.lst vs2) := upd_same
              refine ⟨?_, R6.gh _ _ gD3, fun j t es z c y => ?_, fun a o z => ?_, R6.len, R6.fh, fun b o z => R6.gh b o ?_, R6.fz, fun j t es z c => ?_, R6.pins, R6.sep⟩
              · cases z : F6 Da with
                | none => rfl
                | some o =>
                  rcases n6 _ _ z with u | u
                  · rw [f3] at u; cases u
                  · rw [gD3] at u; cases u
              · obtain ⟨a, ws, p1, p2, p3, p4, p5⟩ := R6.mu j t es z c
                rw [p1] at y
                cases y
                rw [gD3] at p3
                cases p3
              · rcases n6 a o z with u | u
                · exact (n2.trans n3) a o u
                · by_cases hb : a = Da
                  · exact .inr (by rw [hb]; exact gD)
                  · refine .inr ?_
                    rw [← u]
                    exact (upd_ne hb).symm
              · by_cases hb : b = Da
                · rw [hb, gD] at z; cases z
                · rw [← z]
                  exact upd_ne hb
              · obtain ⟨a, ws, p1, p2, p3, p4, p5⟩ := R6.mu j t es z c
                refine ⟨a, ws, p1, p2, ?_, p4, p5⟩
                by_cases hb : a = Da
                · rw [hb]; exact gD
                · rw [← p3]
                  exact (upd_ne hb).symm
            have nov : ∀ {ev6 : Ev} {σ6 : St}, wipe σ6 vs = wipe σ vs → (∀ (j : Nat) (t : Sl) (es : List D), ev6[j]? = some (some t) → t.cont = some es → σ6[j]? ≠ some (some (.ref Da))) → ∀ (j : Nat) (t : Sl) (es : List D), (wipeE ev6 vs)[j]? = some (some t) → t.cont = some es → (wipe σ vs)[j]? ≠ some (some (.ref Da)) := fun {ev6 σ6} hw6 ho j t es z c y => by
              rw [← hw6] at y
              have y' := (wipe_some (i := j) y).1
              have z' : ev6[j]? = some (some t) := by
                have : ∀ (l : List Nat), (wipeE ev6 l)[j]? = some (some t) → ev6[j]? = some (some t) := by
                  intro l
                  induction l with
                  | nil => exact fun z => z
                  | cons v l ih =>
                    intro z
                    unfold wipeE at z
                    by_cases hj : v = j
                    · subst hj
                      by_cases hl : v < (wipeE ev6 l).length
                      · rw [List.getElem?_set_self hl] at z; cases z
                      · rw [List.getElem?_eq_none (by simpa using hl)] at z; cases z
                    · rw [List.getElem?_set_ne hj] at z
                      exact ih z
                exact this vs z
              exact ho j t es z' c y'
            cases b5 with
            | false =>
              simp only [Bool.false_eq_true, if_false] at e3 ⊢
              obtain ⟨k1, k2, k3, k4, k5⟩ := keepD s5 n5 R5
              refine ⟨F5, wipeE ev5 vs, ac, vs2, s2.trans (t1.trans s5), k4, k1, by have := wipe_rel k5 vs; rw [hw] at this; exact this, k2, DpAll_up (t1.trans s5) _ _ a2, e3, nov hw k3⟩
            | true =>
              simp only [if_true] at e3 ⊢
              cases e6 : m ev5 with
              | none => rw [e6] at e3; cases e3
              | some z =>
                obtain ⟨s6, ev6⟩ := z
                rw [e6] at e3
                simp only [Option.bind_some] at e3
                split at e3
                · rename_i hz
                  refine tM_d R5 e6 fun v H6 F6 sm6 n6 R6 d6 => ?_
                  obtain ⟨k1, k2, k3, k4, k5⟩ := keepD (s5.trans sm6) (n5.trans n6) R6
                  have a2' := DpAll_up (t1.trans (s5.trans sm6)) _ _ a2
                  refine ⟨vs2, k2, by rw [DpAll_len a2]; exact hz, ?_⟩
                  have k5' : RelS K F6 G pin H6 (wipe σ vs) (wipeE ev6 vs) := by
                    have := wipe_rel k5 vs
                    rw [hw] at this
                    exact this
                  have o6 := nov hw k3
                  refine ⟨F6, wipeE ev6 vs, ac ++ [s6.d], vs2 ++ [v], s2.trans (t1.trans (s5.trans sm6)), k4, k1, ?_, upd_same, DpAll_append a2' (.cons d6 .nil), e3, o6⟩
                  refine ⟨k5'.len, fun b o z => ?_, fun b o z => ?_, k5'.fz, fun j t es z c => ?_, k5'.pins, k5'.sep⟩
                  · rw [upd_ne (fun y => by rw [y, k1] at z; cases z)]
                    exact k5'.fh b o z
                  · rw [upd_ne (fun y => by rw [y, gD] at z; cases z)]
                    exact k5'.gh b o z
                  · obtain ⟨a, ws, p1, p2, p3, p4, p5⟩ := k5'.mu j t es z c
                    refine ⟨a, ws, p1, p2, p3, ?_, p5⟩
                    rw [upd_ne (fun y => o6 j t es z c (by rw [p1, y]))]
                    exact p4
                · cases e3
      · have : i = ds.length := by omega
        subst this
        rw [List.drop_length] at e3
        cases e3
        refine .inl ⟨w.stop H2 (s2.trans R2.fh), ?_⟩
        have Ru := R1.unwiped s2 R2 hv
        refine q _ H2 F2 (s1.trans s2) (n1.trans n2) Ru ⟨Da, vs2, rfl, f2, gD, h2, a2, fun j t es z c y => ?_⟩
        have hl : ev1.length = ev2.length := by
          have := R2.len
          rw [wipe_length, R1.len] at this
          exact this
        rcases unwipe_get ev1 ev2 hl vs j with ⟨u1, u2⟩ | ⟨u1, u2⟩
        · rw [u2] at z
          obtain ⟨a, ws, p1, p2, p3, p4, p5⟩ := R1.mu j t es z c
          rw [p1] at y
          cases y
          rw [hD] at p4
          cases p4
        · rw [u2] at z
          refine o2 j t es z c ?_
          rw [wipe_get u1]
          exact y
theorem hg_name {i : Nat} {σ : St} (F G : Hp) (pin : Nat → Addr) (H : Hp) (x : V) (d : D) (ev ev1 : Ev) (R : St → Hp → Prop) (RS : RelS K F G pin H (wipe σ [i]) ev) (dp : Dp K F x d) (e : gset i d ev = some ev1)
    (q : ∀ σ2, wipe σ2 [i] = wipe σ [i] → RelS K F G pin H σ2 ev1 → R σ2 H) : gName i x (wipe σ [i]) H R := by
  refine q _ ?_ (RS.putS (s := .frz d) dp e)
  unfold wipe
  simp [wipe]
end
end MM
end
section
set_option Elab.async false
set_option linter.all false
set_option maxRecDepth 100000
set_option maxHeartbeats 4000000
namespace MM
open PySem PySem.Spec L2
section
variable {X : Cx} {pos : Pos} {K : PySem.W.Frag}
theorem PTs_of {es : List Expr} {t t' : TT} (h : PTs X es t) (w : ∀ σ H Q, t' σ H Q → t σ H Q) : PTs X es t' := ⟨fun pins s σ H Q I q => h.run pins s σ H Q I (w σ H Q q)⟩
theorem mts_nil : PTs X [] (tMT X.K mtYes) := PTs_of pts_nil fun σ H Q h => by
  obtain ⟨F, G, pin, ev, b, ev', R, e, q⟩ := h
  cases e
  exact q H F (Same.refl F) (New.refl G F) R
theorem mts_one {c : Expr} {t : MT} (h : PT X c (tMT X.K t)) : PTs X [c] (tMT X.K t) := pts_one h
theorem me_lc {i : Nat} {x : Str} {tpos : Pos} {elt iter : Expr} {ifs : List Expr} {scope : Scope} {it : MI} {t : MT} {m : ME} (hc : X.calm = true) (hN : X.N.Nodup) (hi : PI X (.Name x tpos) iter (tMI X.K it)) (ok : BlkOk X.N X.env.scope scope [(x, i)])
    (hg : ∀ (s : Shared) (H : Hp) (C : Addr) (cl : List (Str × Addr)) (fp : List Addr), PG (X.blk s H scope (compEnvC scope cl C X.env) fp) (.Name x tpos) (gName i))
    (ht : ∀ (s : Shared) (H : Hp) (C : Addr) (cl : List (Str × Addr)) (fp : List Addr), PTs (X.blk s H scope (compEnvC scope cl C X.env) fp) ifs (tMT X.K t))
    (he : ∀ (s : Shared) (H : Hp) (C : Addr) (cl : List (Str × Addr)) (fp : List Addr), PE (X.blk s H scope (compEnvC scope cl C X.env) fp) elt (tM X.K m)) (hs : ∀ x, foldedSetIterable iter X.env x = pure x := by intro _; rfl) :
    PE X (.ListComp elt [⟨.Name x tpos, iter, ifs, 0⟩] scope pos) (tM X.K (mlc it (gset i) t m [i])) :=
  PE_of (pe_lc hc hN hi ok hg ht he hs) fun σ H Q h => tM_lc hg_name h
theorem ms_setLc {j : Nat} {y : Str} {py : Pos} {i : Nat} {x : Str} {tpos spos : Pos} {elt iter : Expr} {ifs : List Expr} {scope : Scope} {it : MI} {t : MT} {m : ME} (hc : X.calm = true) (hN : X.N.Nodup) (hy : X.N[j]? = some y) (hyl : X.env.scope.names.lookup y = some .local)
    (hsw : swapsWith (.ListComp elt [⟨.Name x tpos, iter, ifs, 0⟩] scope pos) (some (.Name y py)) spos.line X.env = pure true) (hi : PI X (.Name x tpos) iter (tMI X.K it)) (ok : BlkOk X.N X.env.scope scope [(x, i)])
    (hg : ∀ (s : Shared) (H : Hp) (C : Addr) (cl : List (Str × Addr)) (fp : List Addr), PG (X.blk s H scope (compEnvC scope cl C X.env) fp) (.Name x tpos) (gName i))
    (ht : ∀ (s : Shared) (H : Hp) (C : Addr) (cl : List (Str × Addr)) (fp : List Addr), PTs (X.blk s H scope (compEnvC scope cl C X.env) fp) ifs (tMT X.K t))
    (he : ∀ (s : Shared) (H : Hp) (C : Addr) (cl : List (Str × Addr)) (fp : List Addr), PE (X.blk s H scope (compEnvC scope cl C X.env) fp) elt (tM X.K m)) (hs : ∀ x, foldedSetIterable iter X.env x = pure x := by intro _; rfl) :
    PS X (.Assign [.Name y py] (.ListComp elt [⟨.Name x tpos, iter, ifs, 0⟩] scope pos) spos) (tMS X.K (mset j (mlc it (gset i) t m [i]))) :=
  PS_of (ps_setLc hc hN hy hyl hsw hi ok hg ht he hs) fun D σ H h => by
    have h2 := tMS_set h
    exact tM_lc hg_name h2
def gT2 (i j : Nat) : MG := gtup 2 (gsCons (gset i) (gsCons (gset j) gsNil))
theorem hg_two {i j : Nat} (hij : i ≠ j) {σ : St} (F G : Hp) (pin : Nat → Addr) (H : Hp) (x : V) (d : D) (ev ev1 : Ev) (R : St → Hp → Prop) (RS : RelS K F G pin H (wipe σ [i, j]) ev) (dp : Dp K F x d) (e : gT2 i j d ev = some ev1)
    (q : ∀ σ2, wipe σ2 [i, j] = wipe σ [i, j] → RelS K F G pin H σ2 ev1 → R σ2 H) : gTup K 2 (gCons (gName i) (gCons (gName j) gNil)) x (wipe σ [i, j]) H R := by
  unfold gT2 gtup at e
  split at e
  · rename_i ds
    split at e
    · rename_i hl
      cases dp with
      | tup hs ha =>
        rename_i a vs
        match ds, hl, ha, e with
        | [d1, d2], _, ha, e =>
          cases ha with
          | cons p1 ha =>
            cases ha with
            | cons p2 ha =>
              cases ha
              rename_i v1 v2
              simp only [gsCons, gsNil] at e
              cases e1 : gset i d1 ev with
              | none => rw [e1] at e; cases e
              | some ev2 =>
                rw [e1] at e
                simp only [Option.bind_some] at e
                cases e2 : gset j d2 ev2 with
                | none => rw [e2] at e; cases e
                | some ev3 =>
                  rw [e2] at e
                  cases e
                  have R1 := RS.putS (s := .frz d1) p1 e1
                  have R2 := R1.putS (s := .frz d2) p2 e2
                  refine ⟨a, _, rfl, Same_seqT RS.fh hs, rfl, v1, [v2], rfl, v2, [], rfl, rfl, q _ ?_ R2⟩
                  unfold wipe
                  apply List.ext_getElem?
                  intro k
                  simp only [wipe, List.getElem?_set, List.length_set]
                  by_cases h1 : i = k
                  · subst h1
                    simp
                  · by_cases h2 : j = k
                    · subst h2
                      simp [h1]
                    · simp [h1, h2]
    · cases e
  · cases e
theorem me_lc2 {i j : Nat} {x y : Str} {p1 p2 tpos : Pos} {kk : Nat} {elt iter : Expr} {ifs : List Expr} {scope : Scope} {it : MI} {t : MT} {m : ME} (hij : i ≠ j) (hc : X.calm = true) (hN : X.N.Nodup) (hi : PI X (.Tuple [.Name x p1, .Name y p2] kk tpos) iter (tMI X.K it)) (ok : BlkOk X.N X.env.scope scope [(x, i), (y, j)])
    (hg : ∀ (s : Shared) (H : Hp) (C : Addr) (cl : List (Str × Addr)) (fp : List Addr), PG (X.blk s H scope (compEnvC scope cl C X.env) fp) (.Tuple [.Name x p1, .Name y p2] kk tpos) (gTup X.K 2 (gCons (gName i) (gCons (gName j) gNil))))
    (ht : ∀ (s : Shared) (H : Hp) (C : Addr) (cl : List (Str × Addr)) (fp : List Addr), PTs (X.blk s H scope (compEnvC scope cl C X.env) fp) ifs (tMT X.K t))
    (he : ∀ (s : Shared) (H : Hp) (C : Addr) (cl : List (Str × Addr)) (fp : List Addr), PE (X.blk s H scope (compEnvC scope cl C X.env) fp) elt (tM X.K m)) (hs : ∀ x, foldedSetIterable iter X.env x = pure x := by intro _; rfl) :
    PE X (.ListComp elt [⟨.Tuple [.Name x p1, .Name y p2] kk tpos, iter, ifs, 0⟩] scope pos) (tM X.K (mlc it (gT2 i j) t m [i, j])) :=
  PE_of (pe_lc hc hN hi ok hg ht he hs) fun σ H Q h => tM_lc (hg_two hij) h
theorem ms_setLc2 {l : Nat} {z : Str} {pz : Pos} {i j : Nat} {x y : Str} {p1 p2 tpos spos : Pos} {kk : Nat} {elt iter : Expr} {ifs : List Expr} {scope : Scope} {it : MI} {t : MT} {m : ME} (hij : i ≠ j) (hc : X.calm = true) (hN : X.N.Nodup) (hy : X.N[l]? = some z) (hyl : X.env.scope.names.lookup z = some .local)
    (hsw : swapsWith (.ListComp elt [⟨.Tuple [.Name x p1, .Name y p2] kk tpos, iter, ifs, 0⟩] scope pos) (some (.Name z pz)) spos.line X.env = pure true) (hi : PI X (.Tuple [.Name x p1, .Name y p2] kk tpos) iter (tMI X.K it)) (ok : BlkOk X.N X.env.scope scope [(x, i), (y, j)])
    (hg : ∀ (s : Shared) (H : Hp) (C : Addr) (cl : List (Str × Addr)) (fp : List Addr), PG (X.blk s H scope (compEnvC scope cl C X.env) fp) (.Tuple [.Name x p1, .Name y p2] kk tpos) (gTup X.K 2 (gCons (gName i) (gCons (gName j) gNil))))
    (ht : ∀ (s : Shared) (H : Hp) (C : Addr) (cl : List (Str × Addr)) (fp : List Addr), PTs (X.blk s H scope (compEnvC scope cl C X.env) fp) ifs (tMT X.K t))
    (he : ∀ (s : Shared) (H : Hp) (C : Addr) (cl : List (Str × Addr)) (fp : List Addr), PE (X.blk s H scope (compEnvC scope cl C X.env) fp) elt (tM X.K m)) (hs : ∀ x, foldedSetIterable iter X.env x = pure x := by intro _; rfl) :
    PS X (.Assign [.Name z pz] (.ListComp elt [⟨.Tuple [.Name x p1, .Name y p2] kk tpos, iter, ifs, 0⟩] scope pos) spos) (tMS X.K (mset l (mlc it (gT2 i j) t m [i, j]))) :=
  PS_of (ps_setLc hc hN hy hyl hsw hi ok hg ht he hs) fun D σ H h => by
    have h2 := tMS_set h
    exact tM_lc (hg_two hij) h2
end
def outsOf : List Sl → Ev → Ev
  | [], _ => []
  | a :: as, [] => none :: outsOf as []
  | .inn _ :: as, some (.inn ds) :: ev => some (.inn ds) :: outsOf as ev
  | _ :: as, _ :: ev => none :: outsOf as ev
theorem outsOf_len : ∀ (as : List Sl) (ev : Ev), (outsOf as ev).length = as.length
  | [], _ => rfl
  | a :: as, [] => by simp [outsOf, outsOf_len as]
  | .inn _ :: as, some (.inn ds) :: ev => by simp [outsOf, outsOf_len as]
  | .inn _ :: as, none :: ev => by simp [outsOf, outsOf_len as]
  | .inn _ :: as, some (.frz _) :: ev => by simp [outsOf, outsOf_len as]
  | .inn _ :: as, some (.own _) :: ev => by simp [outsOf, outsOf_len as]
  | .frz _ :: as, o :: ev => by simp [outsOf, outsOf_len as]
  | .own _ :: as, o :: ev => by simp [outsOf, outsOf_len as]
theorem outsOf_get : ∀ (as : List Sl) (ev : Ev) (k : Nat) (s : Sl), (outsOf as ev)[k]? = some (some s) → ∃ ds es, s = .inn ds ∧ ev[k]? = some (some (.inn ds)) ∧ as[k]? = some (.inn es)
  | [], _, _, _, h => by simp [outsOf] at h
  | a :: as, [], 0, s, h => by simp [outsOf] at h
  | a :: as, [], k + 1, s, h => by
    have := outsOf_get as [] k s (by simpa [outsOf] using h)
    obtain ⟨ds, es, _, h2, _⟩ := this
    simp at h2
  | .inn es :: as, some (.inn ds) :: ev, 0, s, h => by
    simp [outsOf] at h
    subst h
    exact ⟨ds, es, rfl, rfl, rfl⟩
  | .inn es :: as, some (.inn ds) :: ev, k + 1, s, h => by simpa using outsOf_get as ev k s (by simpa [outsOf] using h)
  | .inn _ :: as, none :: ev, 0, s, h => by simp [outsOf] at h
  | .inn _ :: as, some (.frz _) :: ev, 0, s, h => by simp [outsOf] at h
  | .inn _ :: as, some (.own _) :: ev, 0, s, h => by simp [outsOf] at h
  | .frz _ :: as, o :: ev, 0, s, h => by simp [outsOf] at h
  | .own _ :: as, o :: ev, 0, s, h => by simp [outsOf] at h
  | .inn _ :: as, none :: ev, k + 1, s, h => by simpa using outsOf_get as ev k s (by simpa [outsOf] using h)
  | .inn _ :: as, some (.frz _) :: ev, k + 1, s, h => by simpa using outsOf_get as ev k s (by simpa [outsOf] using h)
  | .inn _ :: as, some (.own _) :: ev, k + 1, s, h => by simpa using outsOf_get as ev k s (by simpa [outsOf] using h)
  | .frz _ :: as, o :: ev, k + 1, s, h => by simpa using outsOf_get as ev k s (by simpa [outsOf] using h)
  | .own _ :: as, o :: ev, k + 1, s, h => by simpa using outsOf_get as ev k s (by simpa [outsOf] using h)
def mfn (n N : Nat) (b : MS) : Fn := fun args => (b (args.map some ++ List.replicate (N - n) none)).bind fun r => match r.1 with
  | .nx => some (.frz .none, outsOf args r.2)
  | .rt s => some (s, outsOf args r.2)
  | _ => none
theorem start_rel {K : PySem.W.Frag} {F G H : Hp} {pin : Nat → Addr} {vs : List V} {args : List Sl} {n : Nat} (R : RelS K F G pin H (vs.map some) (args.map some)) : RelS K F G pin H (vs.map some ++ List.replicate n none) (args.map some ++ List.replicate n none) := by
  have hl : vs.length = args.length := by simpa using R.len
  have get : ∀ (j : Nat) (s : Sl), (args.map some ++ List.replicate n none)[j]? = some (some s) → (args.map some)[j]? = some (some s) ∧ (vs.map some ++ List.replicate n none)[j]? = (vs.map some)[j]? := fun j s e => by
    by_cases hj : j < args.length
    · rw [List.getElem?_append_left (by simpa using hj)] at e
      refine ⟨e, ?_⟩
      rw [List.getElem?_append_left (by simpa [hl] using hj)]
    · rw [List.getElem?_append_right (by simpa using hj)] at e
      have := List.mem_of_getElem? e
      have := (List.mem_replicate.mp this).2
      cases this
  refine ⟨by simp [hl], R.fh, R.gh, fun j d e => ?_, fun j s ds e c => ?_, fun j ds e => ?_, fun i j s t ds es a n e1 c1 e2 c2 a1 a2 => ?_⟩
  · obtain ⟨e1, e2⟩ := get j _ e
    rw [e2]
    exact R.fz j d e1
  · obtain ⟨e1, e2⟩ := get j _ e
    rw [e2]
    exact R.mu j s ds e1 c
  · obtain ⟨e1, e2⟩ := get j _ e
    rw [e2]
    exact R.pins j ds e1
  · obtain ⟨q1, q2⟩ := get i _ e1
    obtain ⟨q3, q4⟩ := get j _ e2
    rw [q2] at a1
    rw [q4] at a2
    exact R.sep i j s t ds es a n q1 c1 q3 c2 a1 a2
section
variable {P : Program} {w : World} {K : PySem.W.Frag} {mg : Str → Option Value} {base : Heap}
theorem fn_read {n : Nat} {N : List Str} {b : MS} {vs : List V} {H : Hp} {Q : VK} {E : XK} (h : spM K n (mfn n N.length b) vs H Q E) : tMS K b { nx := fun _ H' => Q .non H', rt := Q } (L2.start N vs) H := by
  obtain ⟨F, G, pin, args, r, outs, hl, R, e, q⟩ := h
  have hvl : vs.length = args.length := by simpa using R.len
  unfold mfn at e
  cases e1 : b (args.map some ++ List.replicate (N.length - n) none) with
  | none => rw [e1] at e; cases e
  | some z =>
    obtain ⟨fl, ev'⟩ := z
    rw [e1] at e
    simp only [Option.bind_some] at e
    have R0 : RelS K F G pin H (L2.start N vs) (args.map some ++ List.replicate (N.length - n) none) := by
      have := start_rel (n := N.length - n) R
      unfold L2.start
      rw [hvl, hl]
      exact this
    refine ⟨F, G, pin, _, fl, ev', R0, e1, fun σ' H' F' s1 n1 R1 => ?_⟩
    have pinned : ∀ (k : Nat) (s : Sl), (outsOf args ev')[k]? = some (some s) → ∃ ds, s = .inn ds ∧ ev'[k]? = some (some (.inn ds)) ∧ σ'[k]? = (vs.map some)[k]? := fun k s hk => by
      obtain ⟨ds, es, rfl, h2, h3⟩ := outsOf_get args ev' k s hk
      refine ⟨ds, rfl, h2, ?_⟩
      have p1 := R1.pins k ds h2
      have p2 := R.pins k es (by rw [List.getElem?_map, h3] <;> rfl)
      rw [p1, p2]
    have R2 : RelS K F' G pin H' (vs.map some) (outsOf args ev') := by
      refine ⟨by rw [outsOf_len]; simpa using hvl, R1.fh, R1.gh, fun j d e => ?_, fun j s ds e c => ?_, fun j ds e => ?_, fun i j s t ds es a n e1 c1 e2 c2 a1 a2 => ?_⟩
      · obtain ⟨ds, z, _⟩ := pinned j _ e
        cases z
      · obtain ⟨ds', rfl, h2, h3⟩ := pinned j _ e
        rw [← h3]
        exact R1.mu j _ ds h2 c
      · obtain ⟨ds', z, h2, h3⟩ := pinned j _ e
        rw [← h3]
        cases z
        exact R1.pins j _ h2
      · obtain ⟨ds', rfl, h2, h3⟩ := pinned i _ e1
        obtain ⟨es', rfl, h4, h5⟩ := pinned j _ e2
        rw [← h3] at a1
        rw [← h5] at a2
        exact R1.sep i j _ _ ds es a n h2 c1 h4 c2 a1 a2
    have rr : ∀ (v : V) (s : Sl), RR K F' G H' σ' ev' v s → RR K F' G H' (vs.map some) (outsOf args ev') v s := fun v s z => by
      cases s with
      | frz d => exact z
      | inn ds => exact z
      | own ds =>
        obtain ⟨a, ws, p1, p2, p3, p4, p5, p6⟩ := z
        refine ⟨a, ws, p1, p2, p3, p4, p5, fun j t es e c y => ?_⟩
        obtain ⟨ds', rfl, h2, h3⟩ := pinned j _ e
        rw [← h3] at y
        exact p6 j _ es h2 c y
    cases fl with
    | nx =>
      cases e
      exact q _ H' F' s1 n1 R2 .non
    | bk => cases e
    | ct => cases e
    | rt s =>
      cases e
      exact fun v z => q v H' F' s1 n1 R2 (rr v _ z)
abbrev FnP (K : PySem.W.Frag) (x : Str) (st : Stmt) (f : Addr) (fd : FuncData) : Prop := FunD K x x (defArgs st) (defBody st) (defScope st) [] [] f fd
abbrev Bx (P : Program) (w : World) (K : PySem.W.Frag) (mg : Str → Option Value) (base : Heap) (N : List Str) (x : Str) (st : Stmt) (f : Addr) (cdv : Value) (A : Around) (outer : List Env) (s : Shared) (H : Hp) (E : XK) : Cx :=
  (cxOf CX0 P w K mg base N x (defScope st) f cdv A outer s H E).nox
theorem ok_mk {x : Str} {st : Stmt} {f : Addr} {fd : FuncData} {N ps : List Str} {k : Nat} {b : MS} (F : FnP K x st f fd) (S : FnScope N ps (defScope st))
    (hbody : ∀ (cdv : Value) (A : Around) (outer : List Env) (s : Shared) (H : Hp) (E : XK), Room k (A.deeper (PyProof.Rows.envOfC x (defScope st) s.heap.objs.size f cdv)) → PSs (Bx P w K mg base N x st f cdv A outer s H E) (defBody st) (tMS K b)) :
    FnOk P w K mg base CX0 (k + 1) f fd ps (spM K ps.length (mfn ps.length N.length b)) := by
  refine F.ok S (fun vs H Q E h => ?_) fun cdv A outer s H vs Q E hr h => ⟨_, PSs.nox (hbody cdv A outer s H E hr), fn_read h⟩
  obtain ⟨Fh, G, pin, args, r, outs, hl, R, _⟩ := h
  have : vs.length = args.length := by simpa using R.len
  omega
theorem df_mk {x : Str} {st : Stmt} {f : Addr} {fd : FuncData} {N ps : List Str} {k : Nat} {b : MS} (F : FnP K x st f fd) (hm : mg x = some (.ref f)) (S : FnScope N ps (defScope st)) (hb : Binds K fd ps [])
    (hbody : ∀ (cdv : Value) (A : Around) (outer : List Env) (s : Shared) (H : Hp) (E : XK), Room k (A.deeper (PyProof.Rows.envOfC x (defScope st) s.heap.objs.size f cdv)) → PSs (Bx P w K mg base N x st f cdv A outer s H E) (defBody st) (tMS K b)) :
    Df P w K mg base x (k + 1) ps.length (mfn ps.length N.length b) :=
  ⟨f, fd, ps, hm, F.kp, hb, ok_mk F S hbody⟩
end
section
variable {X : Cx} {pos : Pos} {K : PySem.W.Frag}
def addD : D → D → Option Sl
  | .int i, .int j => some (.frz (.int (i + j)))
  | .str x, .str y => if x.length + y.length ≤ sizeLine then some (.frz (.str (x ++ y))) else none
  | .list xs, .list ys => if xs.length + ys.length ≤ sizeLine then some (.own (xs ++ ys)) else none
  | .tuple xs, .tuple ys => if xs.length + ys.length ≤ sizeLine then some (.frz (.tuple (xs ++ ys))) else none
  | _, _ => none
theorem cat_any {pins : List (Addr × Obj)} {σ : St} {H : Hp} {s : Shared} {l b : Addr} {xs zs : List V} {Q : VK} (I : Inv X pins σ H s) (h1 : SqL X.K H l xs) (h2 : SqL X.K H b zs) (hz : xs.length + zs.length ≤ sizeLine)
    (q : ∀ p, H p = none → Q (.ref p) (upd H p (.lst (xs ++ zs)))) : wpAny (model X.prog X.w) X.A (binaryOp .Add (.ref l) (.ref b)) (EP X pins σ Q) X.xe s := by
  obtain ⟨its, r, ⟨⟨c1, d1, dt1, sl1⟩, n, e, hc, hd, hs⟩, hl⟩ := I.list h1
  obtain ⟨its2, r2, ⟨⟨c2, d2, dt2, sl2⟩, n2, e2, hc2, hd2, hs2⟩, hl2⟩ := I.list h2
  simp only at hc hd hs hc2 hd2 hs2
  subst hc hd hs hc2 hd2 hs2
  have l1 := r.length
  have l2 := r2.length
  refine PySem.concat_meets ⟨_, e, rfl⟩ ⟨_, e2, rfl⟩ PySem.noFill_list_add PySem.seq_list_add PySem.F.slot_list_add PySem.F.entry_list_add (PySem.F.args_list_add_2 _ _) (PyProof.Rows.list_addW l b its.toArray its2.toArray n n2 none none sl1 sl2 (by rw [List.size_toArray, List.size_toArray]; omega)) ⟨e, e2, ?_⟩
  have ea : its.toArray ++ its2.toArray = (its ++ its2).toArray := by simp
  rw [ea]
  exact ⟨.ref _, _, I.lnew (t' := s.toks) (r.append r2) (by rw [List.length_append]; omega), rfl, q _ I.fresh⟩
theorem catT_any {pins : List (Addr × Obj)} {σ : St} {H : Hp} {s : Shared} {l b : Addr} {xs zs : List V} {Q : VK} (I : Inv X pins σ H s) (h1 : SqT X.K H l xs) (h2 : SqT X.K H b zs) (hz : xs.length + zs.length ≤ sizeLine)
    (q0 : xs = [] → Q (.ref b) H) (q1 : zs = [] → Q (.ref l) H) (q : ∀ p, H p = none → Q (.ref p) (upd H p (.tup (xs ++ zs)))) : wpAny (model X.prog X.w) X.A (binaryOp .Add (.ref l) (.ref b)) (EP X pins σ Q) X.xe s := by
  by_cases hx : xs = []
  · obtain ⟨its, r, ht, hl⟩ := I.tuple h1
    obtain ⟨its2, r2, ht2, hl2⟩ := I.tuple h2
    obtain ⟨⟨cls, dd, data, sl⟩, ho, hc, n, hd⟩ := id ht
    obtain ⟨⟨cls2, dd2, data2, sl2⟩, ho2, hc2, n2, hd2⟩ := id ht2
    simp only at hc hd hc2 hd2
    subst hc hd hc2 hd2
    have e0 : its = [] := r.nil_iff.mpr hx
    exact PySem.concat_meets ⟨_, ho, rfl⟩ ⟨_, ho2, rfl⟩ PySem.noFill_tuple_add PySem.seq_tuple_add PySem.F.slot_tuple_add PySem.F.entry_tuple_add (PySem.F.args_tuple_add_2 _ _)
      (PyProof.Rows.tuple_addW0 l b its.toArray its2.toArray n n2 dd dd2 sl sl2 (by simp [e0])) ⟨ho, ho2, .ref b, H, I.tok _, rfl, q0 hx⟩
  · exact op_catT pins s σ H (.ref l) (.ref b) _ _ Q I rfl rfl ⟨l, b, xs, zs, rfl, rfl, h1, h2, hx, hz, q1, fun _ => q⟩
theorem op_addD : OpR X (binaryOp .Add) (rM2 X.K addD) := by
  intro pins s σ H x y v u Q I rx ry h
  obtain ⟨F, d, e, r, sm, dx, dy, hf, q⟩ := h
  unfold addD at hf
  split at hf
  · cases hf
    cases dx
    cases dy
    exact op_add pins s σ H _ _ v u Q I rx ry ⟨_, _, rfl, rfl, fin_val sm q (.int _)⟩
  · split at hf
    · rename_i hz
      cases hf
      cases dx
      cases dy
      exact op_add_str pins s σ H _ _ v u Q I rx ry ⟨_, _, rfl, rfl, hz, fin_val sm q (.str _)⟩
    · cases hf
  · split at hf
    · rename_i hz
      cases hf
      cases dx with
      | lst h1 a1 =>
        cases dy with
        | lst h2 a2 =>
          cases rx
          cases ry
          exact cat_any I (sm.seq h1) (sm.seq h2) (by rw [DpAll_len a1, DpAll_len a2]; exact hz) (fin_lst sm q (DpAll_append a1 a2))
    · cases hf
  · split at hf
    · rename_i hz
      cases hf
      cases dx with
      | tup h1 a1 =>
        cases dy with
        | tup h2 a2 =>
          cases rx
          cases ry
          refine catT_any I (Same_seqT sm h1) (Same_seqT sm h2) (by rw [DpAll_len a1, DpAll_len a2]; exact hz) (fun z => ?_) (fun z => ?_) (fin_tup sm q (DpAll_append a1 a2))
          · subst z
            cases a1
            exact fin_val sm q (.tup h2 a2)
          · subst z
            cases a2
            rw [List.append_nil] at q
            exact fin_val sm q (.tup h1 a1)
    · cases hf
  · cases hf
def subD : D → D → Option Sl
  | .int i, .int j => some (.frz (.int (i - j)))
  | _, _ => none
theorem op_subD : OpR X (binaryOp .Sub) (rM2 X.K subD) := by
  intro pins s σ H x y v u Q I rx ry h
  obtain ⟨F, d, e, r, sm, dx, dy, hf, q⟩ := h
  unfold subD at hf
  split at hf
  · cases hf
    cases dx
    cases dy
    exact op_sub pins s σ H _ _ v u Q I rx ry ⟨_, _, rfl, rfl, fin_val sm q (.int _)⟩
  · cases hf
def repStr (x : Str) (n : Nat) : Str := ⟨(List.replicate n x.cps.toList).flatten.toArray⟩
def mulD : D → D → Option Sl
  | .int i, .int j => if i.natAbs.log2 + j.natAbs.log2 < 1000000 then some (.frz (.int (i * j))) else none
  | .str x, .int k => if 0 ≤ k ∧ k < 1000 ∧ x.length ≤ 1000 then some (.frz (.str (repStr x k.toNat))) else none
  | .tuple xs, .int k => if xs.isEmpty = false ∧ 2 ≤ k ∧ k ≤ 1000 ∧ xs.length ≤ 1000 then some (.frz (.tuple (List.replicate k.toNat xs).flatten)) else none
  | _, _ => none
theorem repStr_fold (x : Str) (n : Nat) : (List.replicate n x.cps).foldl (· ++ ·) #[] = (repStr x n).cps := by
  have h : ∀ (n : Nat) (acc : Array Nat), (List.replicate n x.cps).foldl (· ++ ·) acc = acc ++ (List.replicate n x.cps.toList).flatten.toArray := by
    intro n
    induction n with
    | zero => intro acc; simp
    | succ n ih =>
      intro acc
      rw [List.replicate_succ, List.foldl_cons, ih, List.replicate_succ, List.flatten_cons]
      apply Array.ext'
      simp
  rw [h]
  apply Array.ext'
  simp [repStr]
theorem repStr_len (x : Str) (n : Nat) : (repStr x n).length = n * x.length := by
  show (List.replicate n x.cps.toList).flatten.toArray.size = n * x.cps.size
  simp
theorem op_mulD : OpR X (binaryOp .Mult) (rM2 X.K mulD) := by
  intro pins s σ H x y v u Q I rx ry h
  obtain ⟨F, d, e, r, sm, dx, dy, hf, q⟩ := h
  unfold mulD at hf
  split at hf
  · split at hf
    · rename_i hz
      cases hf
      cases dx
      cases dy
      exact op_mulW pins s σ H _ _ v u Q I rx ry ⟨_, _, rfl, rfl, hz, fin_val sm q (.int _)⟩
    · cases hf
  · split at hf
    · rename_i x k hz
      cases hf
      cases dx
      cases dy
      obtain ⟨t, rfl⟩ := rx
      obtain ⟨t', rfl⟩ := ry
      obtain ⟨h0, h1, h2⟩ := hz
      have hlen : x.length * k.toNat ≤ 1000000 := by
        have : k.toNat ≤ 1000 := by omega
        exact Nat.le_trans (Nat.mul_le_mul h2 this) (by decide)
      have hs : (1000000 : Nat) ≤ sizeLine := by rw [sizeLine_eq]; decide
      refine PySem.P.mul_str ?_ (fun z1 z2 z3 => ?_) (fun z1 z2 => ?_) ?_
      · rw [decide_eq_false (by omega), decide_eq_false (by omega)] <;> rfl
      · have z4 : 1 ≤ k := by omega
        have : (9223372036854775807 : Int) / k ≥ 9223372036854775807 / 1000 := by
          have hk : k ≤ 1000 := by omega
          apply Int.le_ediv_of_mul_le (by omega)
          have : (9223372036854775807 / 1000 : Int) * k ≤ (9223372036854775807 / 1000) * 1000 := Int.mul_le_mul_of_nonneg_left hk (by decide)
          omega
        have hz : ((2 : Int) ^ 63 - 1) = 9223372036854775807 := by decide
        rw [hz] at z3
        omega
      · show decide (x.length * k.toNat > sizeLine) = false
        exact decide_eq_false (by omega)
      · by_cases c1 : k < 1
        · rw [if_pos c1]
          have : k.toNat = 0 := by omega
          refine ⟨by decide, .str Str.empty, H, I.tok _, ⟨_, rfl⟩, ?_⟩
          have e0 : repStr x k.toNat = Str.empty := by
            rw [this]
            rfl
          rw [e0] at q
          exact fin_val sm q (.str _)
        · rw [if_neg c1]
          by_cases c2 : (k == 1 || x.length == 0) = true
          · rw [if_pos c2]
            have e0 : repStr x k.toNat = x := by
              have hx : ∀ a b : Str, a.cps = b.cps → a = b := fun a b h => by cases a; cases b; cases h; rfl
              apply hx
              rcases Bool.or_eq_true_iff.mp c2 with z | z
              · have : k = 1 := eq_of_beq z
                subst this
                show (List.replicate 1 x.cps.toList).flatten.toArray = x.cps
                simp
              · have : x.length = 0 := eq_of_beq z
                have e1 : x.cps = #[] := Array.eq_empty_of_size_eq_zero this
                show (List.replicate k.toNat x.cps.toList).flatten.toArray = x.cps
                rw [e1]
                simp
            rw [e0] at q
            exact ⟨.str x, H, I, ⟨_, rfl⟩, fin_val sm q (.str _)⟩
          · rw [if_neg c2]
            rw [repStr_fold]
            refine ⟨?_, .str (repStr x k.toNat), H, I.tok _, ⟨_, rfl⟩, fin_val sm q (.str _)⟩
            show (repStr x k.toNat).length ≤ sizeLine
            rw [repStr_len, Nat.mul_comm]
            omega
    · cases hf
  · split at hf
    · rename_i xs k hz
      cases hf
      cases dx with
      | tup h1 a1 =>
        cases dy
        obtain ⟨h0, hk1, hk2, hk3⟩ := hz
        refine op_repT pins s σ H _ _ v u Q I rx ry ⟨_, k, _, rfl, rfl, Same_seqT sm h1, fun z => ?_, hk1, hk2, by rw [DpAll_len a1]; exact hk3, fin_tup sm q (DpAll_rep a1 k.toNat)⟩
        subst z
        cases a1
        cases h0
    · cases hf
  · cases hf
def fdivD : D → D → Option Sl
  | .int i, .int j => if 0 < j ∧ j.natAbs.log2 < 9000 then some (.frz (.int (i / j))) else none
  | _, _ => none
theorem op_fdivD : OpR X (binaryOp .FloorDiv) (rM2 X.K fdivD) := by
  intro pins s σ H x y v u Q I rx ry h
  obtain ⟨F, d, e, r, sm, dx, dy, hf, q⟩ := h
  unfold fdivD at hf
  split at hf
  · split at hf
    · rename_i hz
      cases hf
      cases dx
      cases dy
      exact op_fdivW pins s σ H _ _ v u Q I rx ry ⟨_, _, rfl, rfl, hz, fin_val sm q (.int _)⟩
    · cases hf
  · cases hf
def modD : D → D → Option Sl
  | .int i, .int j => if 0 < j then some (.frz (.int (i % j))) else none
  | _, _ => none
theorem op_modD : OpR X (binaryOp .Mod) (rM2 X.K modD) := by
  intro pins s σ H x y v u Q I rx ry h
  obtain ⟨F, d, e, r, sm, dx, dy, hf, q⟩ := h
  unfold modD at hf
  split at hf
  · split at hf
    · rename_i hz
      cases hf
      cases dx
      cases dy
      exact op_mod pins s σ H _ _ v u Q I rx ry ⟨_, _, rfl, rfl, hz, fin_val sm q (.int _)⟩
    · cases hf
  · cases hf
def powD : D → D → Option Sl
  | .int i, .int j => if 0 ≤ j ∧ j ≤ 1000000 ∧ i.natAbs < 2 ^ 64 then some (.frz (.int (i ^ j.toNat))) else none
  | _, _ => none
theorem op_powD : OpR X (binaryOp .Pow) (rM2 X.K powD) := by
  intro pins s σ H x y v u Q I rx ry h
  obtain ⟨F, d, e, r, sm, dx, dy, hf, q⟩ := h
  unfold powD at hf
  split at hf
  · split at hf
    · rename_i hz
      cases hf
      cases dx
      cases dy
      exact op_pow pins s σ H _ _ v u Q I rx ry ⟨_, _, rfl, rfl, hz, fin_val sm q (.int _)⟩
    · cases hf
  · cases hf
def mrep (m n : ME) : ME := fun ev => (m ev).bind fun r => match r.1 with
  | .own xs => (n r.2).bind fun q => (match q.1.d with
    | .int k => if -(2 ^ 63) ≤ k ∧ k < 2 ^ 63 ∧ xs.length * k.toNat ≤ sizeLine then some (.own (List.replicate k.toNat xs).flatten, q.2) else none
    | _ => none)
  | _ => none
theorem me_rep {a b : Expr} {m n : ME} (ha : PE X a (tM X.K m)) (hb : PE X b (tM X.K n)) : PE X (.BinOp a .Mult b pos) (tM X.K (mrep m n)) := by
  refine PE_of (pe_op op_rep ha hb) fun σ H Q h => ?_
  obtain ⟨F, G, pin, ev, s, ev', R, e, q⟩ := h
  unfold mrep at e
  cases e1 : m ev with
  | none => rw [e1] at e; cases e
  | some r1 =>
    obtain ⟨s1, ev1⟩ := r1
    rw [e1] at e
    simp only [Option.bind_some] at e
    split at e
    · rename_i xs
      cases e2 : n ev1 with
      | none => rw [e2] at e; cases e
      | some z =>
        obtain ⟨s2, ev2⟩ := z
        rw [e2] at e
        simp only [Option.bind_some] at e
        split at e
        · rename_i k e3
          split at e
          · rename_i hz
            cases e
            refine ⟨F, G, pin, ev, _, ev1, R, e1, fun v H1 F1 sm1 n1 R1 rr => ?_⟩
            obtain ⟨a, vs, F2, rfl, hF2, q4, t1, t2, R2⟩ := RR.freezeO R1 rr
            refine tM_d R2 e2 fun w H3 F3 sm3 n3 R3 d3 => ?_
            rw [e3] at d3
            cases d3
            have h3 := R3.fh _ _ (sm3 _ _ hF2)
            have a4 := DpAll_up sm3 _ _ q4
            refine ⟨a, k, vs, rfl, rfl, h3, hz.1, hz.2.1, by rw [DpAll_len q4]; exact hz.2.2, ?_⟩
            refine fin_lst R3.fh (fun w' H4 F4 a' b' c' d' r' => ?_) (DpAll_rep a4 k.toNat)
            obtain ⟨R4, n4⟩ := R3.grow a' b' c' d'
            exact q w' H4 F4 (((sm1.trans t1).trans sm3).trans a') (((n1.trans t2).trans n3).trans n4) R4 (r'.rr R3)
          · cases e
        · cases e
    · cases e
def eqD : D → D → Option Bool
  | .int i, .int j => some (decide (i = j))
  | .bool i, .bool j => some (decide (i = j))
  | .str i, .str j => some (decide (i = j))
  | d, e => if SeqAt.shaped d = true ∧ SeqAt.shaped e = true then some (PyData.eqv d e) else none
def eqSl (d e : D) : Option Sl := (eqD d e).map fun b => .frz (.bool b)
def neSl (d e : D) : Option Sl := (eqD d e).map fun b => .frz (.bool (!b))
theorem op_eqD1 (hu : X.A.units + 64 < cLine) : OpR X (compareOp .Eq) (rM2 X.K eqSl) := by
  intro pins s σ H x y v u Q I rx ry h
  obtain ⟨F, d, e, r, sm, dx, dy, hf, q⟩ := h
  unfold eqSl at hf
  cases e1 : eqD d e with
  | none => rw [e1] at hf; cases hf
  | some b =>
    rw [e1] at hf
    cases hf
    have done := fin_val sm q (.bl b)
    have deep : SeqAt.shaped d = true ∧ SeqAt.shaped e = true → PyData.eqv d e = b → wpAny (model X.prog X.w) X.A (compareOp .Eq v u) (EP X pins σ Q) X.xe s := fun hs hb =>
      op_eqD hu pins s σ H x y v u Q I rx ry ⟨d, e, Dp_up sm _ _ dx, Dp_up sm _ _ dy, hs.1, hs.2, by rw [hb]; exact done⟩
    unfold eqD at e1
    split at e1
    · cases e1
      cases dx
      cases dy
      exact op_eq pins s σ H _ _ v u Q I rx ry ⟨rfl, by simpa using done⟩
    · cases e1
      cases dx
      cases dy
      exact op_eq pins s σ H _ _ v u Q I rx ry ⟨rfl, by simpa using done⟩
    · cases e1
      cases dx
      cases dy
      exact op_eq pins s σ H _ _ v u Q I rx ry ⟨rfl, by simpa using done⟩
    · split at e1
      · rename_i hs
        exact deep hs (Option.some.inj e1)
      · cases e1
theorem op_neD1 (hu : X.A.units + 64 < cLine) : OpR X (compareOp .NotEq) (rM2 X.K neSl) := by
  intro pins s σ H x y v u Q I rx ry h
  obtain ⟨F, d, e, r, sm, dx, dy, hf, q⟩ := h
  unfold neSl at hf
  cases e1 : eqD d e with
  | none => rw [e1] at hf; cases hf
  | some b =>
    rw [e1] at hf
    cases hf
    have done := fin_val sm q (.bl (!b))
    have deep : SeqAt.shaped d = true ∧ SeqAt.shaped e = true → PyData.eqv d e = b → wpAny (model X.prog X.w) X.A (compareOp .NotEq v u) (EP X pins σ Q) X.xe s := fun hs hb =>
      op_neD hu pins s σ H x y v u Q I rx ry ⟨d, e, Dp_up sm _ _ dx, Dp_up sm _ _ dy, hs.1, hs.2, by rw [hb]; exact done⟩
    unfold eqD at e1
    split at e1
    · cases e1
      cases dx
      cases dy
      exact op_ne pins s σ H _ _ v u Q I rx ry ⟨rfl, by simpa using done⟩
    · cases e1
      cases dx
      cases dy
      exact op_ne pins s σ H _ _ v u Q I rx ry ⟨rfl, by simpa using done⟩
    · cases e1
      cases dx
      cases dy
      exact op_ne pins s σ H _ _ v u Q I rx ry ⟨rfl, by simpa using done⟩
    · split at e1
      · rename_i hs
        exact deep hs (Option.some.inj e1)
      · cases e1
def cmpD (p : Int → Int → Bool) : D → D → Option Sl
  | .int i, .int j => some (.frz (.bool (p i j)))
  | _, _ => none
theorem op_cmpD {op : CmpOp} {p : Int → Int → Bool} (h : OpR X (compareOp op) (rI0 fun i j => .bl (p i j))) : OpR X (compareOp op) (rM2 X.K (cmpD p)) := by
  intro pins s σ H x y v u Q I rx ry hh
  obtain ⟨F, d, e, r, sm, dx, dy, hf, q⟩ := hh
  unfold cmpD at hf
  split at hf
  · cases hf
    cases dx
    cases dy
    exact h pins s σ H _ _ v u Q I rx ry ⟨_, _, rfl, rfl, fin_val sm q (.bl _)⟩
  · cases hf
def ltD := cmpD fun i j => decide (i < j)
def leD := cmpD fun i j => decide (i ≤ j)
def gtD := cmpD fun i j => decide (j < i)
def geD := cmpD fun i j => decide (j ≤ i)
theorem op_ltD : OpR X (compareOp .Lt) (rM2 X.K ltD) := op_cmpD op_lt
theorem op_leD : OpR X (compareOp .LtE) (rM2 X.K leD) := op_cmpD op_le
theorem op_gtD : OpR X (compareOp .Gt) (rM2 X.K gtD) := op_cmpD op_gt
theorem op_geD : OpR X (compareOp .GtE) (rM2 X.K geD) := op_cmpD op_ge
def isNoneD : D → Bool
  | .none => true
  | _ => false
def isND : D → D → Option Sl
  | d, .none => some (.frz (.bool (isNoneD d)))
  | _, _ => none
def isntND : D → D → Option Sl
  | d, .none => some (.frz (.bool (!isNoneD d)))
  | _, _ => none
theorem isNone_dp {F : Hp} {x : V} {d : D} (h : Dp K F x d) : decide (x = .non) = isNoneD d := by
  cases h <;> simp [isNoneD]
theorem op_isND : OpR X (compareOp .Is) (rM2 X.K isND) := by
  intro pins s σ H x y v u Q I rx ry h
  obtain ⟨F, d, e, r, sm, dx, dy, hf, q⟩ := h
  unfold isND at hf
  split at hf
  · cases hf
    cases dy
    exact op_isN pins s σ H x _ v u Q I rx ry ⟨rfl, by rw [isNone_dp dx]; exact fin_val sm q (.bl _)⟩
  · cases hf
theorem op_isntND : OpR X (compareOp .IsNot) (rM2 X.K isntND) := by
  intro pins s σ H x y v u Q I rx ry h
  obtain ⟨F, d, e, r, sm, dx, dy, hf, q⟩ := h
  unfold isntND at hf
  split at hf
  · cases hf
    cases dy
    exact op_notN pins s σ H x _ v u Q I rx ry ⟨rfl, by rw [isNone_dp dx]; exact fin_val sm q (.bl _)⟩
  · cases hf
def mtB (m : ME) : MT := fun ev => (m ev).bind fun r => match r.1.d with
  | .bool b => some (b, r.2)
  | _ => none
theorem mt_cmp {op : CmpOp} {f : D → D → Option Sl} {a b : Expr} {ma mb : ME} (ho : OpR X (compareOp op) (rM2 X.K f)) (ha : PE X a (tM X.K ma)) (hb : PE X b (tM X.K mb)) (hm : behindInMarks op b = false) : PT X (.Compare a [op] [b] pos) (tMT X.K (mtB (mbin f ma mb))) := by
  refine PT_of (pt_cmpR ho ha hb hm) fun σ H Q h => ?_
  obtain ⟨F, G, pin, ev, b, ev', R, e, q⟩ := h
  unfold mtB at e
  cases e1 : mbin f ma mb ev with
  | none => rw [e1] at e; cases e
  | some r =>
    rw [e1] at e
    simp only [Option.bind_some] at e
    split at e
    · rename_i c e2
      cases e
      refine tM_bin (fun _ _ _ _ z => z) (tM_d R e1 fun v H1 F1 s1 n1 R1 dp => ?_)
      rw [e2] at dp
      exact ⟨_, Dp_bool dp, q H1 F1 s1 n1 R1⟩
    · cases e
theorem mt_val {e : Expr} {m : ME} (h : PE X e (tM X.K m)) (he : ∀ whole, isTrue e X.env whole = (do let v ← whole; standAt e.pos; holding [v] (truthy v)) := by intro _; rfl) : PT X e (tMT X.K (mtB m)) := by
  refine PT_of (pt_val h he) fun σ H Q h => ?_
  obtain ⟨F, G, pin, ev, b, ev', R, e, q⟩ := h
  unfold mtB at e
  cases e1 : m ev with
  | none => rw [e1] at e; cases e
  | some r =>
    rw [e1] at e
    simp only [Option.bind_some] at e
    split at e
    · rename_i c e2
      cases e
      refine tM_d R e1 fun v H1 F1 s1 n1 R1 dp => ?_
      rw [e2] at dp
      exact ⟨_, Dp_bool dp, q H1 F1 s1 n1 R1⟩
    · cases e
def itemSl (d e : D) : Option Sl := (itemD d e).map fun x => .frz x
theorem ix_itemD : IxR X (rM2 X.K itemSl) := by
  intro value slice pins s σ H x y v u Q I rx ry h hsub
  obtain ⟨F, d, e, r, sm, dx, dy, hf, q⟩ := h
  refine ix_seq value slice pins s σ H x y v u Q I rx ry ?_ hsub
  unfold itemSl at hf
  cases e1 : itemD d e with
  | none => rw [e1] at hf; cases hf
  | some z =>
    rw [e1] at hf
    cases hf
    unfold itemD at e1
    split at e1
    · cases dx with
      | lst hs ha =>
        cases dy
        obtain ⟨w, e4, rr⟩ := atI_dp ha e1
        exact .inl ⟨_, _, _, w, rfl, rfl, sm.seq hs, e4, fin_val sm q rr⟩
    · cases dx with
      | tup hs ha =>
        cases dy
        obtain ⟨w, e4, rr⟩ := atI_dp ha e1
        exact .inr (.inl ⟨_, _, _, w, rfl, rfl, Same_seqT sm hs, e4, fin_val sm q rr⟩)
    · cases dx
      cases dy
      split at e1
      · rename_i z' j hz
        cases e5 : atI z'.cps.toList j with
        | none => rw [e5] at e1; cases e1
        | some c =>
          rw [e5] at e1
          cases e1
          exact .inr (.inr ⟨_, _, c, rfl, rfl, hz, e5, fin_val sm q (.str _)⟩)
      · cases e1
    · cases e1
def cutD {α : Type} (xs : List α) (lo hi : Option Int) : List α := (xs.drop (HT.sIx xs.length 0 lo)).take (HT.sIx xs.length xs.length hi - HT.sIx xs.length 0 lo)
theorem DpAll_cut {F : Hp} {vs : List V} {ds : List D} (h : DpAll K F vs ds) (lo hi : Option Int) : DpAll K F (cutV vs lo hi) (cutD ds lo hi) := by
  unfold cutV cutD
  rw [DpAll_len h]
  exact DpAll_take _ (DpAll_drop _ h)
def sliceD (d : D) (lo hi : Option Int) : Option Sl := match d with
  | .list ds => some (.own (cutD ds lo hi))
  | .tuple ds => some (.frz (.tuple (cutD ds lo hi)))
  | _ => none
def rMS (K : PySem.W.Frag) (f : D → Option Int → Option Int → Option Sl) : V → Option Int → Option Int → Hp → VK → Prop := fun x lo hi H Q => ∃ F d s, Same F H ∧ Dp K F x d ∧ f d lo hi = some s ∧ Fin K F H s Q
theorem getItem_tuple_all {prog : Program} {w : World} {A : Around} {E : Value → Shared → Prop} {s : Shared} {t sl : Addr} {items : Array Value} {vl vu : Value} {lo hi : Option Int} {Q : Value → Shared → Prop} (ht : PyProof.Rows.IsTup s.heap t items) (hs : s.heap.IsSliceOf sl vl vu .none) (pl : IsPart vl lo) (pu : IsPart vu hi)
    (hw : HT.sIx items.size 0 lo = 0 ∧ HT.sIx items.size items.size hi = items.size) (h : Q (.ref t) s) : wpAny (model prog w) A (getItem (.ref t) (.ref sl)) Q E s := by
  obtain ⟨os, hos, hcs, hds⟩ := id hs
  have hTs : s.TypeIs (.ref sl) "slice" := ⟨os, hos, hcs⟩
  unfold getItem
  try with_reducible refine wpAny_holding ?_
  first | refine wpAny_bind (wpAny_pure ?_) | skip
  refine wpAny_bind (wpAny_sequenceKey ht.typeIs (by decide) ?_)
  refine wpAny_bind (wpAny_callSpecial?_slot (name := Str.ofString "__getitem__") ht.typeIs PyProof.Rows.slot_tuple_getitem
    (wpAny_call_entry PyProof.Rows.slot_tuple_getitem ht.typeIs PyProof.Rows.entry_tuple_getitem ?_ (PyProof.Rows.args_tuple_getitem _ _)))
  show wpAny _ _ (Builtin.Tuple.tupleItemsOf (.ref t) >>= _) _ _ s
  refine wpAny_bind (PyProof.Rows.tupleItemsOf_ ht ?_)
  refine wpAny_bind (wpAny_typeOf hTs ?_)
  rw [if_pos (by decide)]
  refine wpAny_bind (HT.sliceApplied_gen hs pl pu ?_)
  have hyes : (((HT.sIx items.size 0 lo : Nat) : Int) == 0 && (1 : Int) == 1 && (HT.sIx items.size items.size hi - HT.sIx items.size 0 lo) == items.size) = true := by
    rw [hw.1, hw.2]
    simp
  show wpAny _ _ (if (((HT.sIx items.size 0 lo : Nat) : Int) == 0 && (1 : Int) == 1 && (HT.sIx items.size items.size hi - HT.sIx items.size 0 lo) == items.size) = true then _ else _) _ _ s
  rw [if_pos hyes]
  refine wpAny_bind ?_
  unfold Builtin.Tuple.tupleIsExact
  refine wpAny_bind (wpAny_typeOf ht.typeIs ?_)
  refine wpAny_pure ?_
  rw [if_pos (by decide)]
  exact wpAny_bind (wpAny_rule (wpAny_pure ⟨_, rfl, wpAny_pure h⟩))
theorem sl_sliceD : SlR X (rMS X.K sliceD) := by
  intro pins s σ H x v vl vu lo hi sl Q I rx hs pl pu h
  obtain ⟨F, d, r, sm, dx, hf, q⟩ := h
  unfold sliceD at hf
  split at hf
  · cases hf
    cases dx with
    | lst h1 a1 => exact sl_list pins s σ H _ v vl vu lo hi sl Q I rx hs pl pu ⟨_, _, rfl, sm.seq h1, fin_lst sm q (DpAll_cut a1 lo hi)⟩
  · cases hf
    cases dx with
    | tup h1 a1 =>
      rename_i a vs
      by_cases hw : HT.sIx vs.length 0 lo = 0 ∧ HT.sIx vs.length vs.length hi = vs.length
      · cases rx
        obtain ⟨its, r, ht, hz⟩ := I.tuple (Same_seqT sm h1)
        have hlen : its.toArray.size = vs.length := by rw [List.size_toArray]; exact r.length.symm
        refine ⟨"tuple", _, PyProof.Rows.slot_tuple_getitem.lookup, ht.typeIs, getItem_tuple_all ht hs pl pu (by rw [hlen]; exact hw) ⟨.ref a, H, I, rfl, ?_⟩⟩
        have e : cutD ‹List D› lo hi = ‹List D› := by
          unfold cutD
          rw [← DpAll_len a1, hw.1, hw.2, List.drop_zero, Nat.sub_zero, DpAll_len a1, List.take_length]
        rw [e] at q
        exact fin_val sm q (.tup h1 a1)
      · exact sl_tup pins s σ H _ v vl vu lo hi sl Q I rx hs pl pu ⟨_, _, rfl, Same_seqT sm h1, hw, fin_tup sm q (DpAll_cut a1 lo hi)⟩
  · cases hf
abbrev MO := Ev → Option (Option Int × Ev)
def tMO (K : PySem.W.Frag) (m : MO) : TO := fun σ H Q => ∃ F G pin ev o ev', RelS K F G pin H σ ev ∧ m ev = some (o, ev') ∧ ∀ H' F', Same F F' → New G F F' → RelS K F' G pin H' σ ev' → Q o H'
theorem PO_of {e : Option Expr} {t t' : TO} (h : PO X e t) (w : ∀ σ H Q, t' σ H Q → t σ H Q) : PO X e t' := ⟨fun pins s σ H Q I q => h.run pins s σ H Q I (w σ H Q q)⟩
def moNone : MO := fun ev => some (none, ev)
def moSome (m : ME) : MO := fun ev => (m ev).bind fun r => match r.1.d with
  | .int i => some (some i, r.2)
  | _ => none
theorem mo_none : PO X none (tMO X.K moNone) := PO_of po_none fun σ H Q h => by
  obtain ⟨F, G, pin, ev, b, ev', R, e, q⟩ := h
  cases e
  exact q H F (Same.refl F) (New.refl G F) R
theorem mo_some {e : Expr} {m : ME} (h : PE X e (tM X.K m)) : PO X (some e) (tMO X.K (moSome m)) := PO_of (po_some h) fun σ H Q h => by
  obtain ⟨F, G, pin, ev, b, ev', R, e, q⟩ := h
  unfold moSome at e
  cases e1 : m ev with
  | none => rw [e1] at e; cases e
  | some r =>
    rw [e1] at e
    simp only [Option.bind_some] at e
    split at e
    · rename_i i e2
      cases e
      refine tM_d R e1 fun v H1 F1 s1 n1 R1 dp => ?_
      rw [e2] at dp
      cases dp
      exact ⟨i, rfl, q H1 F1 s1 n1 R1⟩
    · cases e
def mslice (m : ME) (lo hi : MO) : ME := fun ev => (m ev).bind fun r => (lo r.2).bind fun l => (hi l.2).bind fun h => (sliceD r.1.d l.1 h.1).map fun s => (s, h.2)
theorem me_slice {e : Expr} {lo hi : Option Expr} {p2 : Pos} {m : ME} {ml mh : MO} (he : PE X e (tM X.K m)) (hl : PO X lo (tMO X.K ml)) (hh : PO X hi (tMO X.K mh)) : PE X (.Subscript e (.Slice lo hi none p2) pos) (tM X.K (mslice m ml mh)) := by
  refine PE_of (pe_slice sl_sliceD he hl hh) fun σ H Q h => ?_
  obtain ⟨F, G, pin, ev, s, ev', R, e, q⟩ := h
  unfold mslice at e
  cases e1 : m ev with
  | none => rw [e1] at e; cases e
  | some r =>
    rw [e1] at e
    simp only [Option.bind_some] at e
    cases e2 : ml r.2 with
    | none => rw [e2] at e; cases e
    | some l =>
      rw [e2] at e
      simp only [Option.bind_some] at e
      cases e3 : mh l.2 with
      | none => rw [e3] at e; cases e
      | some hh =>
        rw [e3] at e
        simp only [Option.bind_some] at e
        cases e4 : sliceD r.1.d l.1 hh.1 with
        | none => rw [e4] at e; cases e
        | some z =>
          rw [e4] at e
          cases e
          refine tM_d R e1 fun v H1 F1 s1 n1 R1 dp => ?_
          refine ⟨F1, G, pin, r.2, l.1, l.2, R1, e2, fun H2 F2 s2 n2 R2 => ?_⟩
          refine ⟨F2, G, pin, l.2, hh.1, hh.2, R2, e3, fun H3 F3 s3 n3 R3 => ?_⟩
          refine ⟨F3, _, _, R3.fh, Dp_up (s2.trans s3) _ _ dp, e4, fun w H4 F4 a b c d rr => ?_⟩
          obtain ⟨R4, n4⟩ := R3.grow a b c d
          exact q w H4 F4 (((s1.trans s2).trans s3).trans a) (((n1.trans n2).trans n3).trans n4) R4 (rr.rr R3)
def mslcN (i : Nat) (lo hi : MO) : ME := fun ev => match ev[i]? with
  | some (some _) => (lo ev).bind fun l => (hi l.2).bind fun h => (match h.2[i]? with
    | some (some s) => (sliceD s.d l.1 h.1).map fun s => (s, h.2)
    | _ => none)
  | _ => none
theorem me_slcN (i : Nat) {y : Str} {p p2 : Pos} {lo hi : Option Expr} {ml mh : MO} (hl : PO X lo (tMO X.K ml)) (hh : PO X hi (tMO X.K mh)) (hN : X.N[i]? = some y := by rfl) (hvi : Vis X.env.scope y := by first | exact Or.inl rfl | exact Or.inr (Or.inl rfl) | exact Or.inr (Or.inr rfl))
    (hd : (y == ("__debug__" : Str)) = false := by decide) (hcd : (y == ("__classdict__" : Str)) = false := by decide) : PE X (.Subscript (.Name y p) (.Slice lo hi none p2) pos) (tM X.K (mslcN i ml mh)) := by
  refine PE_of (pe_slice (sl_list.or sl_sliceD) (pe_var (i := i) hN hvi hd hcd) hl hh) fun σ H Q h => ?_
  obtain ⟨F, G, pin, ev, s, ev', R, e, q⟩ := h
  unfold mslcN at e
  split at e
  · rename_i s0 e0
    cases e2 : ml ev with
    | none => rw [e2] at e; cases e
    | some l =>
      rw [e2] at e
      simp only [Option.bind_some] at e
      cases e3 : mh l.2 with
      | none => rw [e3] at e; cases e
      | some hh =>
        rw [e3] at e
        simp only [Option.bind_some] at e
        split at e
        · rename_i t e4
          cases e5 : sliceD t.d l.1 hh.1 with
          | none => rw [e5] at e; cases e
          | some z =>
            rw [e5] at e
            cases e
            obtain ⟨v, e6⟩ := slot_val R e0
            refine ⟨v, e6, F, G, pin, ev, l.1, l.2, R, e2, fun H2 F2 s2 n2 R2 => ?_⟩
            refine ⟨F2, G, pin, l.2, hh.1, hh.2, R2, e3, fun H3 F3 s3 n3 R3 => ?_⟩
            have fin : Fin X.K F3 H3 s Q := fun w H4 F4 a b c d rr => by
              obtain ⟨R4, n4⟩ := R3.grow a b c d
              exact q w H4 F4 ((s2.trans s3).trans a) ((n2.trans n3).trans n4) R4 (rr.rr R3)
            have e5' := e5
            unfold sliceD at e5
            split at e5
            · rename_i ds e7
              cases e5
              obtain ⟨a, vs, e8, hs, ha⟩ := slot_seq R3 e4 e7
              rw [e6] at e8
              cases e8
              exact .inl ⟨a, vs, rfl, hs, fin_lst R3.fh fin (DpAll_cut ha _ _)⟩
            · rename_i ds e7
              obtain ⟨a, vs, e8, hs, ha⟩ := slot_tup R3 e4 e7
              rw [e6] at e8
              cases e8
              exact .inr ⟨F3, _, _, R3.fh, .tup hs ha, by rw [← e7]; exact e5', fin⟩
            · cases e5
        · cases e
  · cases e
def lenD : List D → Option Sl
  | [.list ds] => some (.frz (.int ds.length))
  | [.tuple ds] => some (.frz (.int ds.length))
  | [.str x] => if x.length ≤ sizeLine then some (.frz (.int x.length)) else none
  | _ => none
theorem CallR_of {f : Value} {r r' : List V → Hp → VK → Prop} (h : CallR X f r) (w : ∀ xs H Q, r' xs H Q → r xs H Q) : CallR X f r' := fun pins s σ H xs us Q I rr q => h pins s σ H xs us Q I rr (w _ _ _ q)
theorem cb_len : CallR X (.builtin "len") (rMC X.K lenD) := by
  intro pins s σ H xs us Q I rr h
  obtain ⟨F, ds, r, sm, dx, hf, q⟩ := h
  unfold lenD at hf
  split at hf
  · cases hf
    cases dx with
    | cons d1 d2 =>
      cases d2
      cases d1 with
      | lst h1 a1 => exact call_len_seq pins s σ H _ us Q I rr ⟨_, _, rfl, .inl (sm.seq h1), by rw [DpAll_len a1]; exact fin_val sm q (.int _)⟩
  · cases hf
    cases dx with
    | cons d1 d2 =>
      cases d2
      cases d1 with
      | tup h1 a1 => exact call_len_seq pins s σ H _ us Q I rr ⟨_, _, rfl, .inr (Same_seqT sm h1), by rw [DpAll_len a1]; exact fin_val sm q (.int _)⟩
  · split at hf
    · rename_i hz
      cases hf
      cases dx with
      | cons d1 d2 =>
        cases d2
        cases d1
        exact call_len_str pins s σ H _ us Q I rr ⟨_, rfl, hz, fin_val sm q (.int _)⟩
    · cases hf
  · cases hf
def intsOf : List D → Option (List Int)
  | [] => some []
  | .int i :: r => (intsOf r).map fun z => i :: z
  | _ :: _ => none
theorem intsOf_dp {F : Hp} : ∀ {ds : List D} {vs : List V} {ns : List Int}, DpAll K F vs ds → intsOf ds = some ns → vs = ns.map V.int
  | [], _, _, h, e => by cases h; cases e; rfl
  | d :: ds, _, ns, h, e => by
    cases h with
    | cons h1 h2 =>
      unfold intsOf at e
      split at e
      · rename_i hd
        cases hd
      · rename_i i r hd
        cases hd
        cases e2 : intsOf ds with
        | none => rw [e2] at e; cases e
        | some z =>
          rw [e2] at e
          cases e
          cases h1
          rw [intsOf_dp h2 e2]
          rfl
      · cases e
def sumD : List D → Option Sl
  | [.list ds] => (intsOf ds).map fun ns => .frz (.int ns.sum)
  | _ => none
theorem cb_sum (hc : X.calm = true) : CallR X (.builtin "sum") (rMC X.K sumD) := by
  intro pins s σ H xs us Q I rr h
  obtain ⟨F, ds, r, sm, dx, hf, q⟩ := h
  unfold sumD at hf
  split at hf
  · rename_i ds
    cases e : intsOf ds with
    | none => rw [e] at hf; cases hf
    | some ns =>
      rw [e] at hf
      cases hf
      cases dx with
      | cons d1 d2 =>
        cases d2
        cases d1 with
        | lst h1 a1 =>
          have := intsOf_dp a1 e
          subst this
          exact cr_sum hc pins s σ H _ us Q I rr ⟨_, ns, rfl, sm.seq h1, fin_val sm q (.int _)⟩
  · cases hf
def maxI : List Int → Int
  | [] => 0
  | [x] => x
  | x :: y :: r => max x (maxI (y :: r))
def minI : List Int → Int
  | [] => 0
  | [x] => x
  | x :: y :: r => min x (minI (y :: r))
theorem maxI_mem : ∀ {ns : List Int}, ns ≠ [] → maxI ns ∈ ns
  | [x], _ => by simp [maxI]
  | x :: y :: r, _ => by
    have ih := maxI_mem (ns := y :: r) (by simp)
    show max x (maxI (y :: r)) ∈ _
    by_cases h : x ≤ maxI (y :: r)
    · rw [Int.max_eq_right h]; exact List.mem_cons_of_mem _ ih
    · rw [Int.max_eq_left (by omega)]; exact List.mem_cons_self
theorem maxI_ge : ∀ {ns : List Int} {z : Int}, z ∈ ns → z ≤ maxI ns
  | [x], z, h => by simp at h; subst h; exact Int.le_refl _
  | x :: y :: r, z, h => by
    show z ≤ max x (maxI (y :: r))
    rcases List.mem_cons.mp h with rfl | h
    · exact Int.le_max_left _ _
    · exact Int.le_trans (maxI_ge h) (Int.le_max_right _ _)
theorem minI_mem : ∀ {ns : List Int}, ns ≠ [] → minI ns ∈ ns
  | [x], _ => by simp [minI]
  | x :: y :: r, _ => by
    have ih := minI_mem (ns := y :: r) (by simp)
    show min x (minI (y :: r)) ∈ _
    by_cases h : x ≤ minI (y :: r)
    · rw [Int.min_eq_left h]; exact List.mem_cons_self
    · rw [Int.min_eq_right (by omega)]; exact List.mem_cons_of_mem _ ih
theorem minI_le : ∀ {ns : List Int} {z : Int}, z ∈ ns → minI ns ≤ z
  | [x], z, h => by simp at h; subst h; exact Int.le_refl _
  | x :: y :: r, z, h => by
    show min x (minI (y :: r)) ≤ z
    rcases List.mem_cons.mp h with rfl | h
    · exact Int.min_le_left _ _
    · exact Int.le_trans (Int.min_le_right _ _) (minI_le h)
def maxD : List D → Option Sl
  | [.list ds] => (intsOf ds).bind fun ns => if ns.isEmpty = true then none else some (.frz (.int (maxI ns)))
  | [.int i, .int j] => some (.frz (.int (max i j)))
  | _ => none
def minD : List D → Option Sl
  | [.list ds] => (intsOf ds).bind fun ns => if ns.isEmpty = true then none else some (.frz (.int (minI ns)))
  | [.int i, .int j] => some (.frz (.int (min i j)))
  | _ => none
theorem cb_max (hc : X.calm = true) : CallR X (.builtin "max") (rMC X.K maxD) := by
  intro pins s σ H xs us Q I rr h
  obtain ⟨F, ds, r, sm, dx, hf, q⟩ := h
  unfold maxD at hf
  split at hf
  · rename_i ds
    cases e : intsOf ds with
    | none => rw [e] at hf; cases hf
    | some ns =>
      rw [e] at hf
      simp only [Option.bind_some] at hf
      split at hf
      · cases hf
      · rename_i hne
        cases hf
        cases dx with
        | cons d1 d2 =>
          cases d2
          cases d1 with
          | lst h1 a1 =>
            have := intsOf_dp a1 e
            subst this
            have hn : ns ≠ [] := fun z => hne (by rw [z]; rfl)
            refine cr_max hc pins s σ H _ us Q I rr ⟨_, ns, rfl, sm.seq h1, by cases ns; exact absurd rfl hn; simp, fun m hm hle => ?_⟩
            have : m = maxI ns := Int.le_antisymm (maxI_ge hm) (hle _ (maxI_mem hn))
            rw [this]
            exact fin_val sm q (.int _)
  · cases hf
    cases dx with
    | cons d1 d2 =>
      cases d2 with
      | cons d2 d3 =>
        cases d3
        cases d1
        cases d2
        rename_i i j
        refine call_max2 hc pins s σ H _ us Q I rr ⟨i, j, rfl, ?_⟩
        have : (if j > i then j else i) = max i j := by
          by_cases h : j > i
          · rw [if_pos h, Int.max_eq_right (by omega)]
          · rw [if_neg h, Int.max_eq_left (by omega)]
        rw [this]
        exact fin_val sm q (.int _)
  · cases hf
theorem cb_min (hc : X.calm = true) : CallR X (.builtin "min") (rMC X.K minD) := by
  intro pins s σ H xs us Q I rr h
  obtain ⟨F, ds, r, sm, dx, hf, q⟩ := h
  unfold minD at hf
  split at hf
  · rename_i ds
    cases e : intsOf ds with
    | none => rw [e] at hf; cases hf
    | some ns =>
      rw [e] at hf
      simp only [Option.bind_some] at hf
      split at hf
      · cases hf
      · rename_i hne
        cases hf
        cases dx with
        | cons d1 d2 =>
          cases d2
          cases d1 with
          | lst h1 a1 =>
            have := intsOf_dp a1 e
            subst this
            have hn : ns ≠ [] := fun z => hne (by rw [z]; rfl)
            refine cr_min hc pins s σ H _ us Q I rr ⟨_, ns, rfl, sm.seq h1, by cases ns; exact absurd rfl hn; simp, fun m hm hle => ?_⟩
            have : m = minI ns := Int.le_antisymm (hle _ (minI_mem hn)) (minI_le hm)
            rw [this]
            exact fin_val sm q (.int _)
  · cases hf
    cases dx with
    | cons d1 d2 =>
      cases d2 with
      | cons d2 d3 =>
        cases d3
        cases d1
        cases d2
        rename_i i j
        refine call_min2 hc pins s σ H _ us Q I rr ⟨i, j, rfl, ?_⟩
        have : (if j < i then j else i) = min i j := by
          by_cases h : j < i
          · rw [if_pos h, Int.min_eq_right (by omega)]
          · rw [if_neg h, Int.min_eq_left (by omega)]
        rw [this]
        exact fin_val sm q (.int _)
  · cases hf
def blsOf : List D → Option (List Bool)
  | [] => some []
  | .bool i :: r => (blsOf r).map fun z => i :: z
  | _ :: _ => none
theorem blsOf_dp {F : Hp} : ∀ {ds : List D} {vs : List V} {ns : List Bool}, DpAll K F vs ds → blsOf ds = some ns → vs = ns.map V.bl
  | [], _, _, h, e => by cases h; cases e; rfl
  | d :: ds, _, ns, h, e => by
    cases h with
    | cons h1 h2 =>
      unfold blsOf at e
      split at e
      · rename_i hd
        cases hd
      · rename_i i r hd
        cases hd
        cases e2 : blsOf ds with
        | none => rw [e2] at e; cases e
        | some z =>
          rw [e2] at e
          cases e
          cases h1
          rw [blsOf_dp h2 e2]
          rfl
      · cases e
def allD : List D → Option Sl
  | [.list ds] => (blsOf ds).map fun ns => .frz (.bool (ns.all id))
  | _ => none
def anyD : List D → Option Sl
  | [.list ds] => (blsOf ds).map fun ns => .frz (.bool (ns.any id))
  | _ => none
theorem cb_all (hc : X.calm = true) : CallR X (.builtin "all") (rMC X.K allD) := by
  intro pins s σ H xs us Q I rr h
  obtain ⟨F, ds, r, sm, dx, hf, q⟩ := h
  unfold allD at hf
  split at hf
  · rename_i ds
    cases e : blsOf ds with
    | none => rw [e] at hf; cases hf
    | some ns =>
      rw [e] at hf
      cases hf
      cases dx with
      | cons d1 d2 =>
        cases d2
        cases d1 with
        | lst h1 a1 =>
          have := blsOf_dp a1 e
          subst this
          exact cr_all hc pins s σ H _ us Q I rr ⟨_, ns, rfl, sm.seq h1, fin_val sm q (.bl _)⟩
  · cases hf
theorem cb_any (hc : X.calm = true) : CallR X (.builtin "any") (rMC X.K anyD) := by
  intro pins s σ H xs us Q I rr h
  obtain ⟨F, ds, r, sm, dx, hf, q⟩ := h
  unfold anyD at hf
  split at hf
  · rename_i ds
    cases e : blsOf ds with
    | none => rw [e] at hf; cases hf
    | some ns =>
      rw [e] at hf
      cases hf
      cases dx with
      | cons d1 d2 =>
        cases d2
        cases d1 with
        | lst h1 a1 =>
          have := blsOf_dp a1 e
          subst this
          exact cr_any hc pins s σ H _ us Q I rr ⟨_, ns, rfl, sm.seq h1, fin_val sm q (.bl _)⟩
  · cases hf
def absD : List D → Option Sl
  | [.int i] => some (.frz (.int (if i < 0 then -i else i)))
  | _ => none
theorem cb_abs : CallR X (.builtin "abs") (rMC X.K absD) := by
  intro pins s σ H xs us Q I rr h
  obtain ⟨F, ds, r, sm, dx, hf, q⟩ := h
  unfold absD at hf
  split at hf
  · cases hf
    cases dx with
    | cons d1 d2 =>
      cases d2
      cases d1
      exact call_abs pins s σ H _ us Q I rr ⟨_, rfl, fin_val sm q (.int _)⟩
  · cases hf
def intD : List D → Option Sl
  | [.int i] => some (.frz (.int i))
  | [.bool k] => some (.frz (.int (if k then 1 else 0)))
  | _ => none
theorem ct_int : CallR X (.type "int") (rMC X.K intD) := by
  intro pins s σ H xs us Q I rr h
  obtain ⟨F, ds, r, sm, dx, hf, q⟩ := h
  unfold intD at hf
  split at hf
  · cases hf
    cases dx with
    | cons d1 d2 =>
      cases d2
      cases d1
      exact call_int1 pins s σ H _ us Q I rr (.inl ⟨_, rfl, fin_val sm q (.int _)⟩)
  · cases hf
    cases dx with
    | cons d1 d2 =>
      cases d2
      cases d1
      exact call_int1 pins s σ H _ us Q I rr (.inr ⟨_, rfl, fin_val sm q (.int _)⟩)
  · cases hf
def strD : List D → Option Sl
  | [.int i] => if i.natAbs.log2 < 1920 then some (.frz (.str (toString i : String))) else none
  | _ => none
theorem ct_str : CallR X (.type "str") (rMC X.K strD) := by
  intro pins s σ H xs us Q I rr h
  obtain ⟨F, ds, r, sm, dx, hf, q⟩ := h
  unfold strD at hf
  split at hf
  · split at hf
    · rename_i hz
      cases hf
      cases dx with
      | cons d1 d2 =>
        cases d2
        cases d1
        exact call_str_int pins s σ H _ us Q I rr ⟨_, rfl, hz, fin_val sm q (.str _)⟩
    · cases hf
  · cases hf
def tupD : List D → Option Sl
  | [.list ds] => some (.frz (.tuple ds))
  | [.tuple ds] => some (.frz (.tuple ds))
  | _ => none
theorem ct_tuple : CallR X (.type "tuple") (rMC X.K tupD) := by
  intro pins s σ H xs us Q I rr h
  obtain ⟨F, ds, r, sm, dx, hf, q⟩ := h
  unfold tupD at hf
  split at hf
  · cases hf
    cases dx with
    | cons d1 d2 =>
      cases d2
      cases d1 with
      | lst h1 a1 => exact call_tuple_of pins s σ H _ us Q I rr ⟨_, _, rfl, .inl ⟨sm.seq h1, fin_tup sm q a1⟩⟩
  · cases hf
    cases dx with
    | cons d1 d2 =>
      cases d2
      cases d1 with
      | tup h1 a1 => exact call_tuple_of pins s σ H _ us Q I rr ⟨_, _, rfl, .inr ⟨Same_seqT sm h1, fin_val sm q (.tup h1 a1)⟩⟩
  · cases hf
def lstD : List D → Option Sl
  | [.list ds] => some (.own ds)
  | [.tuple ds] => some (.own ds)
  | _ => none
theorem ct_list : CallR X (.type "list") (rMC X.K lstD) := by
  intro pins s σ H xs us Q I rr h
  obtain ⟨F, ds, r, sm, dx, hf, q⟩ := h
  unfold lstD at hf
  split at hf
  · cases hf
    cases dx with
    | cons d1 d2 =>
      cases d2
      cases d1 with
      | lst h1 a1 => exact call_list_of pins s σ H _ us Q I rr ⟨_, _, rfl, .inl (sm.seq h1), fin_lst sm q a1⟩
  · cases hf
    cases dx with
    | cons d1 d2 =>
      cases d2
      cases d1 with
      | tup h1 a1 => exact call_list_of pins s σ H _ us Q I rr ⟨_, _, rfl, .inr (Same_seqT sm h1), fin_lst sm q a1⟩
  · cases hf
def mlstRg1 (m : ME) : ME := fun ev => (m ev).bind fun r => match r.1.d with
  | .int j => if 0 ≤ j ∧ j ≤ 16777216 then some (.own (intsD 0 j.toNat), r.2) else none
  | _ => none
theorem intsD_dp {F : Hp} : ∀ (n : Nat) (lo : Int), DpAll K F ((List.range n).map fun (i : Nat) => V.int (lo + (i : Nat))) (intsD lo n)
  | 0, _ => .nil
  | n + 1, lo => by
    rw [List.range_succ_eq_map, List.map_cons, List.map_map]
    refine .cons ?_ ?_
    · show Dp K F (V.int (lo + ((0 : Nat) : Int))) (.int lo)
      rw [show lo + ((0 : Nat) : Int) = lo by omega]
      exact .int lo
    · have := intsD_dp (F := F) n (lo + 1)
      have e : ((List.range n).map ((fun (i : Nat) => V.int (lo + (i : Nat))) ∘ Nat.succ)) = (List.range n).map fun (i : Nat) => V.int (lo + 1 + (i : Nat)) := by
        apply List.map_congr_left
        intro k _
        show V.int (lo + ((k + 1 : Nat) : Int)) = V.int (lo + 1 + (k : Int))
        congr 1
        omega
      rw [e]
      exact this
theorem me_lstRg1 {a : Expr} {m : ME} {p p2 p3 : Pos} (hc : X.calm = true) (hg : Gl X "list") (hm : X.mg "list" = none) (hg2 : Gl X "range") (hm2 : X.mg "range" = none) (ha : PE X a (tM X.K m)) (na : starEach [a] X.env = (false, eval a X.env) :: starEach [] X.env := by rfl)
    (nb : starEach [.Call (.Name "range" p2) [a] [] p3] X.env = (false, eval (.Call (.Name "range" p2) [a] [] p3) X.env) :: starEach [] X.env := by rfl) : PE X (.Call (.Name "list" p) [.Call (.Name "range" p2) [a] [] p3] [] pos) (tM X.K (mlstRg1 m)) := by
  refine PE_of (pe_listRg hc hg hm (prg_1 hg2 hm2 ha na) nb) fun σ H Q h => ?_
  obtain ⟨F, G, pin, ev, s, ev', R, e, q⟩ := h
  unfold mlstRg1 at e
  cases e1 : m ev with
  | none => rw [e1] at e; cases e
  | some r =>
    rw [e1] at e
    simp only [Option.bind_some] at e
    split at e
    · rename_i j e2
      split at e
      · rename_i hz
        cases e
        refine tM_d R e1 fun v H1 F1 s1 n1 R1 dp => ?_
        rw [e2] at dp
        cases dp
        refine ⟨j, rfl, .of_le (by decide) hz.2 (by decide) hz.1, ?_⟩
        refine fin_lst (K := X.K) (ds := intsD 0 j.toNat) R1.fh (fun w H3 F3 a b c d r' => ?_) ?_
        · obtain ⟨R3, n3⟩ := R1.grow a b c d
          exact q w H3 F3 (s1.trans a) (n1.trans n3) R3 (r'.rr R1)
        · unfold rgV
          rw [show (j - 0).toNat = j.toNat by omega]
          exact intsD_dp j.toNat 0
      · cases e
    · cases e
def tyD : D → String
  | .none => "NoneType"
  | .bool _ => "bool"
  | .int _ => "int"
  | .str _ => "str"
  | .list _ => "list"
  | .tuple _ => "tuple"
  | .dict _ => "dict"
theorem tyX_of {F H : Hp} {v : V} {d : D} (sm : Same F H) (h : Dp K F v d) : TyX K H v (.type (tyD d)) := by
  cases h with
  | non => exact .base .non
  | bl b => exact .base (.bl b)
  | int i => exact .base (.int i)
  | str x => exact .base (.str x)
  | lst hs ha =>
    rcases hs with (hs | ⟨o, hs⟩) | ⟨o, its, n, hk, hc, _⟩
    · exact .base (.lst (sm _ _ hs))
    · exact .base (.frz (sm _ _ hs))
    · exact .kList hk hc
  | tup hs ha =>
    rcases hs with (hs | ⟨o, hs⟩) | ⟨o, its, n, hk, hc, _⟩
    · exact .base (.tup (sm _ _ hs))
    · exact .fTuple (sm _ _ hs)
    · exact .kTuple hk hc
def isaD (T : String) (d : D) : Option Sl := (kitB (tyD d) T).map fun b => .frz (.bool b)
def misi (T : String) (m : ME) : ME := fun ev => (m ev).bind fun r => (isaD T r.1.d).map fun s => (s, r.2)
theorem me_isi {a : Expr} {m : ME} {T : String} {x : Str} {p p2 : Pos} (hg : Gl X "isinstance") (hm : X.mg "isinstance" = none) (hg2 : Gl X x) (hm2 : X.mg x = none) (hv2 : bootBuiltins x = some (.type T)) (ha : PE X a (tM X.K m)) (hn : x ≠ "__name__" := by decide) (hdb : (x == ("__debug__" : Str)) = false := by decide)
    (he : starEach [a, .Name x p2] X.env = (false, eval a X.env) :: starEach [.Name x p2] X.env := by rfl) (he2 : starEach [.Name x p2] X.env = (false, eval (.Name x p2) X.env) :: starEach [] X.env := by rfl) (hpl : (backTo pos (starEach [.Name x p2] X.env)).any (·.1) = false := by rfl) :
    PE X (.Call (.Name "isinstance" p) [a, .Name x p2] [] pos) (tM X.K (misi T m)) := by
  refine PE_of (pe_callB call_isi hg hm PyProof.Rows.boot_isinstance (pa_cons ha (pa_cons (pe_bltn (v := .ty T) hg2 hm2 hv2 rfl hn hdb) pa_nil he2) he) (by decide) (by decide) he hpl) fun σ H Q h => ?_
  obtain ⟨F, G, pin, ev, s, ev', R, e, q⟩ := h
  unfold misi isaD at e
  cases e1 : m ev with
  | none => rw [e1] at e; cases e
  | some r =>
    rw [e1] at e
    simp only [Option.bind_some] at e
    cases e2 : kitB (tyD r.1.d) T with
    | none => rw [e2] at e; cases e
    | some b =>
      rw [e2] at e
      cases e
      refine tM_d R e1 fun v H1 F1 s1 n1 R1 dp => ?_
      exact ⟨v, .ty T, _, _, b, rfl, .ty T, tyX_of R1.fh dp, kit_ty e2, q _ H1 F1 s1 n1 R1 (.bl b)⟩
end
end MM
end
section
set_option Elab.async false
set_option linter.all false
set_option maxRecDepth 100000
set_option maxHeartbeats 4000000
namespace MM
open PySem PySem.Spec L2
theorem applied_rev {prog : Program} {w : World} {A : Around} {E : Value → Shared → Prop} {s : Shared} {sl : Addr} {vs : Value} {n : Nat} {Q : Int × Int × Nat → Shared → Prop} (hs : s.heap.IsSliceOf sl .none .none vs) (ps : IsPart vs (some (-1)))
    (h : Q ((n : Int) - 1, -1, n) s) : wpAny (model prog w) A (Builtin.Slice.sliceApplied (.ref sl) (pure (n : Int))) Q E s := by
  obtain ⟨os, hos, hcs, hds⟩ := id hs
  unfold Builtin.Slice.sliceApplied Builtin.Slice.sliceFields
  refine wpAny_bind (wpAny_bind (wpAny_field hos hds (x := .none) rfl (wpAny_bind (wpAny_field hos hds (x := .none) rfl (wpAny_bind (wpAny_field hos hds (x := vs) rfl (wpAny_pure ?_)))))))
  refine wpAny_bind (HT.slicePart_ ps ?_)
  show wpAny _ _ (if ((-1 : Int) == 0) = true then _ else _) _ _ s
  rw [if_neg (by decide)]
  refine wpAny_bind (HT.slicePart_ .none (wpAny_bind (HT.slicePart_ .none (wpAny_bind (wpAny_pure ?_)))))
  show wpAny _ _ (match Builtin.Slice.sliceAdjust none none (-1) (n : Int) with | (lo, hi) => pure (lo, (-1 : Int), Builtin.Slice.slicePlaces lo hi (-1))) _ _ s
  have e : Builtin.Slice.sliceAdjust none none (-1) (n : Int) = ((n : Int) - 1, -1) := rfl
  rw [e]
  show wpAny _ _ (pure ((n : Int) - 1, (-1 : Int), Builtin.Slice.slicePlaces ((n : Int) - 1) (-1) (-1))) _ _ s
  have e2 : Builtin.Slice.slicePlaces ((n : Int) - 1) (-1) (-1) = n := by
    unfold Builtin.Slice.slicePlaces
    have h1 : ¬ ((-1 : Int) > 0) := by decide
    simp only [h1, if_false]
    split
    · rw [show (- -1 : Int) = 1 by decide, Int.ediv_one]
      omega
    · omega
  rw [e2]
  exact wpAny_pure h
theorem fm_congr {α β : Type} {f g : α → Option β} : ∀ {l : List α}, (∀ k, k ∈ l → f k = g k) → l.filterMap f = l.filterMap g
  | [], _ => rfl
  | a :: l, h => by
    rw [List.filterMap_cons, List.filterMap_cons, h a List.mem_cons_self, fm_congr fun k hk => h k (List.mem_cons_of_mem _ hk)]
theorem pick_rev (xs : Array Value) : ((List.range xs.size).filterMap fun (k : Nat) => xs[(((xs.size : Int) - 1) + (k : Int) * -1).toNat]?).toArray = xs.toList.reverse.toArray := by
  have e : ((List.range xs.size).filterMap fun (k : Nat) => xs[(((xs.size : Int) - 1) + (k : Int) * -1).toNat]?) = ((List.range xs.size).map fun k => xs.size - 1 - k).filterMap (xs[·]?) := by
    rw [List.filterMap_map]
    refine fm_congr fun k hk => ?_
    have hk := List.mem_range.mp hk
    have : (((xs.size : Int) - 1) + (k : Int) * -1).toNat = xs.size - 1 - k := by omega
    rw [this]
    rfl
  rw [e, PySem.W.krv_range]
  have e2 : ((List.range xs.size).reverse).filterMap (xs[·]?) = ((List.range xs.size).filterMap (xs[·]?)).reverse := by rw [List.filterMap_reverse]
  rw [e2, PySem.W.krv_all]
theorem getItem_tuple_rev {prog : Program} {w : World} {A : Around} {E : Value → Shared → Prop} {s : Shared} {t sl : Addr} {items : Array Value} {vs : Value} {Q : Value → Shared → Prop} (ht : PyProof.Rows.IsTup s.heap t items) (hs : s.heap.IsSliceOf sl .none .none vs) (ps : IsPart vs (some (-1)))
    (h : Q (.ref s.heap.objs.size) { s with heap := s.heap.push { cls := .type "tuple", data := .seq items.toList.reverse.toArray } }) (hsz : items.size ≤ sizeLine) : wpAny (model prog w) A (getItem (.ref t) (.ref sl)) Q E s := by
  have htake : sizeOk (.seq items.toList.reverse.toArray) := by
    show items.toList.reverse.toArray.size ≤ sizeLine
    rw [List.size_toArray, List.length_reverse, Array.length_toList]
    exact hsz
  obtain ⟨os, hos, hcs, hds⟩ := id hs
  have hTs : s.TypeIs (.ref sl) "slice" := ⟨os, hos, hcs⟩
  unfold getItem
  try with_reducible refine wpAny_holding ?_
  first | refine wpAny_bind (wpAny_pure ?_) | skip
  refine wpAny_bind (wpAny_sequenceKey ht.typeIs (by decide) ?_)
  refine wpAny_bind (wpAny_callSpecial?_slot (name := Str.ofString "__getitem__") ht.typeIs PyProof.Rows.slot_tuple_getitem
    (wpAny_call_entry PyProof.Rows.slot_tuple_getitem ht.typeIs PyProof.Rows.entry_tuple_getitem ?_ (PyProof.Rows.args_tuple_getitem _ _)))
  show wpAny _ _ (Builtin.Tuple.tupleItemsOf (.ref t) >>= _) _ _ s
  refine wpAny_bind (PyProof.Rows.tupleItemsOf_ ht ?_)
  refine wpAny_bind (wpAny_typeOf hTs ?_)
  rw [if_pos (by decide)]
  refine wpAny_bind (applied_rev hs ps ?_)
  have hno : ¬ ((((items.size : Int) - 1 == 0) && ((-1 : Int) == 1) && (items.size == items.size)) = true) := by simp
  show wpAny _ _ (if (((items.size : Int) - 1 == 0) && ((-1 : Int) == 1) && (items.size == items.size)) = true then _ else _) _ _ s
  rw [if_neg hno, pick_rev]
  first
    | exact wpAny_bind (m := Builtin.Tuple.tupleExact _) (wpAny_newObj_type (wpAny_pure ⟨_, rfl, wpAny_pure h⟩) htake)
    | exact wpAny_bind (m := Builtin.Tuple.tupleExact _) (wpAny_newObj_type (wpAny_bind (wpAny_pure (wpAny_pure ⟨_, rfl, wpAny_pure h⟩))) htake)
    | exact wpAny_bind (wpAny_bind (m := Builtin.Tuple.tupleExact _) (wpAny_newObj_type (wpAny_pure (wpAny_pure ⟨_, rfl, wpAny_pure h⟩)) htake))
    | exact wpAny_bind (wpAny_bind (m := Builtin.Tuple.tupleExact _) (wpAny_newObj_type (wpAny_pure ⟨_, rfl, wpAny_pure h⟩) htake))
theorem pick_one (its : List Value) : slicePick its.toArray none none (some 1) = its.toArray := by
  have := slicePick_cut its none none
  have e : slicePick its.toArray none none (some 1) = slicePick its.toArray none none none := by
    unfold slicePick
    rfl
  rw [e, this]
  simp [HT.sIx_none]
section
variable {X : Cx} {pos : Pos} {K : PySem.W.Frag}
def stepD (d : D) (st : D) : Option Sl := match d, st with
  | .list ds, .int i => if i = 1 then some (.own ds) else if i = -1 then some (.own ds.reverse) else none
  | .tuple ds, .int i => if i = -1 then some (.frz (.tuple ds.reverse)) else none
  | _, _ => none
def mstep (m n : ME) : ME := fun ev => (m ev).bind fun r => (n r.2).bind fun q => (stepD r.1.d q.1.d).map fun s => (s, q.2)
theorem me_step {e st : Expr} {p3 : Pos} {m n : ME} (he : PE X e (tM X.K m)) (hst : PE X st (tM X.K n)) : PE X (.Subscript e (.Slice none none (some st) p3) pos) (tM X.K (mstep m n)) := by
  refine ⟨fun pins s σ H Q I h => ?_⟩
  obtain ⟨F, G, pin, ev, sx, ev', R, e0, q⟩ := h
  unfold mstep at e0
  cases e1 : m ev with
  | none => rw [e1] at e0; cases e0
  | some r1 =>
    rw [e1] at e0
    simp only [Option.bind_some] at e0
    cases e2 : n r1.2 with
    | none => rw [e2] at e0; cases e0
    | some r2 =>
      rw [e2] at e0
      simp only [Option.bind_some] at e0
      cases e3 : stepD r1.1.d r2.1.d with
      | none => rw [e3] at e0; cases e0
      | some z =>
        rw [e3] at e0
        cases e0
        have hi : ∃ i : Int, r2.1.d = .int i := by
          unfold stepD at e3
          split at e3
          · rename_i i _ h; exact ⟨_, h⟩
          · rename_i i _ h; exact ⟨_, h⟩
          · cases e3
        obtain ⟨i, hi⟩ := hi
        refine PyProof.Rows.Subscript_ (thn (he.run pins s σ H (fun v H1 => ∃ F1, Same F F1 ∧ New G F F1 ∧ RelS X.K F1 G pin H1 σ r1.2 ∧ Dp X.K F1 v r1.1.d) I (tM_d R e1 fun v H1 F1 s1 n1 R1 dp => ⟨F1, s1, n1, R1, dp⟩)) fun v s1 ⟨x, H1, I1, rv1, F1, sm1, n1, R1, d1⟩ => ?_)
        have hP : PO X (some st) (tPart (tM X.K n)) := po_some hst
        refine wpAny_Slice (thn (po_none.run pins s1 σ H1 (fun o H2 => o = none ∧ H2 = H1) I1 ⟨rfl, rfl⟩) fun vl s2 ⟨l, H2, I2, pl, el, eh⟩ => ?_)
        subst el eh
        refine thn (po_none.run pins s2 σ H2 (fun o H3 => o = none ∧ H3 = H2) I2 ⟨rfl, rfl⟩) fun vu s3 ⟨u, H3, I3, pu, eu, eh⟩ => ?_
        subst eu eh
        refine thn (hP.run pins s3 σ H3 (fun o H4 => o = some i ∧ ∃ F4, Same F1 F4 ∧ New G F1 F4 ∧ RelS X.K F4 G pin H4 σ r2.2) I3 (tM_d R1 e2 fun w H4 F4 s4 n4 R4 d4 => ?_)) fun vst s4 ⟨o, H4, I4, pst, eo, F4, sm4, n4, R4⟩ => ?_
        · rw [hi] at d4
          cases d4
          exact ⟨i, rfl, rfl, F4, s4, n4, R4⟩
        subst eo
        have evl : vl = .none := by cases pl; rfl
        have evu : vu = .none := by cases pu; rfl
        subst evl evu
        have I5 : Inv X pins σ H4 { s4 with heap := s4.heap.push { cls := .type "slice", data := .fields #[.none, .none, vst] } } := I4.kept (t' := s4.toks) fun b ob q => Heap.get?_push_of_some _ q
        have d5 := Dp_up sm4 _ _ d1
        have fin : Fin X.K F4 H4 sx Q := fun w H5 F5 a b c d rr => by
          obtain ⟨R5, n5⟩ := R4.grow a b c d
          exact q w H5 F5 ((sm1.trans sm4).trans a) ((n1.trans n4).trans n5) R5 (rr.rr R4)
        rw [hi] at e3
        show wpAny (model X.prog X.w) X.A (PyProof.Rows.subscriptTail e (.Slice none none (some st) p3) v (.ref s4.heap.objs.size)) (EP X pins σ Q) X.xe { s4 with heap := s4.heap.push { cls := .type "slice", data := .fields #[.none, .none, vst] } }
        unfold stepD at e3
        split at e3
        · rename_i ds j hd hj
          cases hj
          rw [hd] at d5
          cases d5 with
          | lst hs ha =>
            cases rv1
            obtain ⟨its, r, ht, hz⟩ := I5.list (R4.fh.seq hs)
            have hlen := r.length
            split at e3
            · rename_i hone
              subst hone
              cases e3
              refine PyProof.Rows.tail_any (ops := [.ref _, .ref s4.heap.objs.size]) ht.isList.typeIs (PySem.slot_list_getitem.lookup) ?_ (by with_unfolding_all rfl)
              refine wpAny_getItem_list_slice ht.isList (Heap.IsSliceOf.new _ .none .none vst) .none .none pst (by decide) ?_ (by rw [List.size_toArray]; omega)
              rw [pick_one]
              exact ⟨.ref _, _, I5.laid (t' := s4.toks) (o := .lst _) (fun b ob q => Heap.get?_push_of_some _ q) (Nat.le_refl _) ⟨hz, _, 0, r, Heap.get?_push_size _ rfl⟩, rfl, fin_lst R4.fh fin ha _ (I5.hok.fresh (Nat.le_refl _))⟩
            · split at e3
              · rename_i hone
                subst hone
                cases e3
                refine PyProof.Rows.tail_any (ops := [.ref _, .ref s4.heap.objs.size]) ht.isList.typeIs (PySem.slot_list_getitem.lookup) ?_ (by with_unfolding_all rfl)
                refine wpAny_getItem_list_slice ht.isList (Heap.IsSliceOf.new _ .none .none vst) .none .none pst (by decide) ?_ (by rw [List.size_toArray]; omega)
                rw [PySem.W.krv_pick]
                exact ⟨.ref _, _, I5.laid (t' := s4.toks) (o := .lst _) (fun b ob q => Heap.get?_push_of_some _ q) (Nat.le_refl _) ⟨by rw [List.length_reverse]; exact hz, _, 0, r.reverse, Heap.get?_push_size _ rfl⟩, rfl, fin_lst R4.fh fin (DpAll_rev ha) _ (I5.hok.fresh (Nat.le_refl _))⟩
              · cases e3
        · rename_i ds j hd hj
          cases hj
          rw [hd] at d5
          cases d5 with
          | tup hs ha =>
            cases rv1
            obtain ⟨its, r, ht, hz⟩ := I5.tuple (Same_seqT R4.fh hs)
            have hlen := r.length
            split at e3
            · rename_i hone
              subst hone
              cases e3
              refine PyProof.Rows.tail_any (ops := [.ref _, .ref s4.heap.objs.size]) ht.typeIs (PyProof.Rows.slot_tuple_getitem.lookup) ?_ (by with_unfolding_all rfl)
              refine getItem_tuple_rev ht (Heap.IsSliceOf.new _ .none .none vst) pst ?_ (by rw [List.size_toArray]; omega)
              exact ⟨.ref _, _, I5.laid (t' := s4.toks) (o := .tup _) (fun b ob q => Heap.get?_push_of_some _ q) (Nat.le_refl _) ⟨by rw [List.length_reverse]; exact hz, _, r.reverse, PyProof.Rows.IsTup.new _ _⟩, rfl, fin_tup R4.fh fin (DpAll_rev ha) _ (I5.hok.fresh (Nat.le_refl _))⟩
            · cases e3
        · cases e3
def flatD : D → Bool
  | .none => true
  | .bool _ => true
  | .int _ => true
  | .str _ => true
  | _ => false
def eqF : D → D → Bool
  | .int i, .int j => decide (i = j)
  | .str i, .str j => decide (i = j)
  | _, _ => false
def sameKind : D → D → Bool
  | .int _, .int _ => true
  | .str _, .str _ => true
  | _, _ => false
def cntD (d : D) (e : D) : Option Sl := match d with
  | .list ds => if ds.all (sameKind e) = true then some (.frz (.int (ds.countP (eqF e) : Nat))) else none
  | _ => none
def rMM (K : PySem.W.Frag) (f : D → D → Option Sl) : V → List V → Hp → VK → Prop := fun x xs H Q => ∃ F d e y s, Same F H ∧ xs = [y] ∧ Dp K F x d ∧ Dp K F y e ∧ f d e = some s ∧ Fin K F H s Q
theorem cnt_vals {F : Hp} {e : D} {y : V} (he : Dp K F y e) : ∀ {ds : List D} {vs : List V} {us : List Value}, DpAll K F vs ds → ds.all (sameKind e) = true → Vals vs us → flatV y = true ∧ us.countP (eqU y) = ds.countP (eqF e) ∧ vs.all flatV = true ∨ ds = []
  | [], _, _, h, _, r => .inr rfl
  | d :: ds, _, _, h, k, r => by
    cases h with
    | cons h1 h2 =>
      cases r with
      | cons r1 r2 =>
        rename_i v vs u us
        rw [List.all_cons, Bool.and_eq_true] at k
        have ih := cnt_vals he h2 k.2 r2
        refine .inl ?_
        have hh : flatV y = true ∧ flatV v = true ∧ eqU y u = eqF e d := by
          have k1 := k.1
          cases e <;> cases d <;> first | cases k1 | skip
          · cases he
            cases h1
            obtain ⟨t, rfl⟩ := r1
            refine ⟨rfl, rfl, ?_⟩
            rename_i i j
            have := eqU_of (x := .int i) (y := .int j) (u := .int j t) ⟨t, rfl⟩ rfl
            rw [this]
            simp only [eqV, eqF]
            rw [Bool.eq_iff_iff, beq_iff_eq, decide_eq_true_iff]
            exact eq_comm
          · cases he
            cases h1
            obtain ⟨t, rfl⟩ := r1
            refine ⟨rfl, rfl, ?_⟩
            rename_i i j
            have := eqU_of (x := .str i) (y := .str j) (u := .str j t) ⟨t, rfl⟩ rfl
            rw [this]
            simp only [eqV, eqF]
            rw [Bool.eq_iff_iff, beq_iff_eq, decide_eq_true_iff]
            exact eq_comm
        obtain ⟨f1, f2, f3⟩ := hh
        rcases ih with ⟨_, i2, i3⟩ | i2
        · refine ⟨f1, ?_, ?_⟩
          · rw [List.countP_cons, List.countP_cons, i2, f3]
          · rw [List.all_cons, f2, i3] <;> rfl
        · subst i2
          cases h2
          cases r2
          refine ⟨f1, ?_, ?_⟩
          · rw [List.countP_cons, List.countP_cons, f3] <;> rfl
          · rw [List.all_cons, f2] <;> rfl
theorem mt_cnt : MtR X "list.count" (rMM X.K cntD) := by
  intro pins s σ H x xs v us Q I rx rxs h
  obtain ⟨F, d, e, y, r, sm, rfl, dx, dy, hf, q⟩ := h
  unfold cntD at hf
  split at hf
  · rename_i ds
    split at hf
    · rename_i hk
      cases hf
      cases dx with
      | lst hs ha =>
        rename_i p vs
        cases rx
        obtain ⟨u, rfl, ru⟩ := rxs.one
        obtain ⟨its, rv, ⟨⟨cls, dd, data, sl⟩, n, ho, hc, hdn, hd⟩, hlen⟩ := I.list (sm.seq hs)
        simp only at hc hd
        subst hc hd
        have key : its.countP (eqU y) = ds.countP (eqF e) ∧ ∀ w ∈ its, SeqAt.EqAt X.A.in1 s w u (eqU y w) := by
          rcases cnt_vals dy ha hk rv with ⟨f1, f2, f3⟩ | hd
          · exact ⟨f2, mem_eqAt ru f1 rv f3⟩
          · subst hd
            cases ha
            cases rv
            exact ⟨rfl, fun w hw => by cases hw⟩
        refine call_meets PySem.F.slot_list_count ⟨_, ho, rfl⟩ PySem.F.entry_list_count (PySem.F.args_list_count_2 _ _)
          (SeqAt.list_countAt p its.toArray n dd sl u (eqU y)) ⟨ho, fun w hw => (key.2 w (by simpa using hw)), ?_⟩
        refine ⟨.int (ds.countP (eqF e) : Nat), H, I.tok _, ⟨s.toks, ?_⟩, fin_val sm q (.int _)⟩
        show Value.int ((its.toArray.toList.countP (eqU y) : Nat) : Int) s.toks = _
        rw [List.toList_toArray, key.1]
    · cases hf
  · cases hf
def mbm (f : D → D → Option Sl) (m n : ME) : ME := mbin f m n
theorem me_count {o b : Expr} {m n : ME} {p2 : Pos} (ho : PE X o (tM X.K m)) (hb : PE X b (tM X.K n)) (he : starEach [b] X.env = (false, eval b X.env) :: starEach [] X.env := by rfl) (hpl : (backTo pos (starEach [] X.env)).any (·.1) = false := by rfl)
    (hbb : attributeBase o "count" X.env (eval o X.env) = eval o X.env := by rfl)
    (hfew : ((backTo pos (starEach [b] X.env)).all (fun x => !x.1) && (backToKw pos (keywordEach [] X.env)).all (fun x => x.1.isSome)
      && decide (([b] : List Expr).length + ([] : List Keyword).length + (if ([] : List Keyword).isEmpty then 0 else 1) < 30)) = true := by rfl)
    (hline : (p2.endLine == pos.line) = true := by rfl) :
    PE X (.Call (.Attribute o "count" p2) [b] [] pos) (tM X.K (mbm cntD m n)) := by
  refine PE_of (pe_bm PySem.F.plainAttrs_list PySem.F.slot_list_count PySem.F.type_list_count mt_cnt ho (pa_cons hb pa_nil he) hbb hfew hline he hpl) fun σ H Q h => ?_
  obtain ⟨F, G, pin, ev, s, ev', R, e, q⟩ := h
  unfold mbm mbin at e
  cases e1 : m ev with
  | none => rw [e1] at e; cases e
  | some r1 =>
    rw [e1] at e
    simp only [Option.bind_some] at e
    cases e2 : n r1.2 with
    | none => rw [e2] at e; cases e
    | some r2 =>
      rw [e2] at e
      simp only [Option.bind_some] at e
      cases e3 : cntD r1.1.d r2.1.d with
      | none => rw [e3] at e; cases e
      | some z =>
        rw [e3] at e
        cases e
        refine tM_d R e1 fun v H1 F1 sm1 n1 R1 d1 => ?_
        have ty : tyV X.K "list" v H1 := by
          have e3' := e3
          unfold cntD at e3'
          split at e3'
          · rename_i ds hd
            rw [hd] at d1
            cases d1 with
            | lst hs ha => exact .inl ⟨rfl, _, R1.fh.seq hs⟩
          · cases e3'
        refine ⟨ty, tM_d R1 e2 fun u H2 F2 sm2 n2 R2 d2 => ?_⟩
        refine ⟨F2, _, _, u, _, R2.fh, rfl, Dp_up sm2 _ _ d1, d2, e3, fun w H3 F3 a b c d r => ?_⟩
        obtain ⟨R3, n3⟩ := R2.grow a b c d
        exact q w H3 F3 ((sm1.trans sm2).trans a) ((n1.trans n2).trans n3) R3 (r.rr R2)
end
end MM
end
section
set_option Elab.async false
set_option linter.all false
set_option maxRecDepth 100000
set_option maxHeartbeats 4000000
namespace MM
open PySem PySem.Spec L2
def wpO {α : Type} (o : Option α) (Q : α → Prop) : Prop := ∃ r, o = some r ∧ Q r
def wpE (m : ME) (ev : Ev) (Q : Sl → Ev → Prop) : Prop := wpO (m ev) fun r => Q r.1 r.2
def wpT (m : MT) (ev : Ev) (Q : Bool → Ev → Prop) : Prop := wpO (m ev) fun r => Q r.1 r.2
def wpS (m : MS) (ev : Ev) (Q : Fl → Ev → Prop) : Prop := wpO (m ev) fun r => Q r.1 r.2
def wpA (m : MA) (ev : Ev) (Q : List Ar → Ev → Prop) : Prop := wpO (m ev) fun r => Q r.1 r.2
def wpI (m : MI) (ev : Ev) (Q : List D → Ev → Prop) : Prop := wpO (m ev) fun r => Q r.1 r.2
def wpB (m : MO) (ev : Ev) (Q : Option Int → Ev → Prop) : Prop := wpO (m ev) fun r => Q r.1 r.2
def wpF (f : Fn) (args : List Sl) (Q : Sl → Ev → Prop) : Prop := wpO (f args) fun r => Q r.1 r.2
def wpL (g : MG) (b : MS) (ds : List D) (ev : Ev) (Q : Fl → Ev → Prop) : Prop := wpO (mloop g b ds ev) fun r => Q r.1 r.2
def wpC (g : MG) (t : MT) (m : ME) (vs : List Nat) (ds : List D) (ev : Ev) (acc : List D) (Q : List D → Ev → Prop) : Prop := wpO (mcloop g t m vs ds ev acc) fun r => Q r.1 r.2
theorem wpO_some {α : Type} {x : α} {Q : α → Prop} : wpO (some x) Q ↔ Q x := by simp [wpO]
theorem wpO_none {α : Type} {Q : α → Prop} : wpO (none : Option α) Q ↔ False := by simp [wpO]
theorem wpO_inv {α : Type} {x : α} {Q : α → Prop} (h : wpO (some x) Q) : Q x := by
  obtain ⟨r, e, q⟩ := h
  cases e
  exact q
theorem wpO_mono {α : Type} {o : Option α} {Q Q' : α → Prop} (h : wpO o Q) (w : ∀ r, Q r → Q' r) : wpO o Q' := let ⟨r, e, q⟩ := h; ⟨r, e, w r q⟩
theorem wpO_bind {α β : Type} {o : Option α} {f : α → Option β} {Q : β → Prop} : wpO (o.bind f) Q ↔ wpO o fun r => wpO (f r) Q := by
  cases o with
  | none => simp [wpO]
  | some x => simp [wpO]
theorem wpO_map {α β : Type} {o : Option α} {f : α → β} {Q : β → Prop} : wpO (o.map f) Q ↔ wpO o fun r => Q (f r) := by
  cases o with
  | none => simp [wpO]
  | some x => simp [wpO]
theorem wpO_ite {α : Type} {c : Prop} [Decidable c] {a b : Option α} {Q : α → Prop} : wpO (if c then a else b) Q ↔ (if c then wpO a Q else wpO b Q) := by split <;> rfl
theorem wpO_dup {α : Type} {o : Option α} {Q Q' : α → Prop} (h : wpO o Q) (h' : wpO o Q') : wpO o fun r => Q r ∧ Q' r := by
  obtain ⟨r, e, q⟩ := h
  obtain ⟨r', e', q'⟩ := h'
  rw [e] at e'
  cases e'
  exact ⟨r, e, q, q'⟩
theorem ite_f {c : Prop} [Decidable c] {a : Prop} : (if c then a else False) ↔ c ∧ a := by
  by_cases h : c <;> simp [h]
theorem ite_t {c : Prop} [Decidable c] {a : Prop} : (if c then False else a) ↔ ¬ c ∧ a := by
  by_cases h : c <;> simp [h]
theorem wE_C {d : D} {ev : Ev} {Q : Sl → Ev → Prop} : wpE (mC d) ev Q ↔ Q (.frz d) ev := by simp [wpE, mC, wpO]
def rdV (o : Option (Option Sl)) (Q : D → Prop) (Q' : List D → Prop) : Prop := match o with
  | some (some (.frz d)) => Q d
  | some (some (.own ds)) => Q' ds
  | _ => False
def rdA (o : Option (Option Sl)) (Q : D → Prop) : Prop := match o with
  | some (some s) => Q s.d
  | _ => False
def rdS (o : Option (Option Sl)) (Q : Sl → Prop) : Prop := match o with
  | some (some s) => Q s
  | _ => False
def rdM (o : Option (Option Sl)) (Q : Sl → List D → Prop) : Prop := match o with
  | some (some (.own ds)) => Q (.own ds) ds
  | some (some (.inn ds)) => Q (.inn ds) ds
  | _ => False
theorem rdV_frz {d : D} {Q : D → Prop} {Q' : List D → Prop} : rdV (some (some (.frz d))) Q Q' ↔ Q d := Iff.rfl
theorem rdV_own {ds : List D} {Q : D → Prop} {Q' : List D → Prop} : rdV (some (some (.own ds))) Q Q' ↔ Q' ds := Iff.rfl
theorem rdA_s {s : Sl} {Q : D → Prop} : rdA (some (some s)) Q ↔ Q s.d := Iff.rfl
theorem rdS_s {s : Sl} {Q : Sl → Prop} : rdS (some (some s)) Q ↔ Q s := Iff.rfl
theorem rdM_own {ds : List D} {Q : Sl → List D → Prop} : rdM (some (some (.own ds))) Q ↔ Q (.own ds) ds := Iff.rfl
theorem rdM_inn {ds : List D} {Q : Sl → List D → Prop} : rdM (some (some (.inn ds))) Q ↔ Q (.inn ds) ds := Iff.rfl
theorem wE_var {i : Nat} {ev : Ev} {Q : Sl → Ev → Prop} : wpE (mvar i) ev Q ↔ rdV ev[i]? (fun d => Q (.frz d) ev) (fun ds => Q (.frz (.list ds)) (ev.set i (some (.frz (.list ds))))) := by
  unfold wpE mvar rdV
  generalize ev[i]? = o
  rcases o with _ | _ | s
  · simp [wpO]
  · simp [wpO]
  · cases s <;> simp [wpO]
theorem wE_move {i : Nat} {ev : Ev} {Q : Sl → Ev → Prop} : wpE (mmove i) ev Q ↔ rdV ev[i]? (fun d => Q (.frz d) ev) (fun ds => Q (.own ds) (ev.set i none)) := by
  unfold wpE mmove rdV
  generalize ev[i]? = o
  rcases o with _ | _ | s
  · simp [wpO]
  · simp [wpO]
  · cases s <;> simp [wpO]
theorem wE_bin {f : D → D → Option Sl} {a b : ME} {ev : Ev} {Q : Sl → Ev → Prop} : wpE (mbin f a b) ev Q ↔ wpE a ev fun s ev1 => wpE b ev1 fun t ev2 => wpO (f s.d t.d) fun r => Q r ev2 := by
  unfold wpE mbin
  simp only [wpO_bind, wpO_map]
theorem wE_neg {a : ME} {ev : Ev} {Q : Sl → Ev → Prop} : wpE (mneg a) ev Q ↔ wpE a ev fun s ev1 => ∃ i, s.d = .int i ∧ Q (.frz (.int (-i))) ev1 := by
  unfold wpE mneg
  rw [wpO_bind]
  refine ⟨fun h => wpO_mono h fun r h => ?_, fun h => wpO_mono h fun r h => ?_⟩
  · split at h
    · rename_i i e; exact ⟨i, e, (by first | exact wpO_inv h | (obtain ⟨_, e0, q0⟩ := h; cases e0; exact q0))⟩
    · exact (wpO_none.mp h).elim
  · obtain ⟨i, e, q⟩ := h
    rw [e]
    exact ⟨_, rfl, q⟩
theorem wE_notV {a : ME} {ev : Ev} {Q : Sl → Ev → Prop} : wpE (mnotV a) ev Q ↔ wpE a ev fun s ev1 => ∃ i, s.d = .bool i ∧ Q (.frz (.bool (!i))) ev1 := by
  unfold wpE mnotV
  rw [wpO_bind]
  refine ⟨fun h => wpO_mono h fun r h => ?_, fun h => wpO_mono h fun r h => ?_⟩
  · split at h
    · rename_i i e; exact ⟨i, e, (by first | exact wpO_inv h | (obtain ⟨_, e0, q0⟩ := h; cases e0; exact q0))⟩
    · exact (wpO_none.mp h).elim
  · obtain ⟨i, e, q⟩ := h
    rw [e]
    exact ⟨_, rfl, q⟩
theorem wE_andV {a b : ME} {ev : Ev} {Q : Sl → Ev → Prop} : wpE (mandV a b) ev Q ↔ wpE a ev fun s ev1 => ∃ i, s.d = .bool i ∧ if i = true then wpE b ev1 Q else Q (.frz (.bool false)) ev1 := by
  unfold wpE mandV
  rw [wpO_bind]
  refine ⟨fun h => wpO_mono h fun r h => ?_, fun h => wpO_mono h fun r h => ?_⟩
  · split at h
    · rename_i e; exact ⟨true, e, by rw [if_pos rfl]; exact h⟩
    · rename_i e; exact ⟨false, e, by rw [if_neg (by decide)]; exact (by first | exact wpO_inv h | (obtain ⟨_, e0, q0⟩ := h; cases e0; exact q0))⟩
    · exact (wpO_none.mp h).elim
  · obtain ⟨i, e, q⟩ := h
    rw [e]
    cases i with
    | true => rw [if_pos rfl] at q; exact q
    | false => rw [if_neg (by decide)] at q; exact ⟨_, rfl, q⟩
theorem wE_orV {a b : ME} {ev : Ev} {Q : Sl → Ev → Prop} : wpE (morV a b) ev Q ↔ wpE a ev fun s ev1 => ∃ i, s.d = .bool i ∧ if i = true then Q (.frz (.bool true)) ev1 else wpE b ev1 Q := by
  unfold wpE morV
  rw [wpO_bind]
  refine ⟨fun h => wpO_mono h fun r h => ?_, fun h => wpO_mono h fun r h => ?_⟩
  · split at h
    · rename_i e; exact ⟨false, e, by rw [if_neg (by decide)]; exact h⟩
    · rename_i e; exact ⟨true, e, by rw [if_pos rfl]; exact (by first | exact wpO_inv h | (obtain ⟨_, e0, q0⟩ := h; cases e0; exact q0))⟩
    · exact (wpO_none.mp h).elim
  · obtain ⟨i, e, q⟩ := h
    rw [e]
    cases i with
    | false => rw [if_neg (by decide)] at q; exact q
    | true => rw [if_pos rfl] at q; exact ⟨_, rfl, q⟩
theorem wE_if {t : MT} {a b : ME} {ev : Ev} {Q : Sl → Ev → Prop} : wpE (mif t a b) ev Q ↔ wpT t ev fun c ev1 => if c = true then wpE a ev1 Q else wpE b ev1 Q := by
  unfold wpE wpT mif
  rw [wpO_bind]
  simp only [wpO_ite]
theorem wE_isi {T : String} {a : ME} {ev : Ev} {Q : Sl → Ev → Prop} : wpE (misi T a) ev Q ↔ wpE a ev fun s ev1 => wpO (isaD T s.d) fun r => Q r ev1 := by
  unfold wpE misi
  simp only [wpO_bind, wpO_map]
theorem wE_ixN {i : Nat} {m : ME} {ev : Ev} {Q : Sl → Ev → Prop} : wpE (mixN i m) ev Q ↔ rdS ev[i]? fun _ => wpE m ev fun t ev1 => rdA ev1[i]? fun d => wpO (itemD d t.d) fun r => Q (.frz r) ev1 := by
  rcases e : ev[i]? with _ | _ | s0
  · simp [wpE, mixN, rdS, wpO, e]
  · simp [wpE, mixN, rdS, wpO, e]
  · have e1 : mixN i m ev = (m ev).bind fun r => (match r.2[i]? with
      | some (some s) => (itemD s.d r.1.d).map fun d => (.frz d, r.2)
      | _ => none) := by
      unfold mixN
      simp only [e]
      try rfl
    unfold wpE
    rw [e1, wpO_bind, rdS_s]
    have key : ∀ r : Sl × Ev, wpO (match r.2[i]? with
      | some (some s) => (itemD s.d r.1.d).map fun d => (Sl.frz d, r.2)
      | _ => none) (fun r => Q r.1 r.2) ↔ rdA r.2[i]? fun d => wpO (itemD d r.1.d) fun z => Q (.frz z) r.2 := fun r => by
      rcases e2 : r.2[i]? with _ | _ | s1
      · simp [rdA, wpO]
      · simp [rdA, wpO]
      · simp only [rdA]
        rw [wpO_map]
    exact ⟨fun h => wpO_mono h fun r h => (key r).mp h, fun h => wpO_mono h fun r h => (key r).mpr h⟩
theorem wE_rd1 {f : List D → Option Sl} {i : Nat} {ev : Ev} {Q : Sl → Ev → Prop} : wpE (mrd1 f i) ev Q ↔ rdA ev[i]? fun d => wpO (f [d]) fun r => r.flat = true ∧ Q r ev := by
  rcases e : ev[i]? with _ | _ | s0
  · simp [wpE, mrd1, rdA, wpO, e]
  · simp [wpE, mrd1, rdA, wpO, e]
  · have e1 : mrd1 f i ev = (f [s0.d]).bind fun r => if r.flat = true then some (r, ev) else none := by
      unfold mrd1
      simp only [e]
      try rfl
    unfold wpE
    rw [e1, wpO_bind, rdA_s]
    simp only [wpO_ite, wpO_some, wpO_none, ite_f]
def seqQ (d : D) (Q : List D → Prop) : Prop := match d with
  | .list ds => Q ds
  | .tuple ds => Q ds
  | _ => False
theorem seqQ_l {ds : List D} {Q : List D → Prop} : seqQ (.list ds) Q ↔ Q ds := Iff.rfl
theorem seqQ_t {ds : List D} {Q : List D → Prop} : seqQ (.tuple ds) Q ↔ Q ds := Iff.rfl
theorem wE_tupN {i : Nat} {ev : Ev} {Q : Sl → Ev → Prop} : wpE (mtupN i) ev Q ↔ rdA ev[i]? fun d => seqQ d fun ds => Q (.frz (.tuple ds)) ev := by
  rcases e : ev[i]? with _ | _ | s0
  · simp [wpE, mtupN, rdA, wpO, e]
  · simp [wpE, mtupN, rdA, wpO, e]
  · unfold wpE mtupN
    rw [rdA_s]
    simp only [e]
    generalize s0.d = d
    cases d <;> simp [seqQ, wpO]
theorem wE_lstN {i : Nat} {ev : Ev} {Q : Sl → Ev → Prop} : wpE (mlstN i) ev Q ↔ rdA ev[i]? fun d => seqQ d fun ds => Q (.own ds) ev := by
  rcases e : ev[i]? with _ | _ | s0
  · simp [wpE, mlstN, rdA, wpO, e]
  · simp [wpE, mlstN, rdA, wpO, e]
  · unfold wpE mlstN
    rw [rdA_s]
    simp only [e]
    generalize s0.d = d
    cases d <;> simp [seqQ, wpO]
theorem wE_app {i : Nat} {m : ME} {ev : Ev} {Q : Sl → Ev → Prop} : wpE (mapp i m) ev Q ↔ rdM ev[i]? fun _ _ => wpE m ev fun t ev1 => rdM ev1[i]? fun s ds => ds.length < sizeLine ∧ Q (.frz .none) (ev1.set i (some (s.put (ds ++ [t.d])))) := by
  unfold wpE mapp
  have key : ∀ r : Sl × Ev, wpO (match r.2[i]? with
      | some (some s) => (match s.cont with
        | some ds => if ds.length < sizeLine then some (.frz .none, r.2.set i (some (s.put (ds ++ [r.1.d])))) else none
        | none => none)
      | _ => none) (fun r => Q r.1 r.2) ↔ rdM r.2[i]? fun s ds => ds.length < sizeLine ∧ Q (.frz .none) (r.2.set i (some (s.put (ds ++ [r.1.d])))) := fun r => by
    rcases e : r.2[i]? with _ | _ | s
    · simp [rdM, wpO]
    · simp [rdM, wpO]
    · cases s with
      | frz d => simp [rdM, Sl.cont, wpO]
      | own ds => by_cases h : ds.length < sizeLine <;> simp [rdM, Sl.cont, h, wpO]
      | inn ds => by_cases h : ds.length < sizeLine <;> simp [rdM, Sl.cont, h, wpO]
  cases e : ev[i]? with
  | none => simp [rdM, wpO]
  | some o =>
    cases o with
    | none => simp [rdM, wpO]
    | some s =>
      cases s with
      | frz d => simp [rdM, wpO]
      | own ds =>
        simp only [rdM]
        rw [wpO_bind]
        exact ⟨fun h => wpO_mono h fun r h => (key r).mp h, fun h => wpO_mono h fun r h => (key r).mpr h⟩
      | inn ds =>
        simp only [rdM]
        rw [wpO_bind]
        exact ⟨fun h => wpO_mono h fun r h => (key r).mp h, fun h => wpO_mono h fun r h => (key r).mpr h⟩
theorem wE_pop {i : Nat} {m : ME} {ev : Ev} {Q : Sl → Ev → Prop} (h : rdM ev[i]? fun _ _ => wpE m ev fun t ev1 => rdM ev1[i]? fun s ds => ∃ j : Nat, t.d = .int j ∧ j < 2 ^ 62 ∧ ∃ d, ds[j]? = some d ∧ Q (.frz d) (ev1.set i (some (s.put (ds.eraseIdx j))))) : wpE (mpop i m) ev Q := by
  unfold wpE mpop
  have key : ∀ r : Sl × Ev, (rdM r.2[i]? fun s ds => ∃ j : Nat, r.1.d = .int j ∧ j < 2 ^ 62 ∧ ∃ d, ds[j]? = some d ∧ Q (.frz d) (r.2.set i (some (s.put (ds.eraseIdx j))))) → wpO (match r.2[i]?, r.1.d with
      | some (some s), .int j => (match s.cont with
        | some ds => if -(2 ^ 63) ≤ j ∧ j < 2 ^ 63 then ((seqIndex? j ds.length).bind fun k => (ds[k]?).map fun d => (Sl.frz d, r.2.set i (some (s.put (ds.eraseIdx k))))) else none
        | none => none)
      | _, _ => none) (fun r => Q r.1 r.2) := fun r h => by
    have go : ∀ (s : Sl) (ds : List D), s.cont = some ds → r.2[i]? = some (some s) → (∃ j : Nat, r.1.d = .int j ∧ j < 2 ^ 62 ∧ ∃ d, ds[j]? = some d ∧ Q (.frz d) (r.2.set i (some (s.put (ds.eraseIdx j))))) → wpO (match r.2[i]?, r.1.d with
      | some (some s), .int j => (match s.cont with
        | some ds => if -(2 ^ 63) ≤ j ∧ j < 2 ^ 63 then ((seqIndex? j ds.length).bind fun k => (ds[k]?).map fun d => (Sl.frz d, r.2.set i (some (s.put (ds.eraseIdx k))))) else none
        | none => none)
      | _, _ => none) (fun r => Q r.1 r.2) := fun s ds hc e ⟨j, e1, hj, d, e2, q⟩ => by
      rw [e, e1]
      simp only [hc]
      have hl : j < ds.length := (List.getElem?_eq_some_iff.mp e2).1
      have e3 : seqIndex? (j : Int) ds.length = some j := (ixN_seq (by unfold ixN; rw [if_pos (by omega), if_pos (by omega)]; simp)).1
      rw [if_pos ⟨by omega, by omega⟩, e3]
      simp only [Option.bind_some, e2, Option.map_some]
      exact ⟨_, rfl, q⟩
    unfold rdM at h
    split at h
    · rename_i ds e
      exact go _ ds rfl e h
    · rename_i ds e
      exact go _ ds rfl e h
    · exact h.elim
  cases e : ev[i]? with
  | none => rw [e] at h; exact h.elim
  | some o =>
    cases o with
    | none => rw [e] at h; exact h.elim
    | some s =>
      rw [e] at h
      cases s with
      | frz d => exact h.elim
      | own ds =>
        show wpO ((m ev).bind _) _
        rw [wpO_bind]
        exact wpO_mono h fun r h => key r h
      | inn ds =>
        show wpO ((m ev).bind _) _
        rw [wpO_bind]
        exact wpO_mono h fun r h => key r h
theorem wE_callB {f : List D → Option Sl} {m : MA} {ev : Ev} {Q : Sl → Ev → Prop} : wpE (mcallB f m) ev Q ↔ wpA m ev fun as ev1 => wpO (ads as) fun ds => wpO (f ds) fun s => Q s ev1 := by
  unfold wpE wpA mcallB
  simp only [wpO_bind, wpO_map]
theorem wE_tup {m : MA} {ev : Ev} {Q : Sl → Ev → Prop} : wpE (mtup m) ev Q ↔ wpA m ev fun as ev1 => wpO (ads as) fun ds => ds.length ≤ sizeLine ∧ Q (.frz (.tuple ds)) ev1 := by
  unfold wpE wpA mtup
  simp only [wpO_bind, wpO_ite, wpO_some, wpO_none, ite_f]
theorem wE_lst {m : MA} {ev : Ev} {Q : Sl → Ev → Prop} : wpE (mlst m) ev Q ↔ wpA m ev fun as ev1 => wpO (ads as) fun ds => ds.length ≤ sizeLine ∧ Q (.own ds) ev1 := by
  unfold wpE wpA mlst
  simp only [wpO_bind, wpO_ite, wpO_some, wpO_none, ite_f]
theorem wE_call {f : Fn} {m : MA} {ev : Ev} {Q : Sl → Ev → Prop} : wpE (mcall f m) ev Q ↔ wpA m ev fun as ev1 => (arNd as).Nodup ∧ wpO (arSls ev1 as) fun args => wpF f args fun r outs => Q r (back ev1 as outs) := by
  unfold wpE wpA wpF mcall
  simp only [wpO_bind, wpO_ite, wpO_map, wpO_none, ite_f]
theorem wE_lc {it : MI} {g : MG} {t : MT} {m : ME} {vs : List Nat} {ev : Ev} {Q : Sl → Ev → Prop} : wpE (mlc it g t m vs) ev Q ↔ wpI it ev fun ds ev1 => vs.all (frzAt ev1) = true ∧ wpC g t m vs ds (wipeE ev1 vs) [] fun acc ev2 => Q (.own acc) (unwipe ev1 ev2 vs) := by
  unfold wpE wpI wpC mlc
  simp only [wpO_bind, wpO_ite, wpO_map, wpO_none, ite_f]
theorem wE_slice {m : ME} {lo hi : MO} {ev : Ev} {Q : Sl → Ev → Prop} : wpE (mslice m lo hi) ev Q ↔ wpE m ev fun s ev1 => wpB lo ev1 fun l ev2 => wpB hi ev2 fun h ev3 => wpO (sliceD s.d l h) fun r => Q r ev3 := by
  unfold wpE wpB mslice
  simp only [wpO_bind, wpO_map]
theorem wE_slcN {i : Nat} {lo hi : MO} {ev : Ev} {Q : Sl → Ev → Prop} : wpE (mslcN i lo hi) ev Q ↔ rdS ev[i]? fun _ => wpB lo ev fun l ev2 => wpB hi ev2 fun h ev3 => rdA ev3[i]? fun d => wpO (sliceD d l h) fun r => Q r ev3 := by
  rcases e : ev[i]? with _ | _ | s0
  · simp [wpE, mslcN, rdS, wpO, e]
  · simp [wpE, mslcN, rdS, wpO, e]
  · have e1 : mslcN i lo hi ev = (lo ev).bind fun l => (hi l.2).bind fun h => (match h.2[i]? with
      | some (some s) => (sliceD s.d l.1 h.1).map fun s => (s, h.2)
      | _ => none) := by
      unfold mslcN
      simp only [e]
      try rfl
    unfold wpE wpB
    rw [e1, wpO_bind, rdS_s]
    simp only [wpO_bind]
    have key : ∀ (l : Option Int) (r : Option Int × Ev), wpO (match r.2[i]? with
      | some (some s) => (sliceD s.d l r.1).map fun s => (s, r.2)
      | _ => none) (fun r => Q r.1 r.2) ↔ rdA r.2[i]? fun d => wpO (sliceD d l r.1) fun z => Q z r.2 := fun l r => by
      rcases e2 : r.2[i]? with _ | _ | s1
      · simp [rdA, wpO]
      · simp [rdA, wpO]
      · simp only [rdA]
        rw [wpO_map]
    exact ⟨fun h => wpO_mono h fun l h => wpO_mono h fun r h => (key l.1 r).mp h, fun h => wpO_mono h fun l h => wpO_mono h fun r h => (key l.1 r).mpr h⟩
theorem wE_step {m n : ME} {ev : Ev} {Q : Sl → Ev → Prop} : wpE (mstep m n) ev Q ↔ wpE m ev fun s ev1 => wpE n ev1 fun t ev2 => wpO (stepD s.d t.d) fun r => Q r ev2 := by
  unfold wpE mstep
  simp only [wpO_bind, wpO_map]
theorem wE_bm {f : D → D → Option Sl} {a b : ME} {ev : Ev} {Q : Sl → Ev → Prop} : wpE (mbm f a b) ev Q ↔ wpE a ev fun s ev1 => wpE b ev1 fun t ev2 => wpO (f s.d t.d) fun r => Q r ev2 := wE_bin
theorem wE_rep {m n : ME} {ev : Ev} {Q : Sl → Ev → Prop} : wpE (mrep m n) ev Q ↔ wpE m ev fun s ev1 => ∃ xs, s = .own xs ∧ wpE n ev1 fun t ev2 => ∃ k, t.d = .int k ∧ (-(2 ^ 63) ≤ k ∧ k < 2 ^ 63 ∧ xs.length * k.toNat ≤ sizeLine) ∧ Q (.own (List.replicate k.toNat xs).flatten) ev2 := by
  unfold wpE mrep
  rw [wpO_bind]
  refine ⟨fun h => wpO_mono h fun r h => ?_, fun h => wpO_mono h fun r h => ?_⟩
  · split at h
    · rename_i xs e
      refine ⟨xs, e, wpO_mono (wpO_bind.mp h) fun r h => ?_⟩
      split at h
      · rename_i k e2
        rw [wpO_ite] at h
        split at h
        · rename_i hz
          exact ⟨k, e2, hz, (by first | exact wpO_inv h | (obtain ⟨_, e0, q0⟩ := h; cases e0; exact q0))⟩
        · exact (wpO_none.mp h).elim
      · exact (wpO_none.mp h).elim
    · exact (wpO_none.mp h).elim
  · obtain ⟨xs, e, h⟩ := h
    rw [e]
    refine wpO_bind.mpr (wpO_mono h fun r h => ?_)
    obtain ⟨k, e2, hz, q⟩ := h
    rw [e2]
    show wpO (if _ then _ else _) _
    rw [if_pos hz]
    exact ⟨_, rfl, q⟩
theorem wE_lstRg {m : ME} {ev : Ev} {Q : Sl → Ev → Prop} : wpE (mlstRg1 m) ev Q ↔ wpE m ev fun t ev1 => ∃ j, t.d = .int j ∧ (0 ≤ j ∧ j ≤ 16777216) ∧ Q (.own (intsD 0 j.toNat)) ev1 := by
  unfold wpE mlstRg1
  rw [wpO_bind]
  refine ⟨fun h => wpO_mono h fun r h => ?_, fun h => wpO_mono h fun r h => ?_⟩
  · split at h
    · rename_i k e2
      rw [wpO_ite] at h
      split at h
      · rename_i hz
        exact ⟨k, e2, hz, (by first | exact wpO_inv h | (obtain ⟨_, e0, q0⟩ := h; cases e0; exact q0))⟩
      · exact (wpO_none.mp h).elim
    · exact (wpO_none.mp h).elim
  · obtain ⟨k, e2, hz, q⟩ := h
    rw [e2]
    show wpO (if _ then _ else _) _
    rw [if_pos hz]
    exact ⟨_, rfl, q⟩
theorem wB_none {ev : Ev} {Q : Option Int → Ev → Prop} : wpB moNone ev Q ↔ Q none ev := by simp [wpB, moNone, wpO]
theorem wB_some {m : ME} {ev : Ev} {Q : Option Int → Ev → Prop} : wpB (moSome m) ev Q ↔ wpE m ev fun t ev1 => ∃ j, t.d = .int j ∧ Q (some j) ev1 := by
  unfold wpB wpE moSome
  rw [wpO_bind]
  refine ⟨fun h => wpO_mono h fun r h => ?_, fun h => wpO_mono h fun r h => ?_⟩
  · split at h
    · rename_i k e2
      exact ⟨k, e2, (by first | exact wpO_inv h | (obtain ⟨_, e0, q0⟩ := h; cases e0; exact q0))⟩
    · exact (wpO_none.mp h).elim
  · obtain ⟨k, e2, q⟩ := h
    rw [e2]
    exact ⟨_, rfl, q⟩
theorem wA_nil {ev : Ev} {Q : List Ar → Ev → Prop} : wpA maNil ev Q ↔ Q [] ev := by simp [wpA, maNil, wpO]
theorem wA_cons {m : ME} {n : MA} {ev : Ev} {Q : List Ar → Ev → Prop} : wpA (maCons m n) ev Q ↔ wpE m ev fun s ev1 => wpA n ev1 fun as ev2 => Q (.val s.d :: as) ev2 := by
  unfold wpA wpE maCons
  simp only [wpO_bind, wpO_map]
theorem wA_slot {i : Nat} {n : MA} {ev : Ev} {Q : List Ar → Ev → Prop} : wpA (maSlot i n) ev Q ↔ rdS ev[i]? fun _ => wpA n ev fun as ev2 => Q (.slot i :: as) ev2 := by
  rcases e : ev[i]? with _ | _ | s0
  · simp [wpA, maSlot, rdS, wpO, e]
  · simp [wpA, maSlot, rdS, wpO, e]
  · have e1 : maSlot i n ev = (n ev).map fun q => (Ar.slot i :: q.1, q.2) := by
      unfold maSlot
      simp only [e]
      try rfl
    unfold wpA
    rw [e1, wpO_map, rdS_s]
theorem wT_tru {m : ME} {ev : Ev} {Q : Bool → Ev → Prop} : wpT (mtru m) ev Q ↔ wpE m ev fun s ev1 => wpO (truD s.d) fun b => Q b ev1 := by
  unfold wpT wpE mtru
  simp only [wpO_bind, wpO_map]
theorem wT_truN {i : Nat} {ev : Ev} {Q : Bool → Ev → Prop} : wpT (mtruN i) ev Q ↔ rdA ev[i]? fun d => wpO (truD d) fun b => Q b ev := by
  rcases e : ev[i]? with _ | _ | s0
  · simp [wpT, mtruN, rdA, wpO, e]
  · simp [wpT, mtruN, rdA, wpO, e]
  · have e1 : mtruN i ev = (truD s0.d).map fun b => (b, ev) := by
      unfold mtruN
      simp only [e]
      try rfl
    unfold wpT
    rw [e1, wpO_map, rdA_s]
theorem wT_not {m : MT} {ev : Ev} {Q : Bool → Ev → Prop} : wpT (mtnot m) ev Q ↔ wpT m ev fun b ev1 => Q (!b) ev1 := by
  unfold wpT mtnot
  simp only [wpO_map]
theorem wT_and {m n : MT} {ev : Ev} {Q : Bool → Ev → Prop} : wpT (mtand m n) ev Q ↔ wpT m ev fun b ev1 => if b = true then wpT n ev1 Q else Q false ev1 := by
  unfold wpT mtand
  simp only [wpO_bind, wpO_ite, wpO_some]
theorem wT_or {m n : MT} {ev : Ev} {Q : Bool → Ev → Prop} : wpT (mtor m n) ev Q ↔ wpT m ev fun b ev1 => if b = true then Q true ev1 else wpT n ev1 Q := by
  unfold wpT mtor
  simp only [wpO_bind, wpO_ite, wpO_some]
theorem wT_B {m : ME} {ev : Ev} {Q : Bool → Ev → Prop} : wpT (mtB m) ev Q ↔ wpE m ev fun s ev1 => ∃ b, s.d = .bool b ∧ Q b ev1 := by
  unfold wpT wpE mtB
  rw [wpO_bind]
  refine ⟨fun h => wpO_mono h fun r h => ?_, fun h => wpO_mono h fun r h => ?_⟩
  · split at h
    · rename_i k e2
      exact ⟨k, e2, (by first | exact wpO_inv h | (obtain ⟨_, e0, q0⟩ := h; cases e0; exact q0))⟩
    · exact (wpO_none.mp h).elim
  · obtain ⟨k, e2, q⟩ := h
    rw [e2]
    exact ⟨_, rfl, q⟩
theorem wT_yes {ev : Ev} {Q : Bool → Ev → Prop} : wpT mtYes ev Q ↔ Q true ev := by simp [wpT, mtYes, wpO]
theorem wS_nil {ev : Ev} {Q : Fl → Ev → Prop} : wpS mnil ev Q ↔ Q .nx ev := by simp [wpS, mnil, wpO]
theorem wS_pass {ev : Ev} {Q : Fl → Ev → Prop} : wpS mpass ev Q ↔ Q .nx ev := by simp [wpS, mpass, wpO]
theorem wS_break {ev : Ev} {Q : Fl → Ev → Prop} : wpS mbreak ev Q ↔ Q .bk ev := by simp [wpS, mbreak, wpO]
theorem wS_cont {ev : Ev} {Q : Fl → Ev → Prop} : wpS mcont ev Q ↔ Q .ct ev := by simp [wpS, mcont, wpO]
theorem wS_retN {ev : Ev} {Q : Fl → Ev → Prop} : wpS mretN ev Q ↔ Q (.rt (.frz .none)) ev := by simp [wpS, mretN, wpO]
def thenS (b : MS) (Q : Fl → Ev → Prop) : Fl → Ev → Prop
  | .nx, ev => wpS b ev Q
  | fl, ev => Q fl ev
theorem thenS_nx {b : MS} {Q : Fl → Ev → Prop} {ev : Ev} : thenS b Q .nx ev ↔ wpS b ev Q := Iff.rfl
theorem thenS_rt {b : MS} {Q : Fl → Ev → Prop} {ev : Ev} {s : Sl} : thenS b Q (.rt s) ev ↔ Q (.rt s) ev := Iff.rfl
theorem thenS_bk {b : MS} {Q : Fl → Ev → Prop} {ev : Ev} : thenS b Q .bk ev ↔ Q .bk ev := Iff.rfl
theorem thenS_ct {b : MS} {Q : Fl → Ev → Prop} {ev : Ev} : thenS b Q .ct ev ↔ Q .ct ev := Iff.rfl
theorem wS_seq {a b : MS} {ev : Ev} {Q : Fl → Ev → Prop} : wpS (mseq a b) ev Q ↔ wpS a ev (thenS b Q) := by
  unfold wpS mseq
  rw [wpO_bind]
  refine ⟨fun h => wpO_mono h fun r h => ?_, fun h => wpO_mono h fun r h => ?_⟩
  · obtain ⟨f, e⟩ := r
    cases f <;> first | exact h | exact (by first | exact wpO_inv h | (obtain ⟨_, e0, q0⟩ := h; cases e0; exact q0))
  · obtain ⟨f, e⟩ := r
    cases f <;> first | exact h | exact ⟨_, rfl, h⟩
theorem wS_drop {m : ME} {ev : Ev} {Q : Fl → Ev → Prop} : wpS (mdrop m) ev Q ↔ wpE m ev fun _ ev1 => Q .nx ev1 := by
  unfold wpS wpE mdrop
  simp only [wpO_map]
theorem wS_ret {m : ME} {ev : Ev} {Q : Fl → Ev → Prop} : wpS (mret m) ev Q ↔ wpE m ev fun s ev1 => Q (.rt s) ev1 := by
  unfold wpS wpE mret
  simp only [wpO_map]
theorem wS_if {c : MT} {a b : MS} {ev : Ev} {Q : Fl → Ev → Prop} : wpS (mifS c a b) ev Q ↔ wpT c ev fun t ev1 => if t = true then wpS a ev1 Q else wpS b ev1 Q := by
  unfold wpS wpT mifS
  simp only [wpO_bind, wpO_ite]
def wrQ (o : Option (Option Sl)) (Q : Prop) : Prop := match o with
  | some x => isInn x = false ∧ Q
  | none => False
theorem wrQ_some {x : Option Sl} {Q : Prop} : wrQ (some x) Q ↔ isInn x = false ∧ Q := Iff.rfl
theorem wO_put {i : Nat} {s : Sl} {ev : Ev} {Q : Ev → Prop} : wpO (putS i s ev) Q ↔ wrQ ev[i]? (Q (ev.set i (some s))) := by
  unfold putS wrQ
  generalize ev[i]? = o
  cases o with
  | none => exact wpO_none
  | some o =>
    simp only
    rw [wpO_ite]
    cases isInn o
    · rw [if_neg (by decide), wpO_some]
      exact ⟨fun h => ⟨rfl, h⟩, fun h => h.2⟩
    · rw [if_pos rfl, wpO_none]
      exact ⟨fun h => h.elim, fun h => Bool.noConfusion h.1⟩
theorem wS_set {i : Nat} {m : ME} {ev : Ev} {Q : Fl → Ev → Prop} : wpS (mset i m) ev Q ↔ wpE m ev fun s ev1 => wrQ ev1[i]? (Q .nx (ev1.set i (some s))) := by
  unfold wpS wpE mset
  simp only [wpO_bind, wpO_map, wO_put]
theorem wS_asg {g : MG} {m : ME} {ev : Ev} {Q : Fl → Ev → Prop} : wpS (masg g m) ev Q ↔ wpE m ev fun s ev1 => wpO (g s.d ev1) fun ev2 => Q .nx ev2 := by
  unfold wpS wpE masg
  simp only [wpO_bind, wpO_map]
theorem wG_set {i : Nat} {d : D} {ev : Ev} {Q : Ev → Prop} : wpO (gset i d ev) Q ↔ wrQ ev[i]? (Q (ev.set i (some (.frz d)))) := wO_put
theorem wG_tup {n : Nat} {g : MGs} {ds : List D} {ev : Ev} {Q : Ev → Prop} : wpO (gtup n g (.tuple ds) ev) Q ↔ ds.length = n ∧ wpO (g ds ev) Q := by
  unfold gtup
  simp only [wpO_ite, wpO_none, ite_f]
theorem wG_cons {g : MG} {h : MGs} {d : D} {ds : List D} {ev : Ev} {Q : Ev → Prop} : wpO (gsCons g h (d :: ds) ev) Q ↔ wpO (g d ev) fun ev1 => wpO (h ds ev1) Q := by
  unfold gsCons
  simp only [wpO_bind]
theorem wG_nil {ev : Ev} {Q : Ev → Prop} : wpO (gsNil [] ev) Q ↔ Q ev := by simp [gsNil, wpO]
theorem wG_T2 {i j : Nat} {d e : D} {ev : Ev} {Q : Ev → Prop} : wpO (gT2 i j (.tuple [d, e]) ev) Q ↔ wpO (gset i d ev) fun ev1 => wpO (gset j e ev1) Q := by
  unfold gT2
  rw [wG_tup]
  simp only [wG_cons, wG_nil]
  exact ⟨fun h => h.2, fun h => ⟨rfl, h⟩⟩
theorem wS_sub {i : Nat} {mv mi : ME} {ev : Ev} {Q : Fl → Ev → Prop} (h : wpE mv ev fun v ev1 => rdS ev1[i]? fun _ => wpE mi ev1 fun t ev2 => rdM ev2[i]? fun s ds => ∃ j : Nat, t.d = .int j ∧ j < ds.length ∧ Q .nx (ev2.set i (some (s.put (ds.set j v.d))))) : wpS (msub i mv mi) ev Q := by
  unfold wpS msub
  refine wpO_bind.mpr (wpO_mono h fun r h => ?_)
  have h : rdS r.2[i]? fun _ => wpE mi r.2 fun t ev2 => rdM ev2[i]? fun s ds => ∃ j : Nat, t.d = .int j ∧ j < ds.length ∧ Q .nx (ev2.set i (some (s.put (ds.set j r.1.d)))) := h
  rcases e0 : r.2[i]? with _ | _ | s0
  · rw [e0] at h; exact h.elim
  · rw [e0] at h; exact h.elim
  · rw [e0] at h
    simp only [e0]
    refine wpO_bind.mpr (wpO_mono h fun q h => ?_)
    have go : ∀ (s : Sl) (ds : List D), s.cont = some ds → q.2[i]? = some (some s) → (∃ j : Nat, q.1.d = .int j ∧ j < ds.length ∧ Q .nx (q.2.set i (some (s.put (ds.set j r.1.d))))) → wpO (match q.2[i]?, q.1.d with
        | some (some s), .int j => (match s.cont with
          | some ds => (ixN ds.length j).map fun k => (Fl.nx, q.2.set i (some (s.put (ds.set k r.1.d))))
          | none => none)
        | _, _ => none) (fun r => Q r.1 r.2) := fun s ds hc e ⟨j, e1, hj, z⟩ => by
      rw [e, e1]
      simp only [hc]
      have e3 : ixN ds.length (j : Int) = some j := by unfold ixN; rw [if_pos (by omega), if_pos (by omega)]; simp
      rw [e3]
      exact ⟨_, rfl, z⟩
    have h : rdM q.2[i]? fun s ds => ∃ j : Nat, q.1.d = .int j ∧ j < ds.length ∧ Q .nx (q.2.set i (some (s.put (ds.set j r.1.d)))) := h
    rcases e1 : q.2[i]? with _ | _ | s1
    · rw [e1] at h; exact h.elim
    · rw [e1] at h; exact h.elim
    · rw [e1] at h
      cases s1 with
      | frz d => exact h.elim
      | own ds =>
        have := go _ ds rfl e1 h
        rw [e1] at this
        exact this
      | inn ds =>
        have := go _ ds rfl e1 h
        rw [e1] at this
        exact this
theorem wI_seq {m : ME} {ev : Ev} {Q : List D → Ev → Prop} : wpI (miSeq m) ev Q ↔ wpE m ev fun s ev1 => seqQ s.d fun ds => Q ds ev1 := by
  unfold wpI wpE miSeq
  rw [wpO_bind]
  refine ⟨fun h => wpO_mono h fun r h => ?_, fun h => wpO_mono h fun r h => ?_⟩
  · unfold seqQ
    split at h
    · rename_i e; rw [e]; exact (by first | exact wpO_inv h | (obtain ⟨_, e0, q0⟩ := h; cases e0; exact q0))
    · rename_i e; rw [e]; exact (by first | exact wpO_inv h | (obtain ⟨_, e0, q0⟩ := h; cases e0; exact q0))
    · exact (wpO_none.mp h).elim
  · have h : seqQ r.1.d fun ds => Q ds r.2 := h
    unfold seqQ at h
    split at h
    · rename_i e; try rw [e]
      exact ⟨_, rfl, h⟩
    · rename_i e; try rw [e]
      exact ⟨_, rfl, h⟩
    · exact h.elim
theorem wI_rng1 {m : MA} {ev : Ev} {Q : List D → Ev → Prop} : wpI (miRng1 m) ev Q ↔ wpA m ev fun as ev1 => ∃ j, ads as = some [.int j] ∧ (-(2 ^ 62) ≤ j ∧ j < 2 ^ 62) ∧ Q (intsD 0 j.toNat) ev1 := by
  unfold wpI wpA miRng1
  rw [wpO_bind]
  refine ⟨fun h => wpO_mono h fun r h => ?_, fun h => wpO_mono h fun r h => ?_⟩
  · split at h
    · rename_i j e
      rw [wpO_ite] at h
      split at h
      · rename_i hz; exact ⟨j, e, hz, (by first | exact wpO_inv h | (obtain ⟨_, e0, q0⟩ := h; cases e0; exact q0))⟩
      · exact (wpO_none.mp h).elim
    · exact (wpO_none.mp h).elim
  · obtain ⟨j, e, hz, q⟩ := h
    rw [e]
    show wpO (if _ then _ else _) _
    rw [if_pos hz]
    exact ⟨_, rfl, q⟩
theorem wI_rng2 {m : MA} {ev : Ev} {Q : List D → Ev → Prop} : wpI (miRng2 m) ev Q ↔ wpA m ev fun as ev1 => ∃ i j, ads as = some [.int i, .int j] ∧ (-(2 ^ 62) ≤ i ∧ i < 2 ^ 62 ∧ -(2 ^ 62) ≤ j ∧ j < 2 ^ 62) ∧ Q (intsD i (j - i).toNat) ev1 := by
  unfold wpI wpA miRng2
  rw [wpO_bind]
  refine ⟨fun h => wpO_mono h fun r h => ?_, fun h => wpO_mono h fun r h => ?_⟩
  · split at h
    · rename_i i j e
      rw [wpO_ite] at h
      split at h
      · rename_i hz; exact ⟨i, j, e, hz, (by first | exact wpO_inv h | (obtain ⟨_, e0, q0⟩ := h; cases e0; exact q0))⟩
      · exact (wpO_none.mp h).elim
    · exact (wpO_none.mp h).elim
  · obtain ⟨i, j, e, hz, q⟩ := h
    rw [e]
    show wpO (if _ then _ else _) _
    rw [if_pos hz]
    exact ⟨_, rfl, q⟩
def zipQ (o : Option (List D)) (Q : List D → Prop) : Prop := match o with
  | some [.list xs, .list ys] => Q (zipD xs ys)
  | some [.tuple xs, .tuple ys] => Q (zipD xs ys)
  | _ => False
theorem zipQ_l {xs ys : List D} {Q : List D → Prop} : zipQ (some [.list xs, .list ys]) Q ↔ Q (zipD xs ys) := Iff.rfl
theorem zipQ_t {xs ys : List D} {Q : List D → Prop} : zipQ (some [.tuple xs, .tuple ys]) Q ↔ Q (zipD xs ys) := Iff.rfl
theorem wI_zip {m : MA} {ev : Ev} {Q : List D → Ev → Prop} : wpI (miZip m) ev Q ↔ wpA m ev fun as ev1 => zipQ (ads as) fun ds => Q ds ev1 := by
  unfold wpI wpA miZip zipQ
  rw [wpO_bind]
  refine ⟨fun h => wpO_mono h fun r h => ?_, fun h => wpO_mono h fun r h => ?_⟩
  · split at h
    · rename_i e; rw [e]; exact (by first | exact wpO_inv h | (obtain ⟨_, e0, q0⟩ := h; cases e0; exact q0))
    · rename_i e; rw [e]; exact (by first | exact wpO_inv h | (obtain ⟨_, e0, q0⟩ := h; cases e0; exact q0))
    · exact (wpO_none.mp h).elim
  · have h : zipQ (ads r.1) fun ds => Q ds r.2 := h
    unfold zipQ at h
    split at h
    · rename_i e; try rw [e]
      exact ⟨_, rfl, h⟩
    · rename_i e; try rw [e]
      exact ⟨_, rfl, h⟩
    · exact h.elim
theorem wS_for {it : MI} {g : MG} {b : MS} {ev : Ev} {Q : Fl → Ev → Prop} : wpS (mfor it g b) ev Q ↔ wpI it ev fun ds ev1 => wpL g b ds ev1 Q := by
  unfold wpS wpI wpL mfor
  simp only [wpO_bind]
theorem wF_fn {n N : Nat} {b : MS} {args : List Sl} {Q : Sl → Ev → Prop} : wpF (mfn n N b) args Q ↔ wpS b (args.map some ++ List.replicate (N - n) none) fun fl ev' => match fl with
    | .nx => Q (.frz .none) (outsOf args ev')
    | .rt s => Q s (outsOf args ev')
    | _ => False := by
  unfold wpF wpS mfn
  rw [wpO_bind]
  refine ⟨fun h => wpO_mono h fun r h => ?_, fun h => wpO_mono h fun r h => ?_⟩
  · obtain ⟨f, e⟩ := r
    cases f <;> first | exact (by first | exact wpO_inv h | (obtain ⟨_, e0, q0⟩ := h; cases e0; exact q0)) | exact (wpO_none.mp h).elim
  · obtain ⟨f, e⟩ := r
    cases f <;> first | exact ⟨_, rfl, h⟩ | exact h.elim
theorem wS_drp {vs : List Nat} {b : MS} {ev : Ev} {Q : Fl → Ev → Prop} : wpS (mdrp vs b) ev Q ↔ wpS b ev fun fl ev' => Q fl (dropE vs ev') := by
  unfold wpS mdrp
  rw [wpO_map]
theorem wS_pre {vs : List Nat} {b : MS} {ev : Ev} {Q : Fl → Ev → Prop} : wpS (mpre vs b) ev Q ↔ wpS b (dropE vs ev) Q := Iff.rfl
theorem wL_nil {g : MG} {b : MS} {ev : Ev} {Q : Fl → Ev → Prop} : wpL g b [] ev Q ↔ Q .nx ev := by simp [wpL, mloop, wpO]
def turnS (g : MG) (b : MS) (ds : List D) (Q : Fl → Ev → Prop) : Fl → Ev → Prop
  | .nx, ev => wpL g b ds ev Q
  | .ct, ev => wpL g b ds ev Q
  | .bk, ev => Q .nx ev
  | .rt s, ev => Q (.rt s) ev
theorem wL_cons {g : MG} {b : MS} {d : D} {ds : List D} {ev : Ev} {Q : Fl → Ev → Prop} : wpL g b (d :: ds) ev Q ↔ wpO (g d ev) fun ev1 => wpS b ev1 (turnS g b ds Q) := by
  unfold wpL
  show wpO ((g d ev).bind fun ev1 => (b ev1).bind fun z => match z.1 with
    | .nx => mloop g b ds z.2
    | .ct => mloop g b ds z.2
    | .bk => some (.nx, z.2)
    | .rt s => some (.rt s, z.2)) _ ↔ _
  simp only [wpO_bind]
  unfold wpS
  refine ⟨fun h => wpO_mono h fun r h => wpO_mono h fun z h => ?_, fun h => wpO_mono h fun r h => wpO_mono h fun z h => ?_⟩
  · obtain ⟨f, e⟩ := z
    cases f <;> first | exact h | exact (by first | exact wpO_inv h | (obtain ⟨_, e0, q0⟩ := h; cases e0; exact q0))
  · obtain ⟨f, e⟩ := z
    cases f <;> first | exact h | exact ⟨_, rfl, h⟩
theorem wL_inv {g : MG} {b : MS} {ds : List D} {ev : Ev} {Q : Fl → Ev → Prop} (P : Nat → Ev → Prop) (h0 : P 0 ev)
    (step : ∀ (i : Nat) (d : D) (ev : Ev), ds[i]? = some d → P i ev → wpO (g d ev) fun ev1 => wpS b ev1 fun fl ev2 => match fl with
      | .nx => P (i + 1) ev2
      | .ct => P (i + 1) ev2
      | .bk => Q .nx ev2
      | .rt s => Q (.rt s) ev2)
    (done : ∀ ev, P ds.length ev → Q .nx ev) : wpL g b ds ev Q := by
  have go : ∀ (n i : Nat) (ev : Ev), ds.length - i = n → i ≤ ds.length → P i ev → wpL g b (ds.drop i) ev Q := by
    intro n
    induction n with
    | zero =>
      intro i ev hn hi hp
      have : i = ds.length := by omega
      subst this
      rw [List.drop_length]
      exact wL_nil.mpr (done ev hp)
    | succ n ih =>
      intro i ev hn hi hp
      have hlt : i < ds.length := by omega
      rw [List.drop_eq_getElem_cons hlt, wL_cons]
      refine wpO_mono (step i ds[i] ev (by simp [hlt]) hp) fun ev1 h => wpO_mono h fun z h => ?_
      obtain ⟨f, e⟩ := z
      cases f with
      | nx => exact ih (i + 1) e (by omega) hlt h
      | ct => exact ih (i + 1) e (by omega) hlt h
      | bk => exact h
      | rt s => exact h
  have := go ds.length 0 ev (by omega) (Nat.zero_le _) h0
  simpa using this
theorem wL_find {g : MG} {b : MS} {ds : List D} {ev : Ev} {Q : Fl → Ev → Prop} (p : Nat → Bool) (s : Sl) (P : Ev → Prop) (h0 : P ev)
    (step : ∀ (i : Nat) (d : D) (ev : Ev), ds[i]? = some d → P ev → wpO (g d ev) fun ev1 => wpS b ev1 fun fl ev2 => if p i = true then fl = .rt s else fl = .nx ∧ P ev2)
    (hit : ∀ ev i, i < ds.length → p i = true → Q (.rt s) ev) (none : ∀ ev, (∀ i, i < ds.length → p i = false) → P ev → Q .nx ev) : wpL g b ds ev Q := by
  refine wL_inv (fun i ev => P ev ∧ ∀ j, j < i → p j = false) ⟨h0, fun j hj => absurd hj (Nat.not_lt_zero j)⟩ (fun i d ev hd hP => ?_) (fun ev hP => none ev hP.2 hP.1)
  have hlt : i < ds.length := (List.getElem?_eq_some_iff.mp hd).1
  refine wpO_mono (step i d ev hd hP.1) fun ev1 h => wpO_mono h fun z h => ?_
  obtain ⟨f, e⟩ := z
  cases hp : p i with
  | true =>
    rw [hp] at h
    simp only [if_true] at h
    subst h
    exact hit e i hlt hp
  | false =>
    rw [hp] at h
    simp only [Bool.false_eq_true, if_false] at h
    obtain ⟨h1, h2⟩ := h
    subst h1
    exact ⟨h2, fun j hj => by
      rcases Nat.lt_succ_iff_lt_or_eq.mp hj with h | h
      · exact hP.2 j h
      · rw [h]; exact hp⟩
theorem wC_inv {g : MG} {t : MT} {m : ME} {vs : List Nat} {ds : List D} {ev : Ev} {acc : List D} {Q : List D → Ev → Prop} (P : Nat → List D → Ev → Prop) (h0 : P 0 acc ev)
    (step : ∀ (i : Nat) (d : D) (acc : List D) (ev : Ev), ds[i]? = some d → P i acc ev → wpO (g d ev) fun ev1 => wpT t ev1 fun b ev2 => if b = true then wpE m ev2 fun s ev3 => acc.length < sizeLine ∧ P (i + 1) (acc ++ [s.d]) (wipeE ev3 vs) else P (i + 1) acc (wipeE ev2 vs))
    (done : ∀ acc ev, P ds.length acc ev → Q acc ev) : wpC g t m vs ds ev acc Q := by
  have go : ∀ (n i : Nat) (acc : List D) (ev : Ev), ds.length - i = n → i ≤ ds.length → P i acc ev → wpC g t m vs (ds.drop i) ev acc Q := by
    intro n
    induction n with
    | zero =>
      intro i acc ev hn hi hp
      have : i = ds.length := by omega
      subst this
      rw [List.drop_length]
      exact ⟨_, rfl, done acc ev hp⟩
    | succ n ih =>
      intro i acc ev hn hi hp
      have hlt : i < ds.length := by omega
      rw [List.drop_eq_getElem_cons hlt]
      unfold wpC
      show wpO ((g ds[i] ev).bind fun ev1 => (t ev1).bind fun r => if r.1 = true then ((m r.2).bind fun z => if acc.length < sizeLine then mcloop g t m vs (ds.drop (i + 1)) (wipeE z.2 vs) (acc ++ [z.1.d]) else none) else mcloop g t m vs (ds.drop (i + 1)) (wipeE r.2 vs) acc) _
      rw [wpO_bind]
      refine wpO_mono (step i ds[i] acc ev (by simp [hlt]) hp) fun ev1 h => ?_
      rw [wpO_bind]
      refine wpO_mono h fun r h => ?_
      obtain ⟨b, ev2⟩ := r
      cases b with
      | false =>
        simp only [Bool.false_eq_true, if_false] at h ⊢
        exact ih (i + 1) acc _ (by omega) hlt h
      | true =>
        simp only [if_true] at h ⊢
        rw [wpO_bind]
        refine wpO_mono h fun z h => ?_
        rw [if_pos h.1]
        exact ih (i + 1) _ _ (by omega) hlt h.2
  have := go ds.length 0 acc ev (by omega) (Nat.zero_le _) h0
  simpa using this
theorem wC_pure {g : MG} {t : MT} {m : ME} {vs : List Nat} {ds : List D} {ev : Ev} {Q : List D → Ev → Prop} (p : D → Bool) (f : D → D) (hz : ds.length ≤ sizeLine)
    (step : ∀ (i : Nat) (d : D), ds[i]? = some d → wpO (g d ev) fun ev1 => wpT t ev1 fun b ev2 => b = p d ∧ if b = true then wpE m ev2 fun s ev3 => s.d = f d ∧ wipeE ev3 vs = ev else wipeE ev2 vs = ev)
    (done : Q ((ds.filter p).map f) ev) : wpC g t m vs ds ev [] Q := by
  refine wC_inv (fun i acc e => acc = ((ds.take i).filter p).map f ∧ e = ev) ⟨by simp, rfl⟩ (fun i d acc e hd hP => ?_) (fun acc e hP => ?_)
  · obtain ⟨rfl, rfl⟩ := hP
    have hlt : i < ds.length := (List.getElem?_eq_some_iff.mp hd).1
    have htk : ds.take (i + 1) = ds.take i ++ [d] := by rw [List.take_add_one, hd]; rfl
    refine wpO_mono (step i d hd) fun ev1 h => wpO_mono h fun r h => ?_
    obtain ⟨b, ev2⟩ := r
    obtain ⟨hb, h⟩ := h
    simp only at hb
    cases b with
    | false =>
      simp only [Bool.false_eq_true, if_false] at h ⊢
      refine ⟨?_, h⟩
      rw [htk, List.filter_append, List.filter_cons, ← hb]
      simp
    | true =>
      simp only [if_true] at h ⊢
      refine wpO_mono h fun z h => ?_
      refine ⟨?_, ?_, h.2⟩
      · rw [List.length_map]
        have := List.length_filter_le p (ds.take i)
        rw [List.length_take] at this
        omega
      · rw [htk, List.filter_append, List.filter_cons, ← hb, h.1]
        simp
  · obtain ⟨rfl, rfl⟩ := hP
    rw [List.take_length]
    exact done
theorem wS_while {t : MT} {b : MS} {ev : Ev} {Q : Fl → Ev → Prop} (P : Nat → Ev → Prop) (n : Nat) (h0 : P n ev)
    (step : ∀ (n : Nat) (ev : Ev), P n ev → wpT t ev fun c ev1 => if c = true then wpS b ev1 fun fl ev2 => match fl with
      | .nx => ∃ m, m < n ∧ P m ev2
      | .ct => ∃ m, m < n ∧ P m ev2
      | .bk => Q .nx ev2
      | .rt s => Q (.rt s) ev2 else Q .nx ev1) : wpS (mwhile t b) ev Q := by
  have go : ∀ (n : Nat) (ev : Ev), P n ev → ∃ k, wpO (mwN t b k ev) fun r => Q r.1 r.2 := by
    intro n
    induction n using Nat.strongRecOn with
    | _ n ih =>
      intro ev hp
      obtain ⟨⟨c, ev1⟩, e1, h⟩ := step n ev hp
      cases c with
      | false =>
        simp only [Bool.false_eq_true, if_false] at h
        refine ⟨1, ?_⟩
        show wpO ((t ev).bind _) _
        rw [e1]
        exact ⟨_, rfl, h⟩
      | true =>
        simp only [if_true] at h
        obtain ⟨⟨f, ev2⟩, e2, h⟩ := h
        have fin : ∀ k, wpO (mwN t b k ev2) (fun r => Q r.1 r.2) → (f = .nx ∨ f = .ct) → ∃ k, wpO (mwN t b k ev) fun r => Q r.1 r.2 := fun k hk hf => by
          refine ⟨k + 1, ?_⟩
          show wpO ((t ev).bind fun r => if r.1 = true then ((b r.2).bind fun z => match z.1 with
            | .nx => mwN t b k z.2
            | .ct => mwN t b k z.2
            | .bk => some (.nx, z.2)
            | .rt s => some (.rt s, z.2)) else some (.nx, r.2)) _
          rw [e1]
          simp only [Option.bind_some, if_true, e2]
          rcases hf with rfl | rfl <;> exact hk
        have leave : ∀ r, Q r ev2 → (f = .bk ∧ r = .nx ∨ ∃ s, f = .rt s ∧ r = .rt s) → ∃ k, wpO (mwN t b k ev) fun r => Q r.1 r.2 := fun r hr hf => by
          refine ⟨1, ?_⟩
          show wpO ((t ev).bind fun r => if r.1 = true then ((b r.2).bind fun z => match z.1 with
            | .nx => mwN t b 0 z.2
            | .ct => mwN t b 0 z.2
            | .bk => some (.nx, z.2)
            | .rt s => some (.rt s, z.2)) else some (.nx, r.2)) _
          rw [e1]
          simp only [Option.bind_some, if_true, e2]
          rcases hf with ⟨rfl, rfl⟩ | ⟨s, rfl, rfl⟩ <;> exact ⟨_, rfl, hr⟩
        cases f with
        | nx =>
          obtain ⟨m, hm, hp⟩ := h
          obtain ⟨k, hk⟩ := ih m hm ev2 hp
          exact fin k hk (.inl rfl)
        | ct =>
          obtain ⟨m, hm, hp⟩ := h
          obtain ⟨k, hk⟩ := ih m hm ev2 hp
          exact fin k hk (.inr rfl)
        | bk => exact leave .nx h (.inl ⟨rfl, rfl⟩)
        | rt s => exact leave (.rt s) h (.inr ⟨s, rfl, rfl⟩)
  obtain ⟨k, r, e, q⟩ := go n ev h0
  exact ⟨r, mwhile_of e, q⟩
theorem kb_NoneType_bool : kitB "NoneType" "bool" = some false := by decide +kernel
theorem kb_bool_bool : kitB "bool" "bool" = some true := by decide +kernel
theorem kb_int_bool : kitB "int" "bool" = some false := by decide +kernel
theorem kb_str_bool : kitB "str" "bool" = some false := by decide +kernel
theorem kb_list_bool : kitB "list" "bool" = some false := by decide +kernel
theorem kb_tuple_bool : kitB "tuple" "bool" = some false := by decide +kernel
theorem kb_dict_bool : kitB "dict" "bool" = some false := by decide +kernel
def is_bool : D → Bool
  | .bool _ => true
  | _ => false
theorem isa_bool (d : D) : isaD "bool" d = some (.frz (.bool (is_bool d))) := by
  unfold isaD
  cases d
  · show (kitB "NoneType" "bool").map _ = _
    rw [kb_NoneType_bool] <;> rfl
  · show (kitB "bool" "bool").map _ = _
    rw [kb_bool_bool] <;> rfl
  · show (kitB "int" "bool").map _ = _
    rw [kb_int_bool] <;> rfl
  · show (kitB "str" "bool").map _ = _
    rw [kb_str_bool] <;> rfl
  · show (kitB "list" "bool").map _ = _
    rw [kb_list_bool] <;> rfl
  · show (kitB "tuple" "bool").map _ = _
    rw [kb_tuple_bool] <;> rfl
  · show (kitB "dict" "bool").map _ = _
    rw [kb_dict_bool] <;> rfl
theorem kb_NoneType_int : kitB "NoneType" "int" = some false := by decide +kernel
theorem kb_bool_int : kitB "bool" "int" = some true := by decide +kernel
theorem kb_int_int : kitB "int" "int" = some true := by decide +kernel
theorem kb_str_int : kitB "str" "int" = some false := by decide +kernel
theorem kb_list_int : kitB "list" "int" = some false := by decide +kernel
theorem kb_tuple_int : kitB "tuple" "int" = some false := by decide +kernel
theorem kb_dict_int : kitB "dict" "int" = some false := by decide +kernel
def is_int : D → Bool
  | .bool _ => true
  | .int _ => true
  | _ => false
theorem isa_int (d : D) : isaD "int" d = some (.frz (.bool (is_int d))) := by
  unfold isaD
  cases d
  · show (kitB "NoneType" "int").map _ = _
    rw [kb_NoneType_int] <;> rfl
  · show (kitB "bool" "int").map _ = _
    rw [kb_bool_int] <;> rfl
  · show (kitB "int" "int").map _ = _
    rw [kb_int_int] <;> rfl
  · show (kitB "str" "int").map _ = _
    rw [kb_str_int] <;> rfl
  · show (kitB "list" "int").map _ = _
    rw [kb_list_int] <;> rfl
  · show (kitB "tuple" "int").map _ = _
    rw [kb_tuple_int] <;> rfl
  · show (kitB "dict" "int").map _ = _
    rw [kb_dict_int] <;> rfl
theorem kb_NoneType_str : kitB "NoneType" "str" = some false := by decide +kernel
theorem kb_bool_str : kitB "bool" "str" = some false := by decide +kernel
theorem kb_int_str : kitB "int" "str" = some false := by decide +kernel
theorem kb_str_str : kitB "str" "str" = some true := by decide +kernel
theorem kb_list_str : kitB "list" "str" = some false := by decide +kernel
theorem kb_tuple_str : kitB "tuple" "str" = some false := by decide +kernel
theorem kb_dict_str : kitB "dict" "str" = some false := by decide +kernel
def is_str : D → Bool
  | .str _ => true
  | _ => false
theorem isa_str (d : D) : isaD "str" d = some (.frz (.bool (is_str d))) := by
  unfold isaD
  cases d
  · show (kitB "NoneType" "str").map _ = _
    rw [kb_NoneType_str] <;> rfl
  · show (kitB "bool" "str").map _ = _
    rw [kb_bool_str] <;> rfl
  · show (kitB "int" "str").map _ = _
    rw [kb_int_str] <;> rfl
  · show (kitB "str" "str").map _ = _
    rw [kb_str_str] <;> rfl
  · show (kitB "list" "str").map _ = _
    rw [kb_list_str] <;> rfl
  · show (kitB "tuple" "str").map _ = _
    rw [kb_tuple_str] <;> rfl
  · show (kitB "dict" "str").map _ = _
    rw [kb_dict_str] <;> rfl
theorem kb_NoneType_list : kitB "NoneType" "list" = some false := by decide +kernel
theorem kb_bool_list : kitB "bool" "list" = some false := by decide +kernel
theorem kb_int_list : kitB "int" "list" = some false := by decide +kernel
theorem kb_str_list : kitB "str" "list" = some false := by decide +kernel
theorem kb_list_list : kitB "list" "list" = some true := by decide +kernel
theorem kb_tuple_list : kitB "tuple" "list" = some false := by decide +kernel
theorem kb_dict_list : kitB "dict" "list" = some false := by decide +kernel
def is_list : D → Bool
  | .list _ => true
  | _ => false
theorem isa_list (d : D) : isaD "list" d = some (.frz (.bool (is_list d))) := by
  unfold isaD
  cases d
  · show (kitB "NoneType" "list").map _ = _
    rw [kb_NoneType_list] <;> rfl
  · show (kitB "bool" "list").map _ = _
    rw [kb_bool_list] <;> rfl
  · show (kitB "int" "list").map _ = _
    rw [kb_int_list] <;> rfl
  · show (kitB "str" "list").map _ = _
    rw [kb_str_list] <;> rfl
  · show (kitB "list" "list").map _ = _
    rw [kb_list_list] <;> rfl
  · show (kitB "tuple" "list").map _ = _
    rw [kb_tuple_list] <;> rfl
  · show (kitB "dict" "list").map _ = _
    rw [kb_dict_list] <;> rfl
theorem kb_NoneType_tuple : kitB "NoneType" "tuple" = some false := by decide +kernel
theorem kb_bool_tuple : kitB "bool" "tuple" = some false := by decide +kernel
theorem kb_int_tuple : kitB "int" "tuple" = some false := by decide +kernel
theorem kb_str_tuple : kitB "str" "tuple" = some false := by decide +kernel
theorem kb_list_tuple : kitB "list" "tuple" = some false := by decide +kernel
theorem kb_tuple_tuple : kitB "tuple" "tuple" = some true := by decide +kernel
theorem kb_dict_tuple : kitB "dict" "tuple" = some false := by decide +kernel
def is_tuple : D → Bool
  | .tuple _ => true
  | _ => false
theorem isa_tuple (d : D) : isaD "tuple" d = some (.frz (.bool (is_tuple d))) := by
  unfold isaD
  cases d
  · show (kitB "NoneType" "tuple").map _ = _
    rw [kb_NoneType_tuple] <;> rfl
  · show (kitB "bool" "tuple").map _ = _
    rw [kb_bool_tuple] <;> rfl
  · show (kitB "int" "tuple").map _ = _
    rw [kb_int_tuple] <;> rfl
  · show (kitB "str" "tuple").map _ = _
    rw [kb_str_tuple] <;> rfl
  · show (kitB "list" "tuple").map _ = _
    rw [kb_list_tuple] <;> rfl
  · show (kitB "tuple" "tuple").map _ = _
    rw [kb_tuple_tuple] <;> rfl
  · show (kitB "dict" "tuple").map _ = _
    rw [kb_dict_tuple] <;> rfl
theorem o_add_int {i j : Int} : addD (.int i) (.int j) = some (.frz (.int (i + j))) := rfl
theorem o_add_list {a b : List D} : addD (.list a) (.list b) = if a.length + b.length ≤ sizeLine then some (.own (a ++ b)) else none := rfl
theorem o_add_tup {a b : List D} : addD (.tuple a) (.tuple b) = if a.length + b.length ≤ sizeLine then some (.frz (.tuple (a ++ b))) else none := rfl
theorem o_add_str {a b : Str} : addD (.str a) (.str b) = if a.length + b.length ≤ sizeLine then some (.frz (.str (a ++ b))) else none := rfl
theorem o_sub {i j : Int} : subD (.int i) (.int j) = some (.frz (.int (i - j))) := rfl
theorem o_mul_int {i j : Int} : mulD (.int i) (.int j) = if i.natAbs.log2 + j.natAbs.log2 < 1000000 then some (.frz (.int (i * j))) else none := rfl
theorem o_mul_str {x : Str} {k : Int} : mulD (.str x) (.int k) = if 0 ≤ k ∧ k < 1000 ∧ x.length ≤ 1000 then some (.frz (.str (repStr x k.toNat))) else none := rfl
theorem o_mul_tup {xs : List D} {k : Int} : mulD (.tuple xs) (.int k) = if xs.isEmpty = false ∧ 2 ≤ k ∧ k ≤ 1000 ∧ xs.length ≤ 1000 then some (.frz (.tuple (List.replicate k.toNat xs).flatten)) else none := rfl
theorem o_fdiv {i j : Int} : fdivD (.int i) (.int j) = if 0 < j ∧ j.natAbs.log2 < 9000 then some (.frz (.int (i / j))) else none := rfl
theorem o_mod {i j : Int} : modD (.int i) (.int j) = if 0 < j then some (.frz (.int (i % j))) else none := rfl
theorem o_pow {i j : Int} : powD (.int i) (.int j) = if 0 ≤ j ∧ j ≤ 1000000 ∧ i.natAbs < 2 ^ 64 then some (.frz (.int (i ^ j.toNat))) else none := rfl
theorem o_eq_int {i j : Int} : eqSl (.int i) (.int j) = some (.frz (.bool (decide (i = j)))) := rfl
theorem o_eq_str {i j : Str} : eqSl (.str i) (.str j) = some (.frz (.bool (decide (i = j)))) := rfl
theorem o_eq_bool {i j : Bool} : eqSl (.bool i) (.bool j) = some (.frz (.bool (decide (i = j)))) := rfl
theorem o_ne_int {i j : Int} : neSl (.int i) (.int j) = some (.frz (.bool (!decide (i = j)))) := rfl
theorem o_ne_str {i j : Str} : neSl (.str i) (.str j) = some (.frz (.bool (!decide (i = j)))) := rfl
theorem o_lt {i j : Int} : ltD (.int i) (.int j) = some (.frz (.bool (decide (i < j)))) := rfl
theorem o_le {i j : Int} : leD (.int i) (.int j) = some (.frz (.bool (decide (i ≤ j)))) := rfl
theorem o_gt {i j : Int} : gtD (.int i) (.int j) = some (.frz (.bool (decide (j < i)))) := rfl
theorem o_ge {i j : Int} : geD (.int i) (.int j) = some (.frz (.bool (decide (j ≤ i)))) := rfl
theorem o_isN {d : D} : isND d .none = some (.frz (.bool (isNoneD d))) := rfl
theorem o_isntN {d : D} : isntND d .none = some (.frz (.bool (!isNoneD d))) := rfl
theorem o_none1 {i : Int} : isNoneD (.int i) = false := rfl
theorem o_none2 : isNoneD .none = true := rfl
theorem o_none3 {ds : List D} : isNoneD (.tuple ds) = false := rfl
theorem o_none4 {ds : List D} : isNoneD (.list ds) = false := rfl
theorem o_len_l {ds : List D} : lenD [.list ds] = some (.frz (.int ds.length)) := rfl
theorem o_len_t {ds : List D} : lenD [.tuple ds] = some (.frz (.int ds.length)) := rfl
theorem o_max2 {i j : Int} : maxD [.int i, .int j] = some (.frz (.int (max i j))) := rfl
theorem o_min2 {i j : Int} : minD [.int i, .int j] = some (.frz (.int (min i j))) := rfl
theorem o_int_i {i : Int} : intD [.int i] = some (.frz (.int i)) := rfl
theorem o_int_b {b : Bool} : intD [.bool b] = some (.frz (.int (if b then 1 else 0))) := rfl
theorem o_tup_l {ds : List D} : tupD [.list ds] = some (.frz (.tuple ds)) := rfl
theorem o_tup_t {ds : List D} : tupD [.tuple ds] = some (.frz (.tuple ds)) := rfl
theorem o_lst_l {ds : List D} : lstD [.list ds] = some (.own ds) := rfl
theorem o_lst_t {ds : List D} : lstD [.tuple ds] = some (.own ds) := rfl
theorem o_sl_l {ds : List D} {lo hi : Option Int} : sliceD (.list ds) lo hi = some (.own (cutD ds lo hi)) := rfl
theorem o_sl_t {ds : List D} {lo hi : Option Int} : sliceD (.tuple ds) lo hi = some (.frz (.tuple (cutD ds lo hi))) := rfl
theorem o_item (d e : D) : itemSl d e = (itemD d e).map fun x => .frz x := rfl
theorem o_item_l {ds : List D} {i : Int} : itemD (.list ds) (.int i) = atI ds i := rfl
theorem o_item_t {ds : List D} {i : Int} : itemD (.tuple ds) (.int i) = atI ds i := rfl
theorem atI_n {α : Type} {xs : List α} {n : Nat} : atI xs (n : Int) = xs[n]? := by
  unfold atI ixN
  by_cases h : n < xs.length
  · rw [if_pos (by omega), if_pos (by omega)]
    simp
  · rw [if_pos (by omega), if_neg (by omega), List.getElem?_eq_none (by omega)]
    rfl
theorem atI_0 {α : Type} {xs : List α} : atI xs 0 = xs[0]? := atI_n (n := 0)
theorem atI_1 {α : Type} {xs : List α} : atI xs 1 = xs[1]? := atI_n (n := 1)
theorem atI_2 {α : Type} {xs : List α} : atI xs 2 = xs[2]? := atI_n (n := 2)
theorem atI_3 {α : Type} {xs : List α} : atI xs 3 = xs[3]? := atI_n (n := 3)
theorem atI_4 {α : Type} {xs : List α} : atI xs 4 = xs[4]? := atI_n (n := 4)
theorem atI_5 {α : Type} {xs : List α} : atI xs 5 = xs[5]? := atI_n (n := 5)
theorem atI_m1 {α : Type} {xs : List α} : atI xs (-1) = xs[xs.length - 1]? := by
  unfold atI ixN
  by_cases h : xs.length = 0
  · have : xs = [] := List.eq_nil_of_length_eq_zero h
    subst this
    rfl
  · rw [if_neg (by omega), if_pos (by omega)]
    show xs[((-1 : Int) + (xs.length : Int)).toNat]? = _
    congr 1
    omega
theorem atI_m2 {α : Type} {xs : List α} (h : 2 ≤ xs.length) : atI xs (-2) = xs[xs.length - 2]? := by
  unfold atI ixN
  rw [if_neg (by omega), if_pos (by omega)]
  show xs[((-2 : Int) + (xs.length : Int)).toNat]? = _
  congr 1
  omega
theorem intsOf_map (ns : List Int) : intsOf (ns.map PyData.int) = some ns := by
  induction ns with
  | nil => rfl
  | cons n ns ih =>
    show ((intsOf (ns.map PyData.int)).map fun z => n :: z) = _
    rw [ih]
    rfl
theorem o_sum {ns : List Int} : sumD [.list (ns.map PyData.int)] = some (.frz (.int ns.sum)) := by
  show ((intsOf (ns.map PyData.int)).map _) = _
  rw [intsOf_map]
  rfl
theorem o_max {ns : List Int} (h : ns ≠ []) : maxD [.list (ns.map PyData.int)] = some (.frz (.int (maxI ns))) := by
  cases ns with
  | nil => exact absurd rfl h
  | cons n ns =>
    show ((intsOf ((n :: ns).map PyData.int)).bind _) = _
    rw [intsOf_map]
    rfl
theorem o_min {ns : List Int} (h : ns ≠ []) : minD [.list (ns.map PyData.int)] = some (.frz (.int (minI ns))) := by
  cases ns with
  | nil => exact absurd rfl h
  | cons n ns =>
    show ((intsOf ((n :: ns).map PyData.int)).bind _) = _
    rw [intsOf_map]
    rfl
theorem blsOf_map (ns : List Bool) : blsOf (ns.map PyData.bool) = some ns := by
  induction ns with
  | nil => rfl
  | cons n ns ih =>
    show ((blsOf (ns.map PyData.bool)).map fun z => n :: z) = _
    rw [ih]
    rfl
theorem o_all {ns : List Bool} : allD [.list (ns.map PyData.bool)] = some (.frz (.bool (ns.all id))) := by
  show ((blsOf (ns.map PyData.bool)).map _) = _
  rw [blsOf_map]
  rfl
theorem o_any {ns : List Bool} : anyD [.list (ns.map PyData.bool)] = some (.frz (.bool (ns.any id))) := by
  show ((blsOf (ns.map PyData.bool)).map _) = _
  rw [blsOf_map]
  rfl
theorem intsD_at {lo : Int} {n i : Nat} {d : D} (h : (intsD lo n)[i]? = some d) : i < n ∧ d = .int (lo + i) := by
  have hi : i < n := by
    have := (List.getElem?_eq_some_iff.mp h).1
    rw [intsD_len] at this
    exact this
  rw [intsD_get n lo i hi] at h
  cases h
  exact ⟨hi, rfl⟩
theorem outsOf_f {d : D} {as : List Sl} {ev : Ev} : outsOf (.frz d :: as) ev = none :: outsOf as ev.tail := by cases ev <;> simp [outsOf]
theorem outsOf_n {ev : Ev} : outsOf [] ev = [] := by cases ev <;> simp [outsOf]
theorem size_big : (16000000 : Nat) ≤ sizeLine := by rw [sizeLine_eq]; decide
theorem wpF_mono {f : Fn} {args : List Sl} {Q Q' : Sl → Ev → Prop} (h : wpF f args Q) (w : ∀ s ev, Q s ev → Q' s ev) : wpF f args Q' := wpO_mono h fun r q => w r.1 r.2 q
theorem wpE_mono {m : ME} {ev : Ev} {Q Q' : Sl → Ev → Prop} (h : wpE m ev Q) (w : ∀ s ev, Q s ev → Q' s ev) : wpE m ev Q' := wpO_mono h fun r q => w r.1 r.2 q
theorem wpS_mono {m : MS} {ev : Ev} {Q Q' : Fl → Ev → Prop} (h : wpS m ev Q) (w : ∀ s ev, Q s ev → Q' s ev) : wpS m ev Q' := wpO_mono h fun r q => w r.1 r.2 q
end MM
end
section
set_option Elab.async false
set_option linter.all false
set_option maxRecDepth 100000
set_option maxHeartbeats 4000000
namespace MM
open PySem PySem.Spec L2
def kR (ev : Ev) (Q : Sl → Ev → Prop) : Sl → Prop := fun r => Q r ev
theorem e_kR {ev : Ev} {Q : Sl → Ev → Prop} {r : Sl} : kR ev Q r ↔ Q r ev := by rfl
def kF (ev : Ev) (Q : Sl → Ev → Prop) : D → Prop := fun r => Q (.frz r) ev
theorem e_kF {ev : Ev} {Q : Sl → Ev → Prop} {r : D} : kF ev Q r ↔ Q (.frz r) ev := by rfl
def kVf (ev : Ev) (Q : Sl → Ev → Prop) : D → Prop := fun d => Q (.frz d) ev
theorem e_kVf {ev : Ev} {Q : Sl → Ev → Prop} {d : D} : kVf ev Q d ↔ Q (.frz d) ev := by rfl
def kVo (i : Nat) (ev : Ev) (Q : Sl → Ev → Prop) : List D → Prop := fun ds => Q (.frz (.list ds)) (ev.set i (some (.frz (.list ds))))
theorem e_kVo {i : Nat} {ev : Ev} {Q : Sl → Ev → Prop} {ds : List D} : kVo i ev Q ds ↔ Q (.frz (.list ds)) (ev.set i (some (.frz (.list ds)))) := by rfl
def kMo (i : Nat) (ev : Ev) (Q : Sl → Ev → Prop) : List D → Prop := fun ds => Q (.own ds) (ev.set i none)
theorem e_kMo {i : Nat} {ev : Ev} {Q : Sl → Ev → Prop} {ds : List D} : kMo i ev Q ds ↔ Q (.own ds) (ev.set i none) := by rfl
theorem q_var {i : Nat} {ev : Ev} {Q : Sl → Ev → Prop} : wpE (mvar i) ev Q ↔ rdV ev[i]? (kVf ev Q) (kVo i ev Q) := wE_var
theorem q_move {i : Nat} {ev : Ev} {Q : Sl → Ev → Prop} : wpE (mmove i) ev Q ↔ rdV ev[i]? (kVf ev Q) (kMo i ev Q) := wE_move
def kB2 (f : D → D → Option Sl) (s : Sl) (Q : Sl → Ev → Prop) : Sl → Ev → Prop := fun t ev => wpO (f s.d t.d) (kR ev Q)
theorem e_kB2 {f : D → D → Option Sl} {s : Sl} {Q : Sl → Ev → Prop} {t : Sl} {ev : Ev} : kB2 f s Q t ev ↔ wpO (f s.d t.d) (kR ev Q) := by rfl
def kB1 (f : D → D → Option Sl) (b : ME) (Q : Sl → Ev → Prop) : Sl → Ev → Prop := fun s ev => wpE b ev (kB2 f s Q)
theorem e_kB1 {f : D → D → Option Sl} {b : ME} {Q : Sl → Ev → Prop} {s : Sl} {ev : Ev} : kB1 f b Q s ev ↔ wpE b ev (kB2 f s Q) := by rfl
theorem q_bin {f : D → D → Option Sl} {a b : ME} {ev : Ev} {Q : Sl → Ev → Prop} : wpE (mbin f a b) ev Q ↔ wpE a ev (kB1 f b Q) := wE_bin
theorem q_bm {f : D → D → Option Sl} {a b : ME} {ev : Ev} {Q : Sl → Ev → Prop} : wpE (mbm f a b) ev Q ↔ wpE a ev (kB1 f b Q) := wE_bm
def kNeg (Q : Sl → Ev → Prop) : Sl → Ev → Prop := fun s ev => ∃ i, s.d = .int i ∧ Q (.frz (.int (-i))) ev
theorem e_kNeg {Q : Sl → Ev → Prop} {i : Int} {ev : Ev} : kNeg Q (.frz (.int i)) ev ↔ Q (.frz (.int (-i))) ev := by simp [kNeg, Sl.d]
theorem q_neg {a : ME} {ev : Ev} {Q : Sl → Ev → Prop} : wpE (mneg a) ev Q ↔ wpE a ev (kNeg Q) := wE_neg
def kNotV (Q : Sl → Ev → Prop) : Sl → Ev → Prop := fun s ev => ∃ i, s.d = .bool i ∧ Q (.frz (.bool (!i))) ev
theorem e_kNotV {Q : Sl → Ev → Prop} {i : Bool} {ev : Ev} : kNotV Q (.frz (.bool i)) ev ↔ Q (.frz (.bool (!i))) ev := by simp [kNotV, Sl.d]
theorem q_notV {a : ME} {ev : Ev} {Q : Sl → Ev → Prop} : wpE (mnotV a) ev Q ↔ wpE a ev (kNotV Q) := wE_notV
def kAndV (b : ME) (Q : Sl → Ev → Prop) : Sl → Ev → Prop := fun s ev => ∃ i, s.d = .bool i ∧ if i = true then wpE b ev Q else Q (.frz (.bool false)) ev
theorem e_kAndV {b : ME} {Q : Sl → Ev → Prop} {i : Bool} {ev : Ev} : kAndV b Q (.frz (.bool i)) ev ↔ if i = true then wpE b ev Q else Q (.frz (.bool false)) ev := by simp [kAndV, Sl.d]
theorem q_andV {a b : ME} {ev : Ev} {Q : Sl → Ev → Prop} : wpE (mandV a b) ev Q ↔ wpE a ev (kAndV b Q) := wE_andV
def kOrV (b : ME) (Q : Sl → Ev → Prop) : Sl → Ev → Prop := fun s ev => ∃ i, s.d = .bool i ∧ if i = true then Q (.frz (.bool true)) ev else wpE b ev Q
theorem e_kOrV {b : ME} {Q : Sl → Ev → Prop} {i : Bool} {ev : Ev} : kOrV b Q (.frz (.bool i)) ev ↔ if i = true then Q (.frz (.bool true)) ev else wpE b ev Q := by simp [kOrV, Sl.d]
theorem q_orV {a b : ME} {ev : Ev} {Q : Sl → Ev → Prop} : wpE (morV a b) ev Q ↔ wpE a ev (kOrV b Q) := wE_orV
def kIf (a b : ME) (Q : Sl → Ev → Prop) : Bool → Ev → Prop := fun c ev => if c = true then wpE a ev Q else wpE b ev Q
theorem e_kIf {a b : ME} {Q : Sl → Ev → Prop} {c : Bool} {ev : Ev} : kIf a b Q c ev ↔ if c = true then wpE a ev Q else wpE b ev Q := by rfl
theorem q_if {t : MT} {a b : ME} {ev : Ev} {Q : Sl → Ev → Prop} : wpE (mif t a b) ev Q ↔ wpT t ev (kIf a b Q) := wE_if
def kIsi (T : String) (Q : Sl → Ev → Prop) : Sl → Ev → Prop := fun s ev => wpO (isaD T s.d) (kR ev Q)
theorem e_kIsi {T : String} {Q : Sl → Ev → Prop} {s : Sl} {ev : Ev} : kIsi T Q s ev ↔ wpO (isaD T s.d) (kR ev Q) := by rfl
theorem q_isi {T : String} {a : ME} {ev : Ev} {Q : Sl → Ev → Prop} : wpE (misi T a) ev Q ↔ wpE a ev (kIsi T Q) := wE_isi
def kIx3 (t : Sl) (ev : Ev) (Q : Sl → Ev → Prop) : D → Prop := fun d => wpO (itemD d t.d) (kF ev Q)
theorem e_kIx3 {t : Sl} {ev : Ev} {Q : Sl → Ev → Prop} {d : D} : kIx3 t ev Q d ↔ wpO (itemD d t.d) (kF ev Q) := by rfl
def kIx2 (i : Nat) (Q : Sl → Ev → Prop) : Sl → Ev → Prop := fun t ev => rdA ev[i]? (kIx3 t ev Q)
theorem e_kIx2 {i : Nat} {Q : Sl → Ev → Prop} {t : Sl} {ev : Ev} : kIx2 i Q t ev ↔ rdA ev[i]? (kIx3 t ev Q) := by rfl
def kIx1 (i : Nat) (m : ME) (ev : Ev) (Q : Sl → Ev → Prop) : Sl → Prop := fun x => wpE m ev (kIx2 i Q)
theorem e_kIx1 {i : Nat} {m : ME} {ev : Ev} {Q : Sl → Ev → Prop} {x : Sl} : kIx1 i m ev Q x ↔ wpE m ev (kIx2 i Q) := by rfl
theorem q_ixN {i : Nat} {m : ME} {ev : Ev} {Q : Sl → Ev → Prop} : wpE (mixN i m) ev Q ↔ rdS ev[i]? (kIx1 i m ev Q) := wE_ixN
def kRd2 (ev : Ev) (Q : Sl → Ev → Prop) : Sl → Prop := fun r => r.flat = true ∧ Q r ev
theorem e_kRd2_0 {ev : Ev} {Q : Sl → Ev → Prop} {i : Int} : kRd2 ev Q (.frz (.int i)) ↔ Q (.frz (.int i)) ev := by simp [kRd2, Sl.flat]
theorem e_kRd2_1 {ev : Ev} {Q : Sl → Ev → Prop} {i : Bool} : kRd2 ev Q (.frz (.bool i)) ↔ Q (.frz (.bool i)) ev := by simp [kRd2, Sl.flat]
theorem e_kRd2_2 {ev : Ev} {Q : Sl → Ev → Prop} {i : Str} : kRd2 ev Q (.frz (.str i)) ↔ Q (.frz (.str i)) ev := by simp [kRd2, Sl.flat]
theorem e_kRd2_3 {ev : Ev} {Q : Sl → Ev → Prop}  : kRd2 ev Q (.frz .none) ↔ Q (.frz .none) ev := by simp [kRd2, Sl.flat]
def kRd (f : List D → Option Sl) (ev : Ev) (Q : Sl → Ev → Prop) : D → Prop := fun d => wpO (f [d]) (kRd2 ev Q)
theorem e_kRd {f : List D → Option Sl} {ev : Ev} {Q : Sl → Ev → Prop} {d : D} : kRd f ev Q d ↔ wpO (f [d]) (kRd2 ev Q) := by rfl
theorem q_rd1 {f : List D → Option Sl} {i : Nat} {ev : Ev} {Q : Sl → Ev → Prop} : wpE (mrd1 f i) ev Q ↔ rdA ev[i]? (kRd f ev Q) := wE_rd1
def kTN2 (ev : Ev) (Q : Sl → Ev → Prop) : List D → Prop := fun ds => Q (.frz (.tuple ds)) ev
theorem e_kTN2 {ev : Ev} {Q : Sl → Ev → Prop} {ds : List D} : kTN2 ev Q ds ↔ Q (.frz (.tuple ds)) ev := by rfl
def kTN (ev : Ev) (Q : Sl → Ev → Prop) : D → Prop := fun d => seqQ d (kTN2 ev Q)
theorem e_kTN {ev : Ev} {Q : Sl → Ev → Prop} {d : D} : kTN ev Q d ↔ seqQ d (kTN2 ev Q) := by rfl
theorem q_tupN {i : Nat} {ev : Ev} {Q : Sl → Ev → Prop} : wpE (mtupN i) ev Q ↔ rdA ev[i]? (kTN ev Q) := wE_tupN
def kLN2 (ev : Ev) (Q : Sl → Ev → Prop) : List D → Prop := fun ds => Q (.own ds) ev
theorem e_kLN2 {ev : Ev} {Q : Sl → Ev → Prop} {ds : List D} : kLN2 ev Q ds ↔ Q (.own ds) ev := by rfl
def kLN (ev : Ev) (Q : Sl → Ev → Prop) : D → Prop := fun d => seqQ d (kLN2 ev Q)
theorem e_kLN {ev : Ev} {Q : Sl → Ev → Prop} {d : D} : kLN ev Q d ↔ seqQ d (kLN2 ev Q) := by rfl
theorem q_lstN {i : Nat} {ev : Ev} {Q : Sl → Ev → Prop} : wpE (mlstN i) ev Q ↔ rdA ev[i]? (kLN ev Q) := wE_lstN
def kAp3 (i : Nat) (t : Sl) (ev : Ev) (Q : Sl → Ev → Prop) : Sl → List D → Prop := fun s ds => ds.length < sizeLine ∧ Q (.frz .none) (ev.set i (some (s.put (ds ++ [t.d]))))
theorem e_kAp3 {i : Nat} {t : Sl} {ev : Ev} {Q : Sl → Ev → Prop} {s : Sl} {ds : List D} : kAp3 i t ev Q s ds ↔ ds.length < sizeLine ∧ Q (.frz .none) (ev.set i (some (s.put (ds ++ [t.d])))) := by rfl
def kAp2 (i : Nat) (Q : Sl → Ev → Prop) : Sl → Ev → Prop := fun t ev => rdM ev[i]? (kAp3 i t ev Q)
theorem e_kAp2 {i : Nat} {Q : Sl → Ev → Prop} {t : Sl} {ev : Ev} : kAp2 i Q t ev ↔ rdM ev[i]? (kAp3 i t ev Q) := by rfl
def kAp1 (i : Nat) (m : ME) (ev : Ev) (Q : Sl → Ev → Prop) : Sl → List D → Prop := fun x y => wpE m ev (kAp2 i Q)
theorem e_kAp1 {i : Nat} {m : ME} {ev : Ev} {Q : Sl → Ev → Prop} {x : Sl} {y : List D} : kAp1 i m ev Q x y ↔ wpE m ev (kAp2 i Q) := by rfl
theorem q_app {i : Nat} {m : ME} {ev : Ev} {Q : Sl → Ev → Prop} : wpE (mapp i m) ev Q ↔ rdM ev[i]? (kAp1 i m ev Q) := wE_app
def kPo3 (i : Nat) (t : Sl) (ev : Ev) (Q : Sl → Ev → Prop) : Sl → List D → Prop := fun s ds => ∃ j : Nat, t.d = .int j ∧ j < 2 ^ 62 ∧ ∃ d, ds[j]? = some d ∧ Q (.frz d) (ev.set i (some (s.put (ds.eraseIdx j))))
theorem e_kPo3 {i : Nat} {t : Sl} {ev : Ev} {Q : Sl → Ev → Prop} {s : Sl} {ds : List D} : kPo3 i t ev Q s ds ↔ ∃ j : Nat, t.d = .int j ∧ j < 2 ^ 62 ∧ ∃ d, ds[j]? = some d ∧ Q (.frz d) (ev.set i (some (s.put (ds.eraseIdx j)))) := by rfl
def kPo2 (i : Nat) (Q : Sl → Ev → Prop) : Sl → Ev → Prop := fun t ev => rdM ev[i]? (kPo3 i t ev Q)
theorem e_kPo2 {i : Nat} {Q : Sl → Ev → Prop} {t : Sl} {ev : Ev} : kPo2 i Q t ev ↔ rdM ev[i]? (kPo3 i t ev Q) := by rfl
def kPo1 (i : Nat) (m : ME) (ev : Ev) (Q : Sl → Ev → Prop) : Sl → List D → Prop := fun x y => wpE m ev (kPo2 i Q)
theorem e_kPo1 {i : Nat} {m : ME} {ev : Ev} {Q : Sl → Ev → Prop} {x : Sl} {y : List D} : kPo1 i m ev Q x y ↔ wpE m ev (kPo2 i Q) := by rfl
theorem q_pop {i : Nat} {m : ME} {ev : Ev} {Q : Sl → Ev → Prop} (h : rdM ev[i]? (kPo1 i m ev Q)) : wpE (mpop i m) ev Q := wE_pop h
def kCB2 (f : List D → Option Sl) (ev : Ev) (Q : Sl → Ev → Prop) : List D → Prop := fun ds => wpO (f ds) (kR ev Q)
theorem e_kCB2 {f : List D → Option Sl} {ev : Ev} {Q : Sl → Ev → Prop} {ds : List D} : kCB2 f ev Q ds ↔ wpO (f ds) (kR ev Q) := by rfl
def kCB (f : List D → Option Sl) (Q : Sl → Ev → Prop) : List Ar → Ev → Prop := fun a ev => wpO (ads a) (kCB2 f ev Q)
theorem e_kCB {f : List D → Option Sl} {Q : Sl → Ev → Prop} {a : List Ar} {ev : Ev} : kCB f Q a ev ↔ wpO (ads a) (kCB2 f ev Q) := by rfl
theorem q_callB {f : List D → Option Sl} {m : MA} {ev : Ev} {Q : Sl → Ev → Prop} : wpE (mcallB f m) ev Q ↔ wpA m ev (kCB f Q) := wE_callB
def kTp2 (ev : Ev) (Q : Sl → Ev → Prop) : List D → Prop := fun ds => ds.length ≤ sizeLine ∧ Q (.frz (.tuple ds)) ev
theorem e_kTp2 {ev : Ev} {Q : Sl → Ev → Prop} {ds : List D} : kTp2 ev Q ds ↔ ds.length ≤ sizeLine ∧ Q (.frz (.tuple ds)) ev := by rfl
def kTp (Q : Sl → Ev → Prop) : List Ar → Ev → Prop := fun a ev => wpO (ads a) (kTp2 ev Q)
theorem e_kTp {Q : Sl → Ev → Prop} {a : List Ar} {ev : Ev} : kTp Q a ev ↔ wpO (ads a) (kTp2 ev Q) := by rfl
theorem q_tup {m : MA} {ev : Ev} {Q : Sl → Ev → Prop} : wpE (mtup m) ev Q ↔ wpA m ev (kTp Q) := wE_tup
def kLs2 (ev : Ev) (Q : Sl → Ev → Prop) : List D → Prop := fun ds => ds.length ≤ sizeLine ∧ Q (.own ds) ev
theorem e_kLs2 {ev : Ev} {Q : Sl → Ev → Prop} {ds : List D} : kLs2 ev Q ds ↔ ds.length ≤ sizeLine ∧ Q (.own ds) ev := by rfl
def kLs (Q : Sl → Ev → Prop) : List Ar → Ev → Prop := fun a ev => wpO (ads a) (kLs2 ev Q)
theorem e_kLs {Q : Sl → Ev → Prop} {a : List Ar} {ev : Ev} : kLs Q a ev ↔ wpO (ads a) (kLs2 ev Q) := by rfl
theorem q_lst {m : MA} {ev : Ev} {Q : Sl → Ev → Prop} : wpE (mlst m) ev Q ↔ wpA m ev (kLs Q) := wE_lst
def kCa3 (a : List Ar) (ev : Ev) (Q : Sl → Ev → Prop) : Sl → Ev → Prop := fun r outs => Q r (back ev a outs)
theorem e_kCa3 {a : List Ar} {ev : Ev} {Q : Sl → Ev → Prop} {r : Sl} {outs : Ev} : kCa3 a ev Q r outs ↔ Q r (back ev a outs) := by rfl
def kCa2 (f : Fn) (a : List Ar) (ev : Ev) (Q : Sl → Ev → Prop) : List Sl → Prop := fun args => wpF f args (kCa3 a ev Q)
theorem e_kCa2 {f : Fn} {a : List Ar} {ev : Ev} {Q : Sl → Ev → Prop} {args : List Sl} : kCa2 f a ev Q args ↔ wpF f args (kCa3 a ev Q) := by rfl
def kCa (f : Fn) (Q : Sl → Ev → Prop) : List Ar → Ev → Prop := fun a ev => (arNd a).Nodup ∧ wpO (arSls ev a) (kCa2 f a ev Q)
theorem e_kCa {f : Fn} {Q : Sl → Ev → Prop} {a : List Ar} {ev : Ev} : kCa f Q a ev ↔ (arNd a).Nodup ∧ wpO (arSls ev a) (kCa2 f a ev Q) := by rfl
theorem q_call {f : Fn} {m : MA} {ev : Ev} {Q : Sl → Ev → Prop} : wpE (mcall f m) ev Q ↔ wpA m ev (kCa f Q) := wE_call
def kLc2 (ev : Ev) (vs : List Nat) (Q : Sl → Ev → Prop) : List D → Ev → Prop := fun acc ev2 => Q (.own acc) (unwipe ev ev2 vs)
theorem e_kLc2 {ev : Ev} {vs : List Nat} {Q : Sl → Ev → Prop} {acc : List D} {ev2 : Ev} : kLc2 ev vs Q acc ev2 ↔ Q (.own acc) (unwipe ev ev2 vs) := by rfl
def kLc (g : MG) (t : MT) (m : ME) (vs : List Nat) (Q : Sl → Ev → Prop) : List D → Ev → Prop := fun ds ev => vs.all (frzAt ev) = true ∧ wpC g t m vs ds (wipeE ev vs) [] (kLc2 ev vs Q)
theorem e_kLc {g : MG} {t : MT} {m : ME} {vs : List Nat} {Q : Sl → Ev → Prop} {ds : List D} {ev : Ev} : kLc g t m vs Q ds ev ↔ vs.all (frzAt ev) = true ∧ wpC g t m vs ds (wipeE ev vs) [] (kLc2 ev vs Q) := by rfl
theorem q_lc {it : MI} {g : MG} {t : MT} {m : ME} {vs : List Nat} {ev : Ev} {Q : Sl → Ev → Prop} : wpE (mlc it g t m vs) ev Q ↔ wpI it ev (kLc g t m vs Q) := wE_lc
def kSl3 (s : Sl) (l : Option Int) (Q : Sl → Ev → Prop) : Option Int → Ev → Prop := fun h ev => wpO (sliceD s.d l h) (kR ev Q)
theorem e_kSl3 {s : Sl} {l : Option Int} {Q : Sl → Ev → Prop} {h : Option Int} {ev : Ev} : kSl3 s l Q h ev ↔ wpO (sliceD s.d l h) (kR ev Q) := by rfl
def kSl2 (s : Sl) (hi : MO) (Q : Sl → Ev → Prop) : Option Int → Ev → Prop := fun l ev => wpB hi ev (kSl3 s l Q)
theorem e_kSl2 {s : Sl} {hi : MO} {Q : Sl → Ev → Prop} {l : Option Int} {ev : Ev} : kSl2 s hi Q l ev ↔ wpB hi ev (kSl3 s l Q) := by rfl
def kSl1 (lo hi : MO) (Q : Sl → Ev → Prop) : Sl → Ev → Prop := fun s ev => wpB lo ev (kSl2 s hi Q)
theorem e_kSl1 {lo hi : MO} {Q : Sl → Ev → Prop} {s : Sl} {ev : Ev} : kSl1 lo hi Q s ev ↔ wpB lo ev (kSl2 s hi Q) := by rfl
theorem q_slice {m : ME} {lo hi : MO} {ev : Ev} {Q : Sl → Ev → Prop} : wpE (mslice m lo hi) ev Q ↔ wpE m ev (kSl1 lo hi Q) := wE_slice
def kSn4 (l h : Option Int) (ev : Ev) (Q : Sl → Ev → Prop) : D → Prop := fun d => wpO (sliceD d l h) (kR ev Q)
theorem e_kSn4 {l h : Option Int} {ev : Ev} {Q : Sl → Ev → Prop} {d : D} : kSn4 l h ev Q d ↔ wpO (sliceD d l h) (kR ev Q) := by rfl
def kSn3 (i : Nat) (l : Option Int) (Q : Sl → Ev → Prop) : Option Int → Ev → Prop := fun h ev => rdA ev[i]? (kSn4 l h ev Q)
theorem e_kSn3 {i : Nat} {l : Option Int} {Q : Sl → Ev → Prop} {h : Option Int} {ev : Ev} : kSn3 i l Q h ev ↔ rdA ev[i]? (kSn4 l h ev Q) := by rfl
def kSn2 (i : Nat) (hi : MO) (Q : Sl → Ev → Prop) : Option Int → Ev → Prop := fun l ev => wpB hi ev (kSn3 i l Q)
theorem e_kSn2 {i : Nat} {hi : MO} {Q : Sl → Ev → Prop} {l : Option Int} {ev : Ev} : kSn2 i hi Q l ev ↔ wpB hi ev (kSn3 i l Q) := by rfl
def kSn1 (i : Nat) (lo hi : MO) (ev : Ev) (Q : Sl → Ev → Prop) : Sl → Prop := fun x => wpB lo ev (kSn2 i hi Q)
theorem e_kSn1 {i : Nat} {lo hi : MO} {ev : Ev} {Q : Sl → Ev → Prop} {x : Sl} : kSn1 i lo hi ev Q x ↔ wpB lo ev (kSn2 i hi Q) := by rfl
theorem q_slcN {i : Nat} {lo hi : MO} {ev : Ev} {Q : Sl → Ev → Prop} : wpE (mslcN i lo hi) ev Q ↔ rdS ev[i]? (kSn1 i lo hi ev Q) := wE_slcN
def kSt2 (s : Sl) (Q : Sl → Ev → Prop) : Sl → Ev → Prop := fun t ev => wpO (stepD s.d t.d) (kR ev Q)
theorem e_kSt2 {s : Sl} {Q : Sl → Ev → Prop} {t : Sl} {ev : Ev} : kSt2 s Q t ev ↔ wpO (stepD s.d t.d) (kR ev Q) := by rfl
def kSt1 (n : ME) (Q : Sl → Ev → Prop) : Sl → Ev → Prop := fun s ev => wpE n ev (kSt2 s Q)
theorem e_kSt1 {n : ME} {Q : Sl → Ev → Prop} {s : Sl} {ev : Ev} : kSt1 n Q s ev ↔ wpE n ev (kSt2 s Q) := by rfl
theorem q_step {m n : ME} {ev : Ev} {Q : Sl → Ev → Prop} : wpE (mstep m n) ev Q ↔ wpE m ev (kSt1 n Q) := wE_step
def kRp2 (xs : List D) (Q : Sl → Ev → Prop) : Sl → Ev → Prop := fun t ev => ∃ k, t.d = .int k ∧ (-(2 ^ 63) ≤ k ∧ k < 2 ^ 63 ∧ xs.length * k.toNat ≤ sizeLine) ∧ Q (.own (List.replicate k.toNat xs).flatten) ev
theorem e_kRp2 {xs : List D} {Q : Sl → Ev → Prop} {k : Int} {ev : Ev} : kRp2 xs Q (.frz (.int k)) ev ↔ (-(2 ^ 63) ≤ k ∧ k < 2 ^ 63 ∧ xs.length * k.toNat ≤ sizeLine) ∧ Q (.own (List.replicate k.toNat xs).flatten) ev := by simp [kRp2, Sl.d]
def kRp1 (n : ME) (Q : Sl → Ev → Prop) : Sl → Ev → Prop := fun s ev => ∃ xs, s = .own xs ∧ wpE n ev (kRp2 xs Q)
theorem e_kRp1 {n : ME} {Q : Sl → Ev → Prop} {xs : List D} {ev : Ev} : kRp1 n Q (.own xs) ev ↔ wpE n ev (kRp2 xs Q) := by simp [kRp1]
theorem q_rep {m n : ME} {ev : Ev} {Q : Sl → Ev → Prop} : wpE (mrep m n) ev Q ↔ wpE m ev (kRp1 n Q) := wE_rep
def kLr (Q : Sl → Ev → Prop) : Sl → Ev → Prop := fun t ev => ∃ j, t.d = .int j ∧ (0 ≤ j ∧ j ≤ 16777216) ∧ Q (.own (intsD 0 j.toNat)) ev
theorem e_kLr {Q : Sl → Ev → Prop} {j : Int} {ev : Ev} : kLr Q (.frz (.int j)) ev ↔ (0 ≤ j ∧ j ≤ 16777216) ∧ Q (.own (intsD 0 j.toNat)) ev := by simp [kLr, Sl.d]
theorem q_lstRg {m : ME} {ev : Ev} {Q : Sl → Ev → Prop} : wpE (mlstRg1 m) ev Q ↔ wpE m ev (kLr Q) := wE_lstRg
def kBs (Q : Option Int → Ev → Prop) : Sl → Ev → Prop := fun t ev => ∃ j, t.d = .int j ∧ Q (some j) ev
theorem e_kBs {Q : Option Int → Ev → Prop} {j : Int} {ev : Ev} : kBs Q (.frz (.int j)) ev ↔ Q (some j) ev := by simp [kBs, Sl.d]
theorem q_bsome {m : ME} {ev : Ev} {Q : Option Int → Ev → Prop} : wpB (moSome m) ev Q ↔ wpE m ev (kBs Q) := wB_some
def kAc2 (s : Sl) (Q : List Ar → Ev → Prop) : List Ar → Ev → Prop := fun a ev => Q (.val s.d :: a) ev
theorem e_kAc2 {s : Sl} {Q : List Ar → Ev → Prop} {a : List Ar} {ev : Ev} : kAc2 s Q a ev ↔ Q (.val s.d :: a) ev := by rfl
def kAc1 (n : MA) (Q : List Ar → Ev → Prop) : Sl → Ev → Prop := fun s ev => wpA n ev (kAc2 s Q)
theorem e_kAc1 {n : MA} {Q : List Ar → Ev → Prop} {s : Sl} {ev : Ev} : kAc1 n Q s ev ↔ wpA n ev (kAc2 s Q) := by rfl
theorem q_acons {m : ME} {n : MA} {ev : Ev} {Q : List Ar → Ev → Prop} : wpA (maCons m n) ev Q ↔ wpE m ev (kAc1 n Q) := wA_cons
def kAs2 (i : Nat) (Q : List Ar → Ev → Prop) : List Ar → Ev → Prop := fun a ev => Q (.slot i :: a) ev
theorem e_kAs2 {i : Nat} {Q : List Ar → Ev → Prop} {a : List Ar} {ev : Ev} : kAs2 i Q a ev ↔ Q (.slot i :: a) ev := by rfl
def kAs1 (i : Nat) (n : MA) (ev : Ev) (Q : List Ar → Ev → Prop) : Sl → Prop := fun x => wpA n ev (kAs2 i Q)
theorem e_kAs1 {i : Nat} {n : MA} {ev : Ev} {Q : List Ar → Ev → Prop} {x : Sl} : kAs1 i n ev Q x ↔ wpA n ev (kAs2 i Q) := by rfl
theorem q_aslot {i : Nat} {n : MA} {ev : Ev} {Q : List Ar → Ev → Prop} : wpA (maSlot i n) ev Q ↔ rdS ev[i]? (kAs1 i n ev Q) := wA_slot
def kTr2 (ev : Ev) (Q : Bool → Ev → Prop) : Bool → Prop := fun b => Q b ev
theorem e_kTr2 {ev : Ev} {Q : Bool → Ev → Prop} {b : Bool} : kTr2 ev Q b ↔ Q b ev := by rfl
def kTru (Q : Bool → Ev → Prop) : Sl → Ev → Prop := fun s ev => wpO (truD s.d) (kTr2 ev Q)
theorem e_kTru {Q : Bool → Ev → Prop} {s : Sl} {ev : Ev} : kTru Q s ev ↔ wpO (truD s.d) (kTr2 ev Q) := by rfl
theorem q_tru {m : ME} {ev : Ev} {Q : Bool → Ev → Prop} : wpT (mtru m) ev Q ↔ wpE m ev (kTru Q) := wT_tru
def kTn (ev : Ev) (Q : Bool → Ev → Prop) : D → Prop := fun d => wpO (truD d) (kTr2 ev Q)
theorem e_kTn {ev : Ev} {Q : Bool → Ev → Prop} {d : D} : kTn ev Q d ↔ wpO (truD d) (kTr2 ev Q) := by rfl
theorem q_truN {i : Nat} {ev : Ev} {Q : Bool → Ev → Prop} : wpT (mtruN i) ev Q ↔ rdA ev[i]? (kTn ev Q) := wT_truN
def kNot (Q : Bool → Ev → Prop) : Bool → Ev → Prop := fun b ev => Q (!b) ev
theorem e_kNot {Q : Bool → Ev → Prop} {b : Bool} {ev : Ev} : kNot Q b ev ↔ Q (!b) ev := by rfl
theorem q_not {m : MT} {ev : Ev} {Q : Bool → Ev → Prop} : wpT (mtnot m) ev Q ↔ wpT m ev (kNot Q) := wT_not
def kAnd (n : MT) (Q : Bool → Ev → Prop) : Bool → Ev → Prop := fun b ev => if b = true then wpT n ev Q else Q false ev
theorem e_kAnd {n : MT} {Q : Bool → Ev → Prop} {b : Bool} {ev : Ev} : kAnd n Q b ev ↔ if b = true then wpT n ev Q else Q false ev := by rfl
theorem q_and {m n : MT} {ev : Ev} {Q : Bool → Ev → Prop} : wpT (mtand m n) ev Q ↔ wpT m ev (kAnd n Q) := wT_and
def kOr (n : MT) (Q : Bool → Ev → Prop) : Bool → Ev → Prop := fun b ev => if b = true then Q true ev else wpT n ev Q
theorem e_kOr {n : MT} {Q : Bool → Ev → Prop} {b : Bool} {ev : Ev} : kOr n Q b ev ↔ if b = true then Q true ev else wpT n ev Q := by rfl
theorem q_or {m n : MT} {ev : Ev} {Q : Bool → Ev → Prop} : wpT (mtor m n) ev Q ↔ wpT m ev (kOr n Q) := wT_or
def kTB (Q : Bool → Ev → Prop) : Sl → Ev → Prop := fun s ev => ∃ b, s.d = .bool b ∧ Q b ev
theorem e_kTB {Q : Bool → Ev → Prop} {b : Bool} {ev : Ev} : kTB Q (.frz (.bool b)) ev ↔ Q b ev := by simp [kTB, Sl.d]
theorem q_B {m : ME} {ev : Ev} {Q : Bool → Ev → Prop} : wpT (mtB m) ev Q ↔ wpE m ev (kTB Q) := wT_B
def kDr (Q : Fl → Ev → Prop) : Sl → Ev → Prop := fun s ev => Q .nx ev
theorem e_kDr {Q : Fl → Ev → Prop} {s : Sl} {ev : Ev} : kDr Q s ev ↔ Q .nx ev := by rfl
theorem q_drop {m : ME} {ev : Ev} {Q : Fl → Ev → Prop} : wpS (mdrop m) ev Q ↔ wpE m ev (kDr Q) := wS_drop
def kRet (Q : Fl → Ev → Prop) : Sl → Ev → Prop := fun s ev => Q (.rt s) ev
theorem e_kRet {Q : Fl → Ev → Prop} {s : Sl} {ev : Ev} : kRet Q s ev ↔ Q (.rt s) ev := by rfl
theorem q_ret {m : ME} {ev : Ev} {Q : Fl → Ev → Prop} : wpS (mret m) ev Q ↔ wpE m ev (kRet Q) := wS_ret
def kSi (a b : MS) (Q : Fl → Ev → Prop) : Bool → Ev → Prop := fun c ev => if c = true then wpS a ev Q else wpS b ev Q
theorem e_kSi {a b : MS} {Q : Fl → Ev → Prop} {c : Bool} {ev : Ev} : kSi a b Q c ev ↔ if c = true then wpS a ev Q else wpS b ev Q := by rfl
theorem q_sif {c : MT} {a b : MS} {ev : Ev} {Q : Fl → Ev → Prop} : wpS (mifS c a b) ev Q ↔ wpT c ev (kSi a b Q) := wS_if
def kSet (i : Nat) (Q : Fl → Ev → Prop) : Sl → Ev → Prop := fun s ev => wrQ ev[i]? (Q .nx (ev.set i (some s)))
theorem e_kSet {i : Nat} {Q : Fl → Ev → Prop} {s : Sl} {ev : Ev} : kSet i Q s ev ↔ wrQ ev[i]? (Q .nx (ev.set i (some s))) := by rfl
theorem q_set {i : Nat} {m : ME} {ev : Ev} {Q : Fl → Ev → Prop} : wpS (mset i m) ev Q ↔ wpE m ev (kSet i Q) := wS_set
def kNx (Q : Fl → Ev → Prop) : Ev → Prop := fun ev => Q .nx ev
theorem e_kNx {Q : Fl → Ev → Prop} {ev : Ev} : kNx Q ev ↔ Q .nx ev := by rfl
def kAsg (g : MG) (Q : Fl → Ev → Prop) : Sl → Ev → Prop := fun s ev => wpO (g s.d ev) (kNx Q)
theorem e_kAsg {g : MG} {Q : Fl → Ev → Prop} {s : Sl} {ev : Ev} : kAsg g Q s ev ↔ wpO (g s.d ev) (kNx Q) := by rfl
theorem q_asg {g : MG} {m : ME} {ev : Ev} {Q : Fl → Ev → Prop} : wpS (masg g m) ev Q ↔ wpE m ev (kAsg g Q) := wS_asg
def kGc (h : MGs) (ds : List D) (Q : Ev → Prop) : Ev → Prop := fun ev => wpO (h ds ev) Q
theorem e_kGc {h : MGs} {ds : List D} {Q : Ev → Prop} {ev : Ev} : kGc h ds Q ev ↔ wpO (h ds ev) Q := by rfl
theorem q_gcons {g : MG} {h : MGs} {d : D} {ds : List D} {ev : Ev} {Q : Ev → Prop} : wpO (gsCons g h (d :: ds) ev) Q ↔ wpO (g d ev) (kGc h ds Q) := wG_cons
def kG2 (j : Nat) (e : D) (Q : Ev → Prop) : Ev → Prop := fun ev => wpO (gset j e ev) Q
theorem e_kG2 {j : Nat} {e : D} {Q : Ev → Prop} {ev : Ev} : kG2 j e Q ev ↔ wpO (gset j e ev) Q := by rfl
theorem q_T2 {i j : Nat} {d e : D} {ev : Ev} {Q : Ev → Prop} : wpO (gT2 i j (.tuple [d, e]) ev) Q ↔ wpO (gset i d ev) (kG2 j e Q) := wG_T2
def kSub3 (i : Nat) (v t : Sl) (ev : Ev) (Q : Fl → Ev → Prop) : Sl → List D → Prop := fun s ds => ∃ j : Nat, t.d = .int j ∧ j < ds.length ∧ Q .nx (ev.set i (some (s.put (ds.set j v.d))))
theorem e_kSub3 {i : Nat} {v t : Sl} {ev : Ev} {Q : Fl → Ev → Prop} {s : Sl} {ds : List D} : kSub3 i v t ev Q s ds ↔ ∃ j : Nat, t.d = .int j ∧ j < ds.length ∧ Q .nx (ev.set i (some (s.put (ds.set j v.d)))) := by rfl
def kSub2 (i : Nat) (v : Sl) (Q : Fl → Ev → Prop) : Sl → Ev → Prop := fun t ev => rdM ev[i]? (kSub3 i v t ev Q)
theorem e_kSub2 {i : Nat} {v : Sl} {Q : Fl → Ev → Prop} {t : Sl} {ev : Ev} : kSub2 i v Q t ev ↔ rdM ev[i]? (kSub3 i v t ev Q) := by rfl
def kSub1 (i : Nat) (mi : ME) (v : Sl) (ev : Ev) (Q : Fl → Ev → Prop) : Sl → Prop := fun x => wpE mi ev (kSub2 i v Q)
theorem e_kSub1 {i : Nat} {mi : ME} {v : Sl} {ev : Ev} {Q : Fl → Ev → Prop} {x : Sl} : kSub1 i mi v ev Q x ↔ wpE mi ev (kSub2 i v Q) := by rfl
def kSub0 (i : Nat) (mi : ME) (Q : Fl → Ev → Prop) : Sl → Ev → Prop := fun v ev => rdS ev[i]? (kSub1 i mi v ev Q)
theorem e_kSub0 {i : Nat} {mi : ME} {Q : Fl → Ev → Prop} {v : Sl} {ev : Ev} : kSub0 i mi Q v ev ↔ rdS ev[i]? (kSub1 i mi v ev Q) := by rfl
theorem q_sub {i : Nat} {mv mi : ME} {ev : Ev} {Q : Fl → Ev → Prop} (h : wpE mv ev (kSub0 i mi Q)) : wpS (msub i mv mi) ev Q := wS_sub h
def kSq2 (ev : Ev) (Q : List D → Ev → Prop) : List D → Prop := fun ds => Q ds ev
theorem e_kSq2 {ev : Ev} {Q : List D → Ev → Prop} {ds : List D} : kSq2 ev Q ds ↔ Q ds ev := by rfl
def kSeq (Q : List D → Ev → Prop) : Sl → Ev → Prop := fun s ev => seqQ s.d (kSq2 ev Q)
theorem e_kSeq {Q : List D → Ev → Prop} {s : Sl} {ev : Ev} : kSeq Q s ev ↔ seqQ s.d (kSq2 ev Q) := by rfl
theorem q_seq {m : ME} {ev : Ev} {Q : List D → Ev → Prop} : wpI (miSeq m) ev Q ↔ wpE m ev (kSeq Q) := wI_seq
def kRg1 (Q : List D → Ev → Prop) : List Ar → Ev → Prop := fun a ev => ∃ j, ads a = some [.int j] ∧ (-(2 ^ 62) ≤ j ∧ j < 2 ^ 62) ∧ Q (intsD 0 j.toNat) ev
theorem e_kRg1 {Q : List D → Ev → Prop} {j : Int} {ev : Ev} : kRg1 Q [.val (.int j)] ev ↔ (-(2 ^ 62) ≤ j ∧ j < 2 ^ 62) ∧ Q (intsD 0 j.toNat) ev := by simp [kRg1, ads]
theorem q_rng1 {m : MA} {ev : Ev} {Q : List D → Ev → Prop} : wpI (miRng1 m) ev Q ↔ wpA m ev (kRg1 Q) := wI_rng1
def kRg2 (Q : List D → Ev → Prop) : List Ar → Ev → Prop := fun a ev => ∃ i j, ads a = some [.int i, .int j] ∧ (-(2 ^ 62) ≤ i ∧ i < 2 ^ 62 ∧ -(2 ^ 62) ≤ j ∧ j < 2 ^ 62) ∧ Q (intsD i (j - i).toNat) ev
theorem e_kRg2 {Q : List D → Ev → Prop} {i j : Int} {ev : Ev} : kRg2 Q [.val (.int i), .val (.int j)] ev ↔ (-(2 ^ 62) ≤ i ∧ i < 2 ^ 62 ∧ -(2 ^ 62) ≤ j ∧ j < 2 ^ 62) ∧ Q (intsD i (j - i).toNat) ev := by exact ⟨fun ⟨i', j', e, h⟩ => by cases e; exact h, fun h => ⟨i, j, rfl, h⟩⟩
theorem q_rng2 {m : MA} {ev : Ev} {Q : List D → Ev → Prop} : wpI (miRng2 m) ev Q ↔ wpA m ev (kRg2 Q) := wI_rng2
def kZip (Q : List D → Ev → Prop) : List Ar → Ev → Prop := fun a ev => zipQ (ads a) (kSq2 ev Q)
theorem e_kZip {Q : List D → Ev → Prop} {a : List Ar} {ev : Ev} : kZip Q a ev ↔ zipQ (ads a) (kSq2 ev Q) := by rfl
theorem q_zip {m : MA} {ev : Ev} {Q : List D → Ev → Prop} : wpI (miZip m) ev Q ↔ wpA m ev (kZip Q) := wI_zip
def kFor (g : MG) (b : MS) (Q : Fl → Ev → Prop) : List D → Ev → Prop := fun ds ev => wpL g b ds ev Q
theorem e_kFor {g : MG} {b : MS} {Q : Fl → Ev → Prop} {ds : List D} {ev : Ev} : kFor g b Q ds ev ↔ wpL g b ds ev Q := by rfl
theorem q_for {it : MI} {g : MG} {b : MS} {ev : Ev} {Q : Fl → Ev → Prop} : wpS (mfor it g b) ev Q ↔ wpI it ev (kFor g b Q) := wS_for
def kFn (args : List Sl) (Q : Sl → Ev → Prop) : Fl → Ev → Prop := fun fl ev' => match fl with
    | .nx => Q (.frz .none) (outsOf args ev')
    | .rt s => Q s (outsOf args ev')
    | _ => False
theorem e_kFn_0 {args : List Sl} {Q : Sl → Ev → Prop} {ev : Ev} : kFn args Q .nx ev ↔ Q (.frz .none) (outsOf args ev) := by rfl
theorem e_kFn_1 {args : List Sl} {Q : Sl → Ev → Prop} {ev : Ev} {s : Sl} : kFn args Q (.rt s) ev ↔ Q s (outsOf args ev) := by rfl
theorem q_fn {n N : Nat} {b : MS} {args : List Sl} {Q : Sl → Ev → Prop} : wpF (mfn n N b) args Q ↔ wpS b (args.map some ++ List.replicate (N - n) none) (kFn args Q) := wF_fn
def kDp (vs : List Nat) (Q : Fl → Ev → Prop) : Fl → Ev → Prop := fun fl ev => Q fl (dropE vs ev)
theorem e_kDp {vs : List Nat} {Q : Fl → Ev → Prop} {fl : Fl} {ev : Ev} : kDp vs Q fl ev ↔ Q fl (dropE vs ev) := by rfl
theorem q_drp {vs : List Nat} {b : MS} {ev : Ev} {Q : Fl → Ev → Prop} : wpS (mdrp vs b) ev Q ↔ wpS b ev (kDp vs Q) := wS_drp
def kTurn (N : Ev → Prop) (Q : Fl → Ev → Prop) : Fl → Ev → Prop := fun fl ev => match fl with
  | .nx => N ev
  | .ct => N ev
  | .bk => Q .nx ev
  | .rt s => Q (.rt s) ev
theorem e_kTurn_0 {N : Ev → Prop} {Q : Fl → Ev → Prop} {ev : Ev} : kTurn N Q .nx ev ↔ N ev := by rfl
theorem e_kTurn_1 {N : Ev → Prop} {Q : Fl → Ev → Prop} {ev : Ev} : kTurn N Q .ct ev ↔ N ev := by rfl
theorem e_kTurn_2 {N : Ev → Prop} {Q : Fl → Ev → Prop} {ev : Ev} : kTurn N Q .bk ev ↔ Q .nx ev := by rfl
theorem e_kTurn_3 {N : Ev → Prop} {Q : Fl → Ev → Prop} {ev : Ev} {s : Sl} : kTurn N Q (.rt s) ev ↔ Q (.rt s) ev := by rfl
def kBody (b : MS) (Q : Fl → Ev → Prop) : Ev → Prop := fun ev => wpS b ev Q
theorem e_kBody {b : MS} {Q : Fl → Ev → Prop} {ev : Ev} : kBody b Q ev ↔ wpS b ev Q := by rfl
theorem qL_inv {g : MG} {b : MS} {ds : List D} {ev : Ev} {Q : Fl → Ev → Prop} (P : Nat → Ev → Prop) (h0 : P 0 ev)
    (step : ∀ (i : Nat) (d : D) (ev : Ev), ds[i]? = some d → P i ev → wpO (g d ev) (kBody b (kTurn (P (i + 1)) Q)))
    (done : ∀ ev, P ds.length ev → Q .nx ev) : wpL g b ds ev Q := wL_inv P h0 (fun i d ev hd hp => wpO_mono (step i d ev hd hp) fun ev1 h => wpS_mono h fun fl ev2 h => by cases fl <;> exact h) done
def kFind (p : Bool) (s : Sl) (P : Ev → Prop) : Fl → Ev → Prop := fun fl ev => if p = true then fl = .rt s else fl = .nx ∧ P ev
theorem e_kFind {p : Bool} {s : Sl} {P : Ev → Prop} {fl : Fl} {ev : Ev} : kFind p s P fl ev ↔ if p = true then fl = .rt s else fl = .nx ∧ P ev := by rfl
theorem qL_find {g : MG} {b : MS} {ds : List D} {ev : Ev} {Q : Fl → Ev → Prop} (p : Nat → Bool) (s : Sl) (P : Ev → Prop) (h0 : P ev)
    (step : ∀ (i : Nat) (d : D) (ev : Ev), ds[i]? = some d → P ev → wpO (g d ev) (kBody b (kFind (p i) s P)))
    (hit : ∀ ev i, i < ds.length → p i = true → Q (.rt s) ev) (none : ∀ ev, (∀ i, i < ds.length → p i = false) → P ev → Q .nx ev) : wpL g b ds ev Q := wL_find p s P h0 step hit none
def kCi3 (z : Nat) (vs : List Nat) (N : D → Ev → Prop) : Sl → Ev → Prop := fun s ev => z < sizeLine ∧ N s.d (wipeE ev vs)
theorem e_kCi3 {z : Nat} {vs : List Nat} {N : D → Ev → Prop} {s : Sl} {ev : Ev} : kCi3 z vs N s ev ↔ z < sizeLine ∧ N s.d (wipeE ev vs) := by rfl
def kCi2 (z : Nat) (m : ME) (vs : List Nat) (N : D → Ev → Prop) (N' : Ev → Prop) : Bool → Ev → Prop := fun b ev => if b = true then wpE m ev (kCi3 z vs N) else N' (wipeE ev vs)
theorem e_kCi2 {z : Nat} {m : ME} {vs : List Nat} {N : D → Ev → Prop} {N' : Ev → Prop} {b : Bool} {ev : Ev} : kCi2 z m vs N N' b ev ↔ if b = true then wpE m ev (kCi3 z vs N) else N' (wipeE ev vs) := by rfl
def kCi1 (z : Nat) (t : MT) (m : ME) (vs : List Nat) (N : D → Ev → Prop) (N' : Ev → Prop) : Ev → Prop := fun ev => wpT t ev (kCi2 z m vs N N')
theorem e_kCi1 {z : Nat} {t : MT} {m : ME} {vs : List Nat} {N : D → Ev → Prop} {N' : Ev → Prop} {ev : Ev} : kCi1 z t m vs N N' ev ↔ wpT t ev (kCi2 z m vs N N') := by rfl
theorem qC_inv {g : MG} {t : MT} {m : ME} {vs : List Nat} {ds : List D} {ev : Ev} {acc : List D} {Q : List D → Ev → Prop} (P : Nat → List D → Ev → Prop) (h0 : P 0 acc ev)
    (step : ∀ (i : Nat) (d : D) (acc : List D) (ev : Ev), ds[i]? = some d → P i acc ev → wpO (g d ev) (kCi1 acc.length t m vs (fun x => P (i + 1) (acc ++ [x])) (P (i + 1) acc)))
    (done : ∀ acc ev, P ds.length acc ev → Q acc ev) : wpC g t m vs ds ev acc Q := wC_inv P h0 step done
def kCp3 (vs : List Nat) (d : D) (ev0 : Ev) : Sl → Ev → Prop := fun s ev => s.d = d ∧ wipeE ev vs = ev0
theorem e_kCp3 {vs : List Nat} {d : D} {ev0 : Ev} {s : Sl} {ev : Ev} : kCp3 vs d ev0 s ev ↔ s.d = d ∧ wipeE ev vs = ev0 := by rfl
def kCp2 (m : ME) (vs : List Nat) (p : Bool) (d : D) (ev0 : Ev) : Bool → Ev → Prop := fun b ev => b = p ∧ if b = true then wpE m ev (kCp3 vs d ev0) else wipeE ev vs = ev0
theorem e_kCp2 {m : ME} {vs : List Nat} {p : Bool} {d : D} {ev0 : Ev} {b : Bool} {ev : Ev} : kCp2 m vs p d ev0 b ev ↔ b = p ∧ if b = true then wpE m ev (kCp3 vs d ev0) else wipeE ev vs = ev0 := by rfl
def kCp1 (t : MT) (m : ME) (vs : List Nat) (p : Bool) (d : D) (ev0 : Ev) : Ev → Prop := fun ev => wpT t ev (kCp2 m vs p d ev0)
theorem e_kCp1 {t : MT} {m : ME} {vs : List Nat} {p : Bool} {d : D} {ev0 : Ev} {ev : Ev} : kCp1 t m vs p d ev0 ev ↔ wpT t ev (kCp2 m vs p d ev0) := by rfl
theorem qC_pure {g : MG} {t : MT} {m : ME} {vs : List Nat} {ds : List D} {ev : Ev} {Q : List D → Ev → Prop} (p : D → Bool) (f : D → D) (hz : ds.length ≤ sizeLine)
    (step : ∀ (i : Nat) (d : D), ds[i]? = some d → wpO (g d ev) (kCp1 t m vs (p d) (f d) ev))
    (done : Q ((ds.filter p).map f) ev) : wpC g t m vs ds ev [] Q := wC_pure p f hz step done
def kWh2 (N : Ev → Prop) (Q : Fl → Ev → Prop) : Fl → Ev → Prop := fun fl ev => kTurn N Q fl ev
theorem e_kWh2 {N : Ev → Prop} {Q : Fl → Ev → Prop} {fl : Fl} {ev : Ev} : kWh2 N Q fl ev ↔ kTurn N Q fl ev := by rfl
def kWh1 (b : MS) (N : Ev → Prop) (Q : Fl → Ev → Prop) : Bool → Ev → Prop := fun c ev => if c = true then wpS b ev (kTurn N Q) else Q .nx ev
theorem e_kWh1 {b : MS} {N : Ev → Prop} {Q : Fl → Ev → Prop} {c : Bool} {ev : Ev} : kWh1 b N Q c ev ↔ if c = true then wpS b ev (kTurn N Q) else Q .nx ev := by rfl
theorem qS_while {t : MT} {b : MS} {ev : Ev} {Q : Fl → Ev → Prop} (P : Nat → Ev → Prop) (n : Nat) (h0 : P n ev)
    (step : ∀ (n : Nat) (ev : Ev), P n ev → wpT t ev (kWh1 b (fun ev => ∃ m, m < n ∧ P m ev) Q)) : wpS (mwhile t b) ev Q := wS_while P n h0 fun n ev hp => wpO_mono (step n ev hp) fun r h => by
  obtain ⟨c, ev1⟩ := r
  cases c with
  | false => exact h
  | true => exact wpS_mono h fun fl ev2 h => by cases fl <;> exact h
theorem d_frz {d : D} : (Sl.frz d).d = d := rfl
theorem d_own {ds : List D} : (Sl.own ds).d = .list ds := rfl
theorem d_inn {ds : List D} : (Sl.inn ds).d = .list ds := rfl
theorem put_own {xs ds : List D} : (Sl.own xs).put ds = .own ds := rfl
theorem put_inn {xs ds : List D} : (Sl.inn xs).put ds = .inn ds := rfl
theorem isInn_n : isInn none = false := rfl
theorem isInn_f {d : D} : isInn (some (.frz d)) = false := rfl
theorem isInn_o {ds : List D} : isInn (some (.own ds)) = false := rfl
theorem tru_l {ds : List D} : truD (.list ds) = some (!ds.isEmpty) := rfl
theorem tru_t {ds : List D} : truD (.tuple ds) = some (!ds.isEmpty) := rfl
theorem tru_b {b : Bool} : truD (.bool b) = some b := rfl
theorem tru_i {i : Int} : truD (.int i) = some (i != 0) := rfl
theorem tru_n : truD .none = some false := rfl
def kI (Q : Sl → Prop) : D → Prop := fun r => Q (.frz r)
theorem e_kI {Q : Sl → Prop} {r : D} : kI Q r ↔ Q (.frz r) := by rfl
theorem q_item {d e : D} {Q : Sl → Prop} : wpO (itemSl d e) Q ↔ wpO (itemD d e) (kI Q) := wpO_map
theorem lz0 : (0 : Nat) ≤ sizeLine := Nat.le_trans (by decide) size_big
theorem lz1 : (1 : Nat) ≤ sizeLine := Nat.le_trans (by decide) size_big
theorem lz2 : (2 : Nat) ≤ sizeLine := Nat.le_trans (by decide) size_big
theorem lz3 : (3 : Nat) ≤ sizeLine := Nat.le_trans (by decide) size_big
theorem lz4 : (4 : Nat) ≤ sizeLine := Nat.le_trans (by decide) size_big
theorem lz5 : (5 : Nat) ≤ sizeLine := Nat.le_trans (by decide) size_big
theorem lz6 : (6 : Nat) ≤ sizeLine := Nat.le_trans (by decide) size_big
theorem lz7 : (7 : Nat) ≤ sizeLine := Nat.le_trans (by decide) size_big
theorem lz8 : (8 : Nat) ≤ sizeLine := Nat.le_trans (by decide) size_big
theorem lz9 : (9 : Nat) ≤ sizeLine := Nat.le_trans (by decide) size_big
theorem lz10 : (10 : Nat) ≤ sizeLine := Nat.le_trans (by decide) size_big
theorem lz11 : (11 : Nat) ≤ sizeLine := Nat.le_trans (by decide) size_big
theorem lz12 : (12 : Nat) ≤ sizeLine := Nat.le_trans (by decide) size_big
theorem lz13 : (13 : Nat) ≤ sizeLine := Nat.le_trans (by decide) size_big
theorem lz14 : (14 : Nat) ≤ sizeLine := Nat.le_trans (by decide) size_big
theorem lz15 : (15 : Nat) ≤ sizeLine := Nat.le_trans (by decide) size_big
theorem lz16 : (16 : Nat) ≤ sizeLine := Nat.le_trans (by decide) size_big
theorem lz17 : (17 : Nat) ≤ sizeLine := Nat.le_trans (by decide) size_big
theorem lz18 : (18 : Nat) ≤ sizeLine := Nat.le_trans (by decide) size_big
theorem lz19 : (19 : Nat) ≤ sizeLine := Nat.le_trans (by decide) size_big
theorem lz20 : (20 : Nat) ≤ sizeLine := Nat.le_trans (by decide) size_big
theorem lz21 : (21 : Nat) ≤ sizeLine := Nat.le_trans (by decide) size_big
theorem lz22 : (22 : Nat) ≤ sizeLine := Nat.le_trans (by decide) size_big
theorem lz23 : (23 : Nat) ≤ sizeLine := Nat.le_trans (by decide) size_big
theorem lz24 : (24 : Nat) ≤ sizeLine := Nat.le_trans (by decide) size_big
end MM
end
section
set_option Elab.async false
set_option linter.all false
set_option maxRecDepth 100000
set_option maxHeartbeats 16000000
namespace Law
open PySem PySem.Spec L2 MM
noncomputable def body_is_integer : MS := mseq (mifS (mtru (misi "bool" (mvar 0))) (mret (mC (.bool false))) (mnil)) (mret (misi "int" (mvar 0)))
noncomputable def fn_is_integer : Fn := mfn 1 1 body_is_integer
noncomputable def body_is_number : MS := mret (mandV (mcall fn_is_integer (maCons (mvar 0) (maNil))) (mbin geD (mvar 0) (mC (.int 0))))
noncomputable def fn_is_number : Fn := mfn 1 1 body_is_number
noncomputable def body_is_tuple : MS := mret (mandV (misi "tuple" (mvar 0)) (morV (mbin isND (mvar 1) (mC .none)) (mbin eqSl (mrd1 lenD 0) (mvar 1))))
noncomputable def fn_is_tuple : Fn := mfn 2 2 body_is_tuple
noncomputable def body_are_numbers : MS := mret (mandV (mcall fn_is_tuple (maCons (mvar 0) (maCons (mvar 1) (maNil)))) (mcallB allD (maCons (mlc (miSeq (mvar 0)) (gset 2) (mtYes) (mcall fn_is_number (maCons (mvar 2) (maNil))) [2]) (maNil))))
noncomputable def fn_are_numbers : Fn := mfn 2 3 body_are_numbers
noncomputable def body_is_closed : MS := mseq (mifS (mtnot (mtru (mcall fn_are_numbers (maCons (mvar 1) (maCons (mrd1 lenD 0) (maNil)))))) (mret (mC (.bool false))) (mnil)) (mseq (mpre [2, 3, 4, 5, 6, 7, 8] (mfor (miZip (maCons (mvar 1) (maCons (mvar 0) (maNil)))) (gtup 2 (gsCons (gset 2) (gsCons (gset 3) (gsNil)))) (mdrp [2, 3, 4, 5, 6, 7, 8] (mseq (masg (gtup 3 (gsCons (gset 5) (gsCons (gset 6) (gsCons (gset 7) (gsNil))))) (mvar 3)) (mseq (mset 4 (mlc (miSeq (mvar 7)) (gT2 9 10) (mtYes) (mixN 1 (mvar 10)) [9, 10])) (mseq (mifS (mtnot (mtruN 4)) (mset 8 (mC (.int 0))) (mifS (mtB (mbin eqSl (mvar 5) (mC (.str (Str.ofString "pen"))))) (mset 8 (mbin fdivD (mrd1 sumD 4) (mvar 6))) (mset 8 (mif (mtB (mbin eqSl (mvar 5) (mC (.str (Str.ofString "house"))))) (mrd1 maxD 4) (mrd1 minD 4))))) (mifS (mtB (mbin gtD (mvar 2) (mvar 8))) (mret (mC (.bool false))) (mnil)))))))) (mret (mC (.bool true))))
noncomputable def fn_is_closed : Fn := mfn 2 11 body_is_closed
noncomputable def body_holds_picks : MS := mseq (mpre [2, 3, 4, 5, 6, 7] (mfor (miZip (maCons (mvar 1) (maCons (mvar 0) (maNil)))) (gtup 2 (gsCons (gset 2) (gsCons (gset 3) (gsNil)))) (mdrp [2, 3, 4, 5, 6, 7] (mseq (masg (gtup 3 (gsCons (gset 5) (gsCons (gset 6) (gsCons (gset 7) (gsNil))))) (mvar 3)) (mseq (mset 4 (mlc (miSeq (mvar 7)) (gT2 8 9) (mtYes) (mixN 1 (mvar 9)) [8, 9])) (mseq (mifS (mtand (mtB (mbin eqSl (mvar 5) (mC (.str (Str.ofString "outside"))))) (mtand (mtruN 4) (mtB (mbin ltD (mvar 2) (mrd1 minD 4))))) (mret (mC (.bool false))) (mnil)) (mifS (mtand (mtB (mbin eqSl (mvar 5) (mC (.str (Str.ofString "house"))))) (mtand (mtruN 4) (mtB (mbin ltD (mvar 2) (mrd1 maxD 4))))) (mret (mC (.bool false))) (mnil)))))))) (mret (mC (.bool true)))
noncomputable def fn_holds_picks : Fn := mfn 2 10 body_holds_picks
noncomputable def body_holds_pens : MS := mseq (mpre [4, 5, 6, 7, 8, 9] (mfor (miZip (maCons (mvar 1) (maCons (mvar 0) (maNil)))) (gtup 2 (gsCons (gset 4) (gsCons (gset 5) (gsNil)))) (mdrp [4, 5, 6, 7, 8, 9] (mseq (masg (gtup 3 (gsCons (gset 6) (gsCons (gset 7) (gsCons (gset 8) (gsNil))))) (mvar 5)) (mifS (mtand (mtB (mbin eqSl (mvar 6) (mC (.str (Str.ofString "pen"))))) (mtruN 8)) (mseq (mset 9 (mvar 3)) (mseq (mifS (mtB (mbin isntND (mvar 2) (mC .none))) (mset 9 (mcallB minD (maCons (mvar 3) (maCons (mbin fdivD (mcallB sumD (maCons (mlc (miSeq (mvar 8)) (gT2 10 11) (mtYes) (mixN 2 (mvar 11)) [10, 11]) (maNil))) (mvar 7)) (maNil))))) (mnil)) (mifS (mtB (mbin ltD (mvar 4) (mvar 9))) (mret (mC (.bool false))) (mnil)))) (mnil)))))) (mret (mC (.bool true)))
noncomputable def fn_holds_pens : Fn := mfn 4 12 body_holds_pens
noncomputable def body_is_falling : MS := mseq (mifS (mtnot (mtru (misi "tuple" (mvar 4)))) (mret (mC (.bool false))) (mnil)) (mseq (mifS (mtnot (mtru (mcallB allD (maCons (mlc (miSeq (mvar 4)) (gset 6) (mtYes) (mcall fn_are_numbers (maCons (mvar 6) (maCons (mrd1 lenD 0) (maNil)))) [6]) (maNil))))) (mret (mC (.bool false))) (mnil)) (mseq (mifS (mtB (mbin gtD (mvar 2) (mvar 3))) (mret (mC (.bool true))) (mnil)) (mseq (mifS (mtor (mtnot (mtruN 4)) (mtB (mbin geD (mbin itemSl (mixN 4 (mneg (mC (.int 1)))) (mvar 1)) (mvar 2)))) (mret (mC (.bool false))) (mnil)) (mseq (mset 5 (mC .none)) (mseq (mpre [6] (mfor (miSeq (mvar 4)) (gset 6) (mdrp [6] (mseq (mifS (mtor (mtnot (mtru (mcall fn_holds_picks (maCons (mvar 0) (maCons (mvar 6) (maNil)))))) (mtnot (mtru (mcall fn_holds_pens (maCons (mvar 0) (maCons (mvar 6) (maCons (mvar 5) (maCons (mvar 3) (maNil))))))))) (mret (mC (.bool false))) (mnil)) (mset 5 (mvar 6)))))) (mret (mC (.bool true))))))))
noncomputable def fn_is_falling : Fn := mfn 5 7 body_is_falling
noncomputable def body__law_pool : MS := mseq (mset 1 (mC (.int 52813))) (mseq (mpre [2] (mfor (miRng1 (maCons (mcallB minD (maCons (mrd1 lenD 0) (maCons (mC (.int 63)) (maNil)))) (maNil))) (gset 2) (mdrp [2] (mset 1 (mbin modD (mcallB intD (maCons (mbin addD (mbin addD (mbin addD (mbin mulD (mvar 1) (mC (.int 743))) (mbin modD (mcallB intD (maCons (mixN 0 (mvar 2)) (maNil))) (mC (.int 1000003)))) (mbin mulD (mC (.int 37)) (mvar 2))) (mC (.int 3))) (maNil))) (mC (.int 2147483647))))))) (mseq (mset 3 (mC (.int 0))) (mseq (mifS (mtand (mtB (mbin gtD (mrd1 lenD 0) (mC (.int 0)))) (mtB (mbin geD (mcallB intD (maCons (mixN 0 (mC (.int 0))) (maNil))) (mbin powD (mC (.int 10)) (mC (.int 18)))))) (mset 3 (mbin modD (mcallB intD (maCons (mixN 0 (mC (.int 0))) (maNil))) (mbin mulD (mbin mulD (mbin mulD (mbin powD (mC (.int 10)) (mC (.int 64))) (mbin powD (mC (.int 10)) (mC (.int 64)))) (mbin powD (mC (.int 10)) (mC (.int 64)))) (mbin powD (mC (.int 10)) (mC (.int 64)))))) (mnil)) (mret (mlst (maCons (mvar 3) (maCons (mvar 1) (maNil))))))))
noncomputable def fn__law_pool : Fn := mfn 1 4 body__law_pool
noncomputable def body__law_draw : MS := mseq (mifS (mtB (mbin gtD (mixN 0 (mC (.int 0))) (mC (.int 0)))) (mseq (mset 2 (mbin modD (mcallB intD (maCons (mixN 0 (mC (.int 0))) (maNil))) (mvar 1))) (mseq (msub 0 (mbin fdivD (mixN 0 (mC (.int 0))) (mvar 1)) (mC (.int 0))) (mret (mmove 2)))) (mnil)) (mseq (msub 0 (mbin modD (mcallB intD (maCons (mbin addD (mbin mulD (mixN 0 (mC (.int 1))) (mC (.int 30269))) (mC (.int 13))) (maNil))) (mC (.int 2147483647))) (mC (.int 1))) (mret (mbin modD (mcallB intD (maCons (mbin fdivD (mixN 0 (mC (.int 1))) (mC (.int 128))) (maNil))) (mvar 1))))
noncomputable def fn__law_draw : Fn := mfn 2 3 body__law_draw
noncomputable def body__law_order : MS := mseq (mset 2 (mlstRg1 (mvar 1))) (mret (mlc (miRng1 (maCons (mvar 1) (maNil))) (gset 3) (mtYes) (mpop 2 (mcall fn__law_draw (maSlot 0 (maCons (mrd1 lenD 2) (maNil))))) [3]))
noncomputable def fn__law_order : Fn := mfn 2 4 body__law_order
noncomputable def body__law_book : MS := mseq (mset 3 (mrep (mlst (maCons (mC .none) (maNil))) (mrd1 lenD 1))) (mseq (mpre [4, 5, 6, 7] (mfor (miRng1 (maCons (mrd1 lenD 1) (maNil))) (gset 4) (mdrp [4, 5, 6, 7] (mseq (mset 5 (mlst (maNil))) (mseq (mpre [6, 7] (mfor (miSeq (mbin itemSl (mixN 1 (mvar 4)) (mC (.int 2)))) (gset 6) (mdrp [6, 7] (mseq (mset 7 (mbin itemSl (mC (.str (Str.ofString "abcdefghijklmnopqrstuvwxyz"))) (mcall fn__law_draw (maSlot 0 (maCons (mC (.int 26)) (maNil)))))) (mdrop (mapp 5 (mtup (maCons (mbin addD (mbin mulD (mvar 7) (mbin addD (mC (.int 1)) (mcall fn__law_draw (maSlot 0 (maCons (mC (.int 3)) (maNil)))))) (mcallB strD (maCons (mrd1 lenD 5) (maNil)))) (maCons (mixN 2 (mvar 6)) (maNil)))))))))) (msub 3 (mtup (maCons (mbin itemSl (mixN 1 (mvar 4)) (mC (.int 0))) (maCons (mbin itemSl (mixN 1 (mvar 4)) (mC (.int 1))) (maCons (mtupN 5) (maNil))))) (mixN 2 (mvar 4)))))))) (mret (mtupN 3)))
noncomputable def fn__law_book : Fn := mfn 3 8 body__law_book
noncomputable def body__law_drawn : MS := mseq (mset 2 (mlc (miRng1 (maCons (mvar 1) (maNil))) (gset 6) (mtYes) (mbin itemSl (mtup (maCons (mC (.str (Str.ofString "pen"))) (maCons (mC (.str (Str.ofString "pen"))) (maCons (mC (.str (Str.ofString "pen"))) (maCons (mC (.str (Str.ofString "outside"))) (maCons (mC (.str (Str.ofString "house"))) (maNil))))))) (mcall fn__law_draw (maSlot 0 (maCons (mC (.int 5)) (maNil))))) [6])) (mseq (msub 2 (mC (.str (Str.ofString "pen"))) (mcall fn__law_draw (maSlot 0 (maCons (mvar 1) (maNil))))) (mseq (mset 3 (mlst (maNil))) (mseq (mpre [4] (mfor (miRng1 (maCons (mvar 1) (maNil))) (gset 4) (mdrp [4] (mifS (mtand (mtB (mbin neSl (mixN 2 (mvar 4)) (mC (.str (Str.ofString "pen"))))) (mtB (mbin gtD (mbm cntD (mslcN 2 (moNone) (moSome (mvar 4))) (mixN 2 (mvar 4))) (mC (.int 1))))) (msub 2 (mC (.str (Str.ofString "pen"))) (mvar 4)) (mnil))))) (mseq (mpre [4, 5] (mfor (miRng1 (maCons (mvar 1) (maNil))) (gset 4) (mdrp [4, 5] (mseq (mset 5 (mlc (miRng1 (maCons (mvar 1) (maNil))) (gset 6) (mtor (mtB (mbin eqSl (mixN 2 (mvar 4)) (mC (.str (Str.ofString "pen"))))) (mtor (mtB (mbin eqSl (mixN 2 (mvar 6)) (mC (.str (Str.ofString "pen"))))) (mtB (mbin gtD (mvar 6) (mvar 4))))) (mvar 6) [6])) (mseq (mset 5 (mlc (miRng1 (maCons (mbin itemSl (mtup (maCons (mC (.int 3)) (maCons (mC (.int 2)) (maCons (mC (.int 1)) (maCons (mC (.int 3)) (maCons (mC (.int 0)) (maNil))))))) (mcall fn__law_draw (maSlot 0 (maCons (mC (.int 5)) (maNil))))) (maNil))) (gset 6) (mtYes) (mixN 5 (mcall fn__law_draw (maSlot 0 (maCons (mrd1 lenD 5) (maNil))))) [6])) (mdrop (mapp 3 (mtup (maCons (mixN 2 (mvar 4)) (maCons (mif (mtB (mbin eqSl (mixN 2 (mvar 4)) (mC (.str (Str.ofString "pen"))))) (mbin addD (mC (.int 1)) (mcall fn__law_draw (maSlot 0 (maCons (mC (.int 4)) (maNil))))) (mC (.int 1))) (maCons (mvar 5) (maNil)))))))))))) (mret (mmove 3))))))
noncomputable def fn__law_drawn : Fn := mfn 2 7 body__law_drawn
noncomputable def body__law_put : MS := mret (mbin addD (mbin addD (mslcN 0 (moNone) (moSome (mvar 1))) (mtup (maCons (mvar 2) (maNil)))) (mslcN 0 (moSome (mbin addD (mvar 1) (mC (.int 1)))) (moNone)))
noncomputable def fn__law_put : Fn := mfn 3 3 body__law_put
noncomputable def body__law_made : MS := mseq (mset 3 (mif (mtruN 2) (mC (.int 12)) (mC (.int 4)))) (mseq (mset 4 (mlc (miRng1 (maCons (mC (.int 4)) (maNil))) (gset 13) (mtYes) (mbin addD (mC (.int 1)) (mcall fn__law_draw (maSlot 0 (maCons (mvar 3) (maNil))))) [13])) (mseq (mset 5 (mbin addD (mC (.int 1)) (mcall fn__law_draw (maSlot 0 (maCons (mbin mulD (mixN 4 (mC (.int 0))) (mixN 4 (mC (.int 1)))) (maNil)))))) (mseq (mset 6 (mbin addD (mC (.int 1)) (mcall fn__law_draw (maSlot 0 (maCons (mbin fdivD (mbin mulD (mixN 4 (mC (.int 0))) (mixN 4 (mC (.int 1)))) (mvar 5)) (maNil)))))) (mseq (mset 7 (mif (mtruN 2) (mbin subD (mbin powD (mC (.int 10)) (mC (.int 12))) (mcall fn__law_draw (maSlot 0 (maCons (mC (.int 99)) (maNil))))) (mbin addD (mC (.int 1)) (mcall fn__law_draw (maSlot 0 (maCons (mC (.int 12)) (maNil))))))) (mseq (mset 8 (mbin addD (mbin addD (mbin fdivD (mbin mulD (mixN 4 (mC (.int 2))) (mixN 4 (mC (.int 3)))) (mvar 7)) (mC (.int 1))) (mcall fn__law_draw (maSlot 0 (maCons (mC (.int 3)) (maNil)))))) (mseq (mset 9 (mvar 1)) (mseq (mset 10 (mlst (maCons (mlst (maCons (mvar 9) (maCons (mbin addD (mvar 9) (mC (.int 1))) (maNil)))) (maCons (mlst (maCons (mvar 9) (maCons (mbin addD (mvar 9) (mC (.int 2))) (maNil)))) (maCons (mlst (maCons (mbin addD (mvar 9) (mC (.int 2))) (maCons (mvar 9) (maNil)))) (maCons (mlst (maCons (mbin addD (mvar 9) (mC (.int 2))) (maCons (mbin addD (mvar 9) (mC (.int 3))) (maNil)))) (maNil))))))) (mseq (mset 10 (mlc (miSeq (mvar 10)) (gset 14) (mtYes) (mstep (mvar 14) (mbin subD (mC (.int 1)) (mbin mulD (mC (.int 2)) (mcall fn__law_draw (maSlot 0 (maCons (mC (.int 2)) (maNil))))))) [14])) (mseq (mset 11 (mbin itemSl (mtup (maCons (mC (.str (Str.ofString "pen"))) (maCons (mC (.str (Str.ofString "outside"))) (maCons (mC (.str (Str.ofString "house"))) (maNil))))) (mcall fn__law_draw (maSlot 0 (maCons (mC (.int 3)) (maNil)))))) (mseq (mset 12 (mlst (maCons (mtup (maCons (mC (.str (Str.ofString "pen"))) (maCons (mvar 5) (maCons (mrep (mlst (maCons (mbin addD (mvar 9) (mC (.int 1))) (maNil))) (mixN 4 (mC (.int 0)))) (maNil))))) (maCons (mtup (maCons (mC (.str (Str.ofString "pen"))) (maCons (mvar 6) (maCons (mrep (mlst (maCons (mvar 9) (maNil))) (mixN 4 (mC (.int 1)))) (maNil))))) (maCons (mtup (maCons (mC (.str (Str.ofString "pen"))) (maCons (mvar 7) (maCons (mrep (mlst (maCons (mbin addD (mvar 9) (mC (.int 3))) (maNil))) (mixN 4 (mC (.int 2)))) (maNil))))) (maCons (mtup (maCons (mC (.str (Str.ofString "pen"))) (maCons (mvar 8) (maCons (mrep (mlst (maCons (mbin addD (mvar 9) (mC (.int 2))) (maNil))) (mixN 4 (mC (.int 3)))) (maNil))))) (maCons (mtup (maCons (mC (.str (Str.ofString "outside"))) (maCons (mC (.int 1)) (maCons (mixN 10 (mC (.int 0))) (maNil))))) (maCons (mtup (maCons (mC (.str (Str.ofString "house"))) (maCons (mC (.int 1)) (maCons (mixN 10 (mC (.int 1))) (maNil))))) (maCons (mtup (maCons (mC (.str (Str.ofString "outside"))) (maCons (mC (.int 1)) (maCons (mixN 10 (mC (.int 2))) (maNil))))) (maCons (mtup (maCons (mC (.str (Str.ofString "house"))) (maCons (mC (.int 1)) (maCons (mixN 10 (mC (.int 3))) (maNil))))) (maCons (mtup (maCons (mvar 11) (maCons (mif (mtB (mbin eqSl (mvar 11) (mC (.str (Str.ofString "pen"))))) (mbin addD (mC (.int 1)) (mcall fn__law_draw (maSlot 0 (maCons (mC (.int 5)) (maNil))))) (mC (.int 1))) (maCons (mlst (maNil)) (maNil))))) (maNil)))))))))))) (mret (mlst (maCons (mvar 12) (maCons (mtup (maCons (mixN 4 (mC (.int 0))) (maCons (mvar 5) (maNil)))) (maCons (mtup (maCons (mbin addD (mvar 8) (mixN 4 (mC (.int 2)))) (maCons (mbin addD (mixN 4 (mC (.int 3))) (mvar 7)) (maNil)))) (maCons (mixN 4 (mC (.int 2))) (maCons (mvar 7) (maCons (mvar 10) (maNil)))))))))))))))))))
noncomputable def fn__law_made : Fn := mfn 3 15 body__law_made
noncomputable def body__law_is_table : MS := mseq (mifS (mtor (mtnot (mtru (misi "tuple" (mvar 1)))) (mtB (mbin neSl (mrd1 lenD 1) (mrd1 lenD 0)))) (mret (mC (.bool false))) (mnil)) (mret (mbin eqSl (mcallB lenD (maCons (mlc (miSeq (mvar 1)) (gset 2) (mtor (mtnot (mtru (misi "int" (mvar 2)))) (mtor (mtru (misi "bool" (mvar 2))) (mtB (mbin ltD (mvar 2) (mC (.int 0)))))) (mvar 2) [2]) (maNil))) (mC (.int 0))))
noncomputable def fn__law_is_table : Fn := mfn 2 3 body__law_is_table
noncomputable def body__law_is_closed : MS := mseq (mifS (mtnot (mtru (mcall fn__law_is_table (maCons (mvar 0) (maCons (mvar 1) (maNil)))))) (mret (mC (.bool false))) (mnil)) (mseq (mpre [2, 3, 4] (mfor (miRng1 (maCons (mrd1 lenD 0) (maNil))) (gset 2) (mdrp [2, 3, 4] (mseq (mset 3 (mlc (miSeq (mbin itemSl (mixN 0 (mvar 2)) (mC (.int 2)))) (gset 5) (mtYes) (mixN 1 (mixN 5 (mC (.int 1)))) [5])) (mseq (mset 4 (mC (.int 0))) (mseq (mifS (mtB (mbin gtD (mrd1 lenD 3) (mC (.int 0)))) (mset 4 (mif (mtB (mbin eqSl (mbin itemSl (mixN 0 (mvar 2)) (mC (.int 0))) (mC (.str (Str.ofString "outside"))))) (mrd1 minD 3) (mif (mtB (mbin eqSl (mbin itemSl (mixN 0 (mvar 2)) (mC (.int 0))) (mC (.str (Str.ofString "house"))))) (mrd1 maxD 3) (mrd1 sumD 3)))) (mnil)) (mifS (mtB (mbin gtD (mbin mulD (mixN 1 (mvar 2)) (mbin itemSl (mixN 0 (mvar 2)) (mC (.int 1)))) (mvar 4))) (mret (mC (.bool false))) (mnil)))))))) (mret (mC (.bool true))))
noncomputable def fn__law_is_closed : Fn := mfn 2 6 body__law_is_closed
noncomputable def body__law_least : MS := mseq (mset 5 (mbin itemSl (mixN 0 (mvar 1)) (mC (.int 2)))) (mseq (mifS (mtB (mbin eqSl (mrd1 lenD 5) (mC (.int 0)))) (mret (mC (.int 0))) (mnil)) (mseq (mifS (mtB (mbin eqSl (mbin itemSl (mixN 0 (mvar 1)) (mC (.int 0))) (mC (.str (Str.ofString "outside"))))) (mret (mcallB minD (maCons (mlc (miSeq (mvar 5)) (gset 6) (mtYes) (mixN 2 (mixN 6 (mC (.int 1)))) [6]) (maNil)))) (mnil)) (mseq (mifS (mtB (mbin eqSl (mbin itemSl (mixN 0 (mvar 1)) (mC (.int 0))) (mC (.str (Str.ofString "house"))))) (mret (mcallB maxD (maCons (mlc (miSeq (mvar 5)) (gset 6) (mtYes) (mixN 2 (mixN 6 (mC (.int 1)))) [6]) (maNil)))) (mnil)) (mseq (mifS (mtB (mbin isND (mvar 3) (mC .none))) (mret (mmove 4)) (mnil)) (mret (mcallB minD (maCons (mvar 4) (maCons (mbin fdivD (mcallB sumD (maCons (mlc (miSeq (mvar 5)) (gset 6) (mtYes) (mixN 3 (mixN 6 (mC (.int 1)))) [6]) (maNil))) (mbin itemSl (mixN 0 (mvar 1)) (mC (.int 1)))) (maNil)))))))))
noncomputable def fn__law_least : Fn := mfn 5 7 body__law_least
noncomputable def body__law_is_falling : MS := mseq (mifS (mtor (mtnot (mtru (misi "tuple" (mvar 4)))) (mtB (mbin gtD (mcallB lenD (maCons (mlc (miSeq (mvar 4)) (gset 7) (mtnot (mtru (mcall fn__law_is_table (maCons (mvar 0) (maCons (mvar 7) (maNil)))))) (mvar 7) [7]) (maNil))) (mC (.int 0))))) (mret (mC (.bool false))) (mnil)) (mseq (mifS (mtB (mbin gtD (mvar 2) (mvar 3))) (mret (mC (.bool true))) (mnil)) (mseq (mifS (mtor (mtB (mbin eqSl (mrd1 lenD 4) (mC (.int 0)))) (mtB (mbin geD (mbin itemSl (mixN 4 (mneg (mC (.int 1)))) (mvar 1)) (mvar 2)))) (mret (mC (.bool false))) (mnil)) (mseq (mpre [5, 6] (mfor (miRng1 (maCons (mrd1 lenD 4) (maNil))) (gset 5) (mdrp [5, 6] (mpre [6] (mfor (miRng1 (maCons (mrd1 lenD 0) (maNil))) (gset 6) (mdrp [6] (mifS (mtB (mbin ltD (mbin itemSl (mixN 4 (mvar 5)) (mvar 6)) (mcall fn__law_least (maCons (mvar 0) (maCons (mvar 6) (maCons (mixN 4 (mvar 5)) (maCons (mif (mtB (mbin gtD (mvar 5) (mC (.int 0)))) (mixN 4 (mbin subD (mvar 5) (mC (.int 1)))) (mC .none)) (maCons (mvar 3) (maNil))))))))) (mret (mC (.bool false))) (mnil)))))))) (mret (mC (.bool true))))))
noncomputable def fn__law_is_falling : Fn := mfn 5 8 body__law_is_falling
noncomputable def body__law_table : MS := mseq (mset 5 (mrep (mlst (maCons (mC .none) (maNil))) (mrd1 lenD 1))) (mseq (mpre [6] (mfor (miRng1 (maCons (mrd1 lenD 1) (maNil))) (gset 6) (mdrp [6] (mifS (mtor (mtB (mbin eqSl (mbin itemSl (mixN 1 (mvar 6)) (mC (.int 0))) (mC (.str (Str.ofString "pen"))))) (mtB (mbin eqSl (mcallB lenD (maCons (mbin itemSl (mixN 1 (mvar 6)) (mC (.int 2))) (maNil))) (mC (.int 0))))) (msub 5 (mbin addD (mcall fn__law_least (maCons (mvar 1) (maCons (mvar 6) (maSlot 5 (maCons (mvar 2) (maCons (mvar 3) (maNil))))))) (mif (mtB (mbin gtD (mvar 4) (mC (.int 0)))) (mcall fn__law_draw (maSlot 0 (maCons (mvar 4) (maNil)))) (mC (.int 0)))) (mvar 6)) (mnil))))) (mseq (mpre [6, 7] (mfor (miRng1 (maCons (mrd1 lenD 1) (maNil))) (gset 7) (mdrp [6, 7] (mpre [6] (mfor (miRng1 (maCons (mrd1 lenD 1) (maNil))) (gset 6) (mdrp [6] (mifS (mtand (mtB (mbin isND (mixN 5 (mvar 6)) (mC .none))) (mtB (mbin eqSl (mcallB lenD (maCons (mlc (miSeq (mbin itemSl (mixN 1 (mvar 6)) (mC (.int 2)))) (gset 8) (mtB (mbin isND (mixN 5 (mixN 8 (mC (.int 1)))) (mC .none))) (mvar 8) [8]) (maNil))) (mC (.int 0))))) (msub 5 (mbin addD (mcall fn__law_least (maCons (mvar 1) (maCons (mvar 6) (maSlot 5 (maCons (mvar 2) (maCons (mvar 3) (maNil))))))) (mif (mtB (mbin gtD (mvar 4) (mC (.int 0)))) (mcall fn__law_draw (maSlot 0 (maCons (mvar 4) (maNil)))) (mC (.int 0)))) (mvar 6)) (mnil)))))))) (mret (mtupN 5))))
noncomputable def fn__law_table : Fn := mfn 5 9 body__law_table
noncomputable def body__law_tables : MS := mseq (mset 6 (mlst (maCons (mcall fn__law_table (maSlot 0 (maCons (mvar 1) (maCons (mC .none) (maCons (mvar 4) (maCons (mvar 5) (maNil))))))) (maNil)))) (mseq (mpre [] (mwhile (mtand (mtB (mbin geD (mbin itemSl (mixN 6 (mneg (mC (.int 1)))) (mvar 2)) (mvar 3))) (mtor (mtB (mbin ltD (mrd1 lenD 6) (mC (.int 3)))) (mtB (mbin neSl (mixN 6 (mneg (mC (.int 1)))) (mixN 6 (mneg (mC (.int 2)))))))) (mdrp [] (mdrop (mapp 6 (mcall fn__law_table (maSlot 0 (maCons (mvar 1) (maCons (mixN 6 (mneg (mC (.int 1)))) (maCons (mvar 4) (maCons (mif (mtB (mbin ltD (mrd1 lenD 6) (mC (.int 2)))) (mvar 5) (mC (.int 0))) (maNil)))))))))))) (mret (mtupN 6)))
noncomputable def fn__law_tables : Fn := mfn 6 7 body__law_tables
noncomputable def body__law_falling : MS := mseq (mset 2 (mrep (mlst (maCons (mvar 1) (maNil))) (mrd1 lenD 0))) (mseq (mset 3 (mC (.bool true))) (mseq (mpre [4, 5, 6] (mwhile (mtruN 3) (mdrp [4, 5, 6] (mseq (mset 3 (mC (.bool false))) (mpre [4, 5, 6] (mfor (miRng1 (maCons (mrd1 lenD 0) (maNil))) (gset 4) (mdrp [4, 5, 6] (mseq (mset 5 (mlc (miSeq (mbin itemSl (mixN 0 (mvar 4)) (mC (.int 2)))) (gset 7) (mtYes) (mixN 2 (mixN 7 (mC (.int 1)))) [7])) (mseq (mset 6 (mC (.int 0))) (mseq (mifS (mtB (mbin gtD (mrd1 lenD 5) (mC (.int 0)))) (mset 6 (mif (mtB (mbin eqSl (mbin itemSl (mixN 0 (mvar 4)) (mC (.int 0))) (mC (.str (Str.ofString "outside"))))) (mrd1 minD 5) (mif (mtB (mbin eqSl (mbin itemSl (mixN 0 (mvar 4)) (mC (.int 0))) (mC (.str (Str.ofString "house"))))) (mrd1 maxD 5) (mbin fdivD (mrd1 sumD 5) (mbin itemSl (mixN 0 (mvar 4)) (mC (.int 1))))))) (mnil)) (mifS (mtB (mbin ltD (mvar 6) (mixN 2 (mvar 4)))) (mseq (msub 2 (mvar 6) (mvar 4)) (mset 3 (mC (.bool true)))) (mnil)))))))))))) (mret (mtupN 2))))
noncomputable def fn__law_falling : Fn := mfn 2 8 body__law_falling
noncomputable def body__law_odd : MS := mseq (mset 3 (mcall fn__law_draw (maSlot 0 (maCons (mrd1 lenD 1) (maNil))))) (mseq (mset 4 (mixN 1 (mvar 3))) (mseq (mifS (mtB (mbin ltD (mvar 2) (mC (.int 8)))) (mret (mcall fn__law_put (maCons (mvar 1) (maCons (mvar 3) (maCons (mbin itemSl (mlst (maCons (mbin addD (mvar 4) (mC (.int 1))) (maCons (mbin subD (mvar 4) (mC (.int 1))) (maCons (mbin eqSl (mvar 4) (mC (.int 1))) (maCons (mC .none) (maCons (mbin powD (mC (.int 10)) (mC (.int 58))) (maCons (mC (.str (Str.ofString "0"))) (maCons (mtup (maCons (mvar 4) (maNil))) (maCons (mC (.int 0)) (maNil)))))))))) (mvar 2)) (maNil)))))) (mnil)) (mret (mbin itemSl (mlst (maCons (mbin addD (mslcN 1 (moNone) (moSome (mvar 3))) (mslcN 1 (moSome (mbin addD (mvar 3) (mC (.int 1)))) (moNone))) (maCons (mbin addD (mvar 1) (mtup (maCons (mC (.int 0)) (maNil)))) (maCons (mlstN 1) (maCons (mstep (mvar 1) (mneg (mC (.int 1)))) (maCons (mtup (maNil)) (maCons (mC .none) (maCons (mcallB tupD (maCons (mlc (miSeq (mvar 1)) (gset 5) (mtYes) (mbin mulD (mC (.int 2)) (mvar 5)) [5]) (maNil))) (maCons (mcallB tupD (maCons (mlc (miSeq (mvar 1)) (gset 5) (mtYes) (mbin addD (mvar 5) (mC (.int 1))) [5]) (maNil))) (maNil)))))))))) (mbin subD (mvar 2) (mC (.int 8)))))))
noncomputable def fn__law_odd : Fn := mfn 3 6 body__law_odd
noncomputable def body__law_bent : MS := mseq (mset 3 (mrd1 lenD 1)) (mseq (mset 4 (mcall fn__law_draw (maSlot 0 (maCons (mvar 3) (maNil))))) (mseq (mifS (mtB (mbin ltD (mvar 2) (mC (.int 16)))) (mret (mcall fn__law_put (maCons (mvar 1) (maCons (mvar 4) (maCons (mcall fn__law_odd (maSlot 0 (maCons (mixN 1 (mvar 4)) (maCons (mvar 2) (maNil))))) (maNil)))))) (mnil)) (mret (mbin itemSl (mlst (maCons (mslcN 1 (moNone) (moSome (mneg (mC (.int 1))))) (maCons (mslcN 1 (moSome (mC (.int 1))) (moNone)) (maCons (mbin addD (mvar 1) (mslcN 1 (moSome (mneg (mC (.int 1)))) (moNone))) (maCons (mbin addD (mslcN 1 (moNone) (moSome (mvar 4))) (mslcN 1 (moSome (mbin addD (mvar 4) (mC (.int 1)))) (moNone))) (maCons (mstep (mvar 1) (mneg (mC (.int 1)))) (maCons (mlstN 1) (maCons (mtup (maNil)) (maCons (mbin addD (mbin addD (mslcN 1 (moNone) (moSome (mvar 4))) (mslcN 1 (moSome (mvar 4)) (moSome (mbin addD (mvar 4) (mC (.int 1)))))) (mslcN 1 (moSome (mvar 4)) (moNone))) (maCons (mC .none) (maCons (mtup (maCons (mvar 1) (maNil))) (maCons (mbin addD (mslcN 1 (moNone) (moSome (mC (.int 1)))) (mslcN 1 (moSome (mneg (mC (.int 1)))) (moNone))) (maNil))))))))))))) (mbin subD (mvar 2) (mC (.int 16)))))))
noncomputable def fn__law_bent : Fn := mfn 3 5 body__law_bent
noncomputable def body__law_says : MS := mseq (msub 2 (mbin addD (mixN 2 (mbin addD (mvar 3) (mcallB intD (maCons (mvar 1) (maNil))))) (mC (.int 1))) (mbin addD (mvar 3) (mcallB intD (maCons (mvar 1) (maNil))))) (mret (mandV (misi "bool" (mvar 0)) (mbin eqSl (mvar 0) (mvar 1))))
noncomputable def fn__law_says : Fn := mfn 4 4 body__law_says
noncomputable def body__law_asks : MS := mseq (mset 6 (mcall fn__law_is_falling (maCons (mvar 0) (maCons (mvar 1) (maCons (mvar 2) (maCons (mvar 3) (maCons (mvar 4) (maNil)))))))) (mret (mcall fn__law_says (maCons (mcall fn_is_falling (maCons (mvar 0) (maCons (mvar 1) (maCons (mvar 2) (maCons (mvar 3) (maCons (mvar 4) (maNil))))))) (maCons (mvar 6) (maSlot 5 (maCons (mC (.int 0)) (maNil)))))))
noncomputable def fn__law_asks : Fn := mfn 6 7 body__law_asks
noncomputable def body__law_lowered : MS := mseq (mset 3 (mlst (maNil))) (mseq (mpre [4, 5, 6, 7] (mfor (miSeq (mtup (maCons (mC (.str (Str.ofString "pen"))) (maCons (mC (.str (Str.ofString "outside"))) (maCons (mC (.str (Str.ofString "house"))) (maNil)))))) (gset 4) (mdrp [4, 5, 6, 7] (mpre [5, 6, 7] (mfor (miSeq (mtup (maCons (mC (.int 0)) (maCons (mcall fn__law_draw (maSlot 0 (maCons (mrd1 lenD 2) (maNil)))) (maNil))))) (gset 5) (mdrp [5, 6, 7] (mseq (mset 6 (mlc (miRng1 (maCons (mrd1 lenD 1) (maNil))) (gset 7) (mtand (mtB (mbin eqSl (mbin itemSl (mixN 1 (mvar 7)) (mC (.int 0))) (mvar 4))) (mtand (mtB (mbin gtD (mcallB lenD (maCons (mbin itemSl (mixN 1 (mvar 7)) (mC (.int 2))) (maNil))) (mC (.int 0)))) (mtB (mbin gtD (mbin itemSl (mixN 2 (mvar 5)) (mvar 7)) (mC (.int 0)))))) (mvar 7) [7])) (mifS (mtB (mbin gtD (mrd1 lenD 6) (mC (.int 0)))) (mseq (mset 7 (mixN 6 (mcall fn__law_draw (maSlot 0 (maCons (mrd1 lenD 6) (maNil)))))) (mdrop (mapp 3 (mcall fn__law_put (maCons (mvar 2) (maCons (mvar 5) (maCons (mcall fn__law_put (maCons (mixN 2 (mvar 5)) (maCons (mvar 7) (maCons (mbin subD (mbin itemSl (mixN 2 (mvar 5)) (mvar 7)) (mC (.int 1))) (maNil))))) (maNil)))))))) (mnil))))))))) (mret (mmove 3)))
noncomputable def fn__law_lowered : Fn := mfn 3 8 body__law_lowered
noncomputable def body__law_scene : MS := mseq (mset 5 (mcall fn__law_falling (maCons (mvar 1) (maCons (mvar 3) (maNil))))) (mseq (mset 6 (mbin addD (mixN 5 (mvar 2)) (mC (.int 1)))) (mseq (mset 7 (mif (mtB (mbin leD (mvar 6) (mvar 3))) (mcall fn__law_tables (maSlot 0 (maCons (mvar 1) (maCons (mvar 2) (maCons (mvar 6) (maCons (mvar 3) (maCons (mC (.int 0)) (maNil)))))))) (mtup (maCons (mvar 5) (maNil))))) (mseq (mset 8 (mif (mtB (mbin leD (mvar 6) (mvar 3))) (mcall fn__law_tables (maSlot 0 (maCons (mvar 1) (maCons (mvar 2) (maCons (mvar 6) (maCons (mvar 3) (maCons (mC (.int 3)) (maNil)))))))) (mtup (maCons (mbin mulD (mtup (maCons (mbin powD (mC (.int 10)) (mC (.int 50))) (maNil))) (mrd1 lenD 1)) (maNil))))) (mseq (mset 9 (mbin addD (mlst (maCons (mvar 7) (maCons (mvar 8) (maCons (mslcN 7 (moNone) (moSome (mneg (mC (.int 1))))) (maNil))))) (mif (mtB (mbin leD (mvar 6) (mvar 3))) (mcall fn__law_lowered (maSlot 0 (maCons (mvar 1) (maCons (mvar 7) (maNil))))) (mlst (maCons (mtup (maNil)) (maNil)))))) (mseq (mset 9 (mbin addD (mvar 9) (mlc (miRng1 (maCons (mC (.int 10)) (maNil))) (gset 12) (mtYes) (mcall fn__law_bent (maSlot 0 (maCons (mif (mtB (mbin eqSl (mbin modD (mvar 12) (mC (.int 2))) (mC (.int 1)))) (mvar 8) (mvar 7)) (maCons (mcall fn__law_draw (maSlot 0 (maCons (mC (.int 27)) (maNil)))) (maNil))))) [12]))) (mseq (mpre [10] (mfor (miSeq (mvar 9)) (gset 10) (mdrp [10] (mifS (mtnot (mtru (mcall fn__law_asks (maCons (mvar 1) (maCons (mvar 2) (maCons (mvar 6) (maCons (mvar 3) (maCons (mvar 10) (maSlot 4 (maNil)))))))))) (mret (mC (.bool false))) (mnil))))) (mseq (mpre [10, 11] (mfor (miSeq (mtup (maCons (mtup (maCons (mcallB maxD (maCons (mC (.int 1)) (maCons (mbin subD (mvar 6) (mC (.int 1))) (maNil)))) (maCons (mvar 3) (maNil)))) (maCons (mtup (maCons (mbin addD (mvar 6) (mC (.int 1))) (maCons (mvar 3) (maNil)))) (maCons (mtup (maCons (mvar 6) (maCons (mbin addD (mvar 3) (mC (.int 1))) (maNil)))) (maCons (mtup (maCons (mvar 6) (maCons (mcallB maxD (maCons (mC (.int 1)) (maCons (mbin subD (mvar 3) (mC (.int 1))) (maNil)))) (maNil)))) (maCons (mtup (maCons (mC (.int 1)) (maCons (mvar 3) (maNil)))) (maNil)))))))) (gset 11) (mdrp [10, 11] (mpre [10] (mfor (miSeq (mtup (maCons (mvar 7) (maCons (mvar 8) (maCons (mtup (maNil)) (maNil)))))) (gset 10) (mdrp [10] (mifS (mtnot (mtru (mcall fn__law_asks (maCons (mvar 1) (maCons (mvar 2) (maCons (mixN 11 (mC (.int 0))) (maCons (mixN 11 (mC (.int 1))) (maCons (mvar 10) (maSlot 4 (maNil)))))))))) (mret (mC (.bool false))) (mnil)))))))) (mseq (mset 9 (mlst (maCons (mvar 5) (maCons (mbin mulD (mtup (maCons (mC (.int 0)) (maNil))) (mrd1 lenD 1)) (maCons (mcallB tupD (maCons (mlc (miSeq (mvar 5)) (gset 13) (mtYes) (mbin mulD (mC (.int 7)) (mvar 13)) [13]) (maNil))) (maCons (mixN 7 (mC (.int 0))) (maNil))))))) (mseq (mset 9 (mbin addD (mvar 9) (mlc (miRng1 (maCons (mC (.int 8)) (maNil))) (gset 12) (mtYes) (mcall fn__law_odd (maSlot 0 (maCons (mvar 5) (maCons (mcall fn__law_draw (maSlot 0 (maCons (mC (.int 16)) (maNil)))) (maNil))))) [12]))) (mseq (mpre [10] (mfor (miSeq (mvar 9)) (gset 10) (mdrp [10] (mifS (mtnot (mtru (mcall fn__law_says (maCons (mcall fn_is_closed (maCons (mvar 1) (maCons (mvar 10) (maNil)))) (maCons (mcall fn__law_is_closed (maCons (mvar 1) (maCons (mvar 10) (maNil)))) (maSlot 4 (maCons (mC (.int 2)) (maNil)))))))) (mret (mC (.bool false))) (mnil))))) (mret (mC (.bool true)))))))))))))
noncomputable def fn__law_scene : Fn := mfn 5 14 body__law_scene
noncomputable def body_law : MS := mseq (mset 1 (mcall fn__law_pool (maCons (mvar 0) (maNil)))) (mseq (mset 2 (mbin eqSl (mcall fn__law_draw (maSlot 1 (maCons (mC (.int 13)) (maNil)))) (mC (.int 9)))) (mseq (mset 3 (mbin addD (mC (.int 9)) (mif (mtruN 2) (mbin addD (mC (.int 9)) (mcall fn__law_draw (maSlot 1 (maCons (mC (.int 7)) (maNil))))) (mbin addD (mC (.int 2)) (mcall fn__law_draw (maSlot 1 (maCons (mC (.int 5)) (maNil)))))))) (mseq (mset 4 (mcall fn__law_drawn (maSlot 1 (maCons (mbin subD (mvar 3) (mC (.int 9))) (maNil))))) (mseq (mset 5 (mcall fn__law_made (maSlot 1 (maCons (mbin subD (mvar 3) (mC (.int 9))) (maCons (mC (.bool false)) (maNil)))))) (mseq (mset 6 (mcall fn__law_order (maSlot 1 (maCons (mvar 3) (maNil))))) (mseq (mset 7 (mcall fn__law_book (maSlot 1 (maCons (mbin addD (mvar 4) (mixN 5 (mC (.int 0)))) (maCons (mvar 6) (maNil)))))) (mseq (mset 8 (mbin addD (mC (.int 1)) (mcall fn__law_draw (maSlot 1 (maCons (mif (mtruN 2) (mC (.int 200)) (mC (.int 12))) (maNil)))))) (mseq (mset 9 (mbin subD (mvar 3) (mC (.int 9)))) (mseq (mset 10 (mrep (mlst (maCons (mC (.int 0)) (maNil))) (mC (.int 4)))) (mseq (mpre [11] (mfor (miSeq (mtup (maCons (mixN 6 (mbin addD (mvar 9) (mbin itemSl (mtup (maCons (mC (.int 2)) (maCons (mC (.int 3)) (maCons (mC (.int 6)) (maCons (mC (.int 7)) (maNil)))))) (mcall fn__law_draw (maSlot 1 (maCons (mC (.int 4)) (maNil))))))) (maCons (mixN 6 (mbin addD (mvar 9) (mbin itemSl (mtup (maCons (mC (.int 0)) (maCons (mC (.int 1)) (maCons (mC (.int 4)) (maCons (mC (.int 5)) (maNil)))))) (mcall fn__law_draw (maSlot 1 (maCons (mC (.int 4)) (maNil))))))) (maCons (mcall fn__law_draw (maSlot 1 (maCons (mvar 3) (maNil)))) (maNil)))))) (gset 11) (mdrp [11] (mifS (mtnot (mtru (mcall fn__law_scene (maSlot 1 (maCons (mvar 7) (maCons (mvar 11) (maCons (mvar 8) (maSlot 10 (maNil))))))))) (mret (mC (.bool false))) (mnil))))) (mseq (mset 12 (mrep (mlst (maCons (mC (.int 0)) (maNil))) (mvar 3))) (mseq (msub 12 (mbin itemSl (mixN 5 (mC (.int 1))) (mC (.int 0))) (mixN 6 (mvar 9))) (mseq (msub 12 (mbin itemSl (mixN 5 (mC (.int 1))) (mC (.int 1))) (mixN 6 (mbin addD (mvar 9) (mC (.int 1))))) (mseq (mpre [13, 14, 15] (mfor (miSeq (mtup (maCons (mlst (maNil)) (maCons (mlst (maCons (mvar 9) (maNil))) (maCons (mlst (maCons (mbin addD (mvar 9) (mC (.int 2))) (maNil))) (maCons (mlst (maCons (mbin addD (mvar 9) (mC (.int 8))) (maNil))) (maNil))))))) (gset 13) (mdrp [13, 14, 15] (mseq (mset 14 (mlstN 12)) (mseq (mpre [15] (mfor (miSeq (mvar 13)) (gset 15) (mdrp [15] (msub 14 (mbin addD (mixN 14 (mixN 6 (mvar 15))) (mC (.int 1))) (mixN 6 (mvar 15)))))) (mifS (mtnot (mtru (mcall fn__law_says (maCons (mcall fn_is_closed (maCons (mvar 7) (maCons (mtupN 14) (maNil)))) (maCons (mbin eqSl (mrd1 lenD 13) (mC (.int 0))) (maSlot 10 (maCons (mC (.int 2)) (maNil)))))))) (mret (mC (.bool false))) (mnil))))))) (mret (mbin eqSl (mcallB lenD (maCons (mlc (miSeq (mvar 10)) (gset 16) (mtB (mbin eqSl (mvar 16) (mC (.int 0)))) (mvar 16) [16]) (maNil))) (mC (.int 0))))))))))))))))))
noncomputable def fn_law : Fn := mfn 1 17 body_law
end Law
end
section
set_option Elab.async false
set_option linter.all false
set_option maxRecDepth 100000
set_option maxHeartbeats 16000000
namespace Law
open PySem PySem.Spec L2 MM
structure Bt (mg : Str → Option Value) : Prop where
  all : mg "all" = none
  bool : mg "bool" = none
  int : mg "int" = none
  isinstance : mg "isinstance" = none
  len : mg "len" = none
  list : mg "list" = none
  max : mg "max" = none
  min : mg "min" = none
  range : mg "range" = none
  str : mg "str" = none
  sum : mg "sum" = none
  tuple : mg "tuple" = none
  zip : mg "zip" = none
def top (i : Nat) : Stmt := PySem.Challenge.pw_alwayswritten_k91_whole_spoilt_tables_cl.main.body.getD i (.Pass ⟨0, 0, 0, 0⟩)
abbrev s_is_integer : Stmt := top 1
abbrev s_is_number : Stmt := top 2
abbrev s_is_tuple : Stmt := top 3
abbrev s_are_numbers : Stmt := top 5
abbrev s_is_closed : Stmt := top 6
abbrev s_holds_picks : Stmt := top 8
abbrev s_holds_pens : Stmt := top 9
abbrev s_is_falling : Stmt := top 10
abbrev s__law_pool : Stmt := top 12
abbrev s__law_draw : Stmt := top 13
abbrev s__law_order : Stmt := top 14
abbrev s__law_book : Stmt := top 15
abbrev s__law_drawn : Stmt := top 16
abbrev s__law_put : Stmt := top 17
abbrev s__law_made : Stmt := top 18
abbrev s__law_is_table : Stmt := top 19
abbrev s__law_is_closed : Stmt := top 20
abbrev s__law_least : Stmt := top 21
abbrev s__law_is_falling : Stmt := top 22
abbrev s__law_table : Stmt := top 23
abbrev s__law_tables : Stmt := top 24
abbrev s__law_falling : Stmt := top 25
abbrev s__law_odd : Stmt := top 26
abbrev s__law_bent : Stmt := top 27
abbrev s__law_says : Stmt := top 28
abbrev s__law_asks : Stmt := top 29
abbrev s__law_lowered : Stmt := top 30
abbrev s__law_scene : Stmt := top 31
abbrev s_law : Stmt := top 32
section
variable {P : Program} {w : World} {K : PySem.W.Frag} {mg : Str → Option Value} {base : Heap} {a : Addr} {fd : FuncData}
abbrev N_is_integer : List Str := ["thing"]
theorem sc_is_integer : FnScope N_is_integer ["thing"] (defScope s_is_integer) := ⟨rfl, rfl, rfl, by decide +kernel, rfl, by decide +kernel, by decide +kernel⟩
theorem df_is_integer (F : FnP K "is_integer" s_is_integer a fd) (hm : mg "is_integer" = some (.ref a)) (B : Bt mg)  : Df P w K mg base "is_integer" 1 1 fn_is_integer :=
  df_mk F hm sc_is_integer (F.bindsN fun _ _ _ _ _ _ us hl => match us, hl with | [_], _ => rfl) (b := body_is_integer) fun cdv A outer s H E hr => (ms_cons (ms_if (mt_truth (me_isi (by rfl) B.isinstance (by rfl) B.bool (by decide +kernel) (pm 0))) (ms_one (ms_ret (me_bl))) (ms_nil))
  (ms_one (ms_ret (me_isi (by rfl) B.isinstance (by rfl) B.int (by decide +kernel) (pm 0)))))
abbrev N_is_number : List Str := ["thing"]
theorem sc_is_number : FnScope N_is_number ["thing"] (defScope s_is_number) := ⟨rfl, rfl, rfl, by decide +kernel, rfl, by decide +kernel, by decide +kernel⟩
theorem df_is_number (F : FnP K "is_number" s_is_number a fd) (hm : mg "is_number" = some (.ref a)) (B : Bt mg) (D_is_integer : Df P w K mg base "is_integer" 1 1 fn_is_integer) : Df P w K mg base "is_number" 2 1 fn_is_number :=
  df_mk F hm sc_is_number (F.bindsN fun _ _ _ _ _ _ us hl => match us, hl with | [_], _ => rfl) (b := body_is_number) fun cdv A outer s H E hr => (ms_one (ms_ret (me_and (me_call D_is_integer (hr.mono (by decide)) (by rfl) (ma_cons (pm 0) (ma_nil)) (ml_cons (ml_nil))) (me_one (me_cmp (op_geD) (pm 0) (me_int) (nomark _))))))
abbrev N_is_tuple : List Str := ["thing", "many"]
theorem sc_is_tuple : FnScope N_is_tuple ["thing", "many"] (defScope s_is_tuple) := ⟨rfl, rfl, rfl, by decide +kernel, rfl, by decide +kernel, by decide +kernel⟩
theorem df_is_tuple (F : FnP K "is_tuple" s_is_tuple a fd) (hm : mg "is_tuple" = some (.ref a)) (B : Bt mg)  : Df P w K mg base "is_tuple" 1 2 fn_is_tuple :=
  df_mk F hm sc_is_tuple (F.bindsN fun _ _ _ _ _ _ us hl => match us, hl with | [_, _], _ => rfl) (b := body_is_tuple) fun cdv A outer s H E hr => (ms_one (ms_ret (me_and (me_isi (by rfl) B.isinstance (by rfl) B.tuple (by decide +kernel) (pm 0)) (me_one (me_or (me_cmp (op_isND) (pm 1) (me_non) (nomark _)) (me_one (me_cmp (op_eqD1 hr.units) (me_rdB 0 (cb_len) (by rfl) B.len (by decide +kernel)) (pm 1) (nomark _))))))))
abbrev N_are_numbers : List Str := ["thing", "many", "element"]
theorem sc_are_numbers : FnScope N_are_numbers ["thing", "many"] (defScope s_are_numbers) := ⟨rfl, rfl, rfl, by decide +kernel, rfl, by decide +kernel, by decide +kernel⟩
theorem df_are_numbers (F : FnP K "are_numbers" s_are_numbers a fd) (hm : mg "are_numbers" = some (.ref a)) (B : Bt mg) (D_is_number : Df P w K mg base "is_number" 2 1 fn_is_number) (D_is_tuple : Df P w K mg base "is_tuple" 1 2 fn_is_tuple) : Df P w K mg base "are_numbers" 3 2 fn_are_numbers :=
  df_mk F hm sc_are_numbers (F.bindsN fun _ _ _ _ _ _ us hl => match us, hl with | [_, _], _ => rfl) (b := body_are_numbers) fun cdv A outer s H E hr => (ms_one (ms_ret (me_and (me_call D_is_tuple (hr.mono (by decide)) (by rfl) (ma_cons (pm 0) (ma_cons (pm 1) (ma_nil))) (ml_cons (ml_cons (ml_nil)))) (me_one (me_callB (cb_all rfl) (by rfl) B.all (by decide +kernel) (ma_cons (me_lc rfl sc_are_numbers.nd (mi_seq (pm 0)) (blkOk_by (N := N_are_numbers) (sc := defScope s_are_numbers) (by decide +kernel)) (fun _ _ _ _ _ => pg_name (i := 2) sc_are_numbers.nd rfl (by first | exact .inl rfl | exact .inr rfl)) (fun _ _ _ _ _ => mts_nil) (fun _ _ _ _ _ => me_call D_is_number (hr.mono (by decide)) (by rfl) (ma_cons (pm 2) (ma_nil)) (ml_cons (ml_nil)))) (ma_nil)))))))
abbrev N_is_closed : List Str := ["book", "thing", "count", "standing", "told", "owner", "ask", "moves", "most", "word", "goal"]
theorem sc_is_closed : FnScope N_is_closed ["book", "thing"] (defScope s_is_closed) := ⟨rfl, rfl, rfl, by decide +kernel, rfl, by decide +kernel, by decide +kernel⟩
theorem df_is_closed (F : FnP K "is_closed" s_is_closed a fd) (hm : mg "is_closed" = some (.ref a)) (B : Bt mg) (D_are_numbers : Df P w K mg base "are_numbers" 3 2 fn_are_numbers) : Df P w K mg base "is_closed" 4 2 fn_is_closed :=
  df_mk F hm sc_is_closed (F.bindsN fun _ _ _ _ _ _ us hl => match us, hl with | [_, _], _ => rfl) (b := body_is_closed) fun cdv A outer s H E hr => (ms_cons (ms_if (mt_not (mt_truth (me_call D_are_numbers (hr.mono (by decide)) (by rfl) (ma_cons (pm 1) (ma_cons (me_rdB 0 (cb_len) (by rfl) B.len (by decide +kernel)) (ma_nil))) (ml_cons (ml_cons (ml_nil)))))) (ms_one (ms_ret (me_bl))) (ms_nil))
  (ms_cons (ms_pre [2, 3, 4, 5, 6, 7, 8] (ms_for PassesOwn.never rfl (mi_zip (by rfl) B.zip (ma_cons (pm 1) (ma_cons (pm 0) (ma_nil)))) (mg_tup rfl (mgs_cons (mg_name (i := 2) sc_is_closed.nd rfl (by first | exact .inl rfl | exact .inr rfl)) (mgs_cons (mg_name (i := 3) sc_is_closed.nd rfl (by first | exact .inl rfl | exact .inr rfl)) (mgs_nil)))) (ms_drp [2, 3, 4, 5, 6, 7, 8] (ms_cons (ms_asg (pm 3) (mg_tup rfl (mgs_cons (mg_name (i := 5) sc_is_closed.nd rfl (by first | exact .inl rfl | exact .inr rfl)) (mgs_cons (mg_name (i := 6) sc_is_closed.nd rfl (by first | exact .inl rfl | exact .inr rfl)) (mgs_cons (mg_name (i := 7) sc_is_closed.nd rfl (by first | exact .inl rfl | exact .inr rfl)) (mgs_nil))))))
  (ms_cons (ms_setLc2 (by decide) (l := 4) rfl sc_is_closed.nd rfl rfl (sw_true rfl rfl rfl (by decide +kernel)) (mi_seq (pm 7)) (blkOk_by (N := N_is_closed) (sc := defScope s_is_closed) (by decide +kernel)) (fun _ _ _ _ _ => pg_tup rfl (pgs_cons (pg_name (i := 9) sc_is_closed.nd rfl (by first | exact .inl rfl | exact .inr rfl)) (pgs_cons (pg_name (i := 10) sc_is_closed.nd rfl (by first | exact .inl rfl | exact .inr rfl)) pgs_nil))) (fun _ _ _ _ _ => mts_nil) (fun _ _ _ _ _ => me_ixN 1 (pm 10) (fun _ _ => rfl)))
  (ms_cons (ms_if (mt_not (mt_truthN 4)) (ms_one (ms_set (i := 8) sc_is_closed.nd rfl (by first | exact .inl rfl | exact .inr rfl) (me_int))) (ms_one (ms_if (mt_cmp (op_eqD1 hr.units) (pm 5) (me_str) (nomark _)) (ms_one (ms_set (i := 8) sc_is_closed.nd rfl (by first | exact .inl rfl | exact .inr rfl) (me_bin op_fdivD (me_rdB 4 (cb_sum rfl) (by rfl) B.sum (by decide +kernel)) (pm 6)))) (ms_one (ms_set (i := 8) sc_is_closed.nd rfl (by first | exact .inl rfl | exact .inr rfl) (me_if (mt_cmp (op_eqD1 hr.units) (pm 5) (me_str) (nomark _)) (me_rdB 4 (cb_max rfl) (by rfl) B.max (by decide +kernel)) (me_rdB 4 (cb_min rfl) (by rfl) B.min (by decide +kernel))))))))
  (ms_one (ms_if (mt_cmp (op_gtD) (pm 2) (pm 8) (nomark _)) (ms_one (ms_ret (me_bl))) (ms_nil)))))))))
  (ms_one (ms_ret (me_bl)))))
abbrev N_holds_picks : List Str := ["book", "table", "number", "standing", "told", "owner", "ask", "moves", "word", "goal"]
theorem sc_holds_picks : FnScope N_holds_picks ["book", "table"] (defScope s_holds_picks) := ⟨rfl, rfl, rfl, by decide +kernel, rfl, by decide +kernel, by decide +kernel⟩
theorem df_holds_picks (F : FnP K "holds_picks" s_holds_picks a fd) (hm : mg "holds_picks" = some (.ref a)) (B : Bt mg)  : Df P w K mg base "holds_picks" 1 2 fn_holds_picks :=
  df_mk F hm sc_holds_picks (F.bindsN fun _ _ _ _ _ _ us hl => match us, hl with | [_, _], _ => rfl) (b := body_holds_picks) fun cdv A outer s H E hr => (ms_cons (ms_pre [2, 3, 4, 5, 6, 7] (ms_for PassesOwn.never rfl (mi_zip (by rfl) B.zip (ma_cons (pm 1) (ma_cons (pm 0) (ma_nil)))) (mg_tup rfl (mgs_cons (mg_name (i := 2) sc_holds_picks.nd rfl (by first | exact .inl rfl | exact .inr rfl)) (mgs_cons (mg_name (i := 3) sc_holds_picks.nd rfl (by first | exact .inl rfl | exact .inr rfl)) (mgs_nil)))) (ms_drp [2, 3, 4, 5, 6, 7] (ms_cons (ms_asg (pm 3) (mg_tup rfl (mgs_cons (mg_name (i := 5) sc_holds_picks.nd rfl (by first | exact .inl rfl | exact .inr rfl)) (mgs_cons (mg_name (i := 6) sc_holds_picks.nd rfl (by first | exact .inl rfl | exact .inr rfl)) (mgs_cons (mg_name (i := 7) sc_holds_picks.nd rfl (by first | exact .inl rfl | exact .inr rfl)) (mgs_nil))))))
  (ms_cons (ms_setLc2 (by decide) (l := 4) rfl sc_holds_picks.nd rfl rfl (sw_true rfl rfl rfl (by decide +kernel)) (mi_seq (pm 7)) (blkOk_by (N := N_holds_picks) (sc := defScope s_holds_picks) (by decide +kernel)) (fun _ _ _ _ _ => pg_tup rfl (pgs_cons (pg_name (i := 8) sc_holds_picks.nd rfl (by first | exact .inl rfl | exact .inr rfl)) (pgs_cons (pg_name (i := 9) sc_holds_picks.nd rfl (by first | exact .inl rfl | exact .inr rfl)) pgs_nil))) (fun _ _ _ _ _ => mts_nil) (fun _ _ _ _ _ => me_ixN 1 (pm 9) (fun _ _ => rfl)))
  (ms_cons (ms_if (PW.pt (mw_and (mt_cmp (op_eqD1 hr.units) (pm 5) (me_str) (nomark _)) (mw_and (mt_truthN 4) (mw_and1 (mt_cmp (op_ltD) (pm 2) (me_rdB 4 (cb_min rfl) (by rfl) B.min (by decide +kernel)) (nomark _)))))) (ms_one (ms_ret (me_bl))) (ms_nil))
  (ms_one (ms_if (PW.pt (mw_and (mt_cmp (op_eqD1 hr.units) (pm 5) (me_str) (nomark _)) (mw_and (mt_truthN 4) (mw_and1 (mt_cmp (op_ltD) (pm 2) (me_rdB 4 (cb_max rfl) (by rfl) B.max (by decide +kernel)) (nomark _)))))) (ms_one (ms_ret (me_bl))) (ms_nil)))))))))
  (ms_one (ms_ret (me_bl))))
abbrev N_holds_pens : List Str := ["book", "table", "ahead", "bound", "number", "standing", "owner", "ask", "moves", "least", "word", "goal"]
theorem sc_holds_pens : FnScope N_holds_pens ["book", "table", "ahead", "bound"] (defScope s_holds_pens) := ⟨rfl, rfl, rfl, by decide +kernel, rfl, by decide +kernel, by decide +kernel⟩
theorem df_holds_pens (F : FnP K "holds_pens" s_holds_pens a fd) (hm : mg "holds_pens" = some (.ref a)) (B : Bt mg)  : Df P w K mg base "holds_pens" 1 4 fn_holds_pens :=
  df_mk F hm sc_holds_pens (F.bindsN fun _ _ _ _ _ _ us hl => match us, hl with | [_, _, _, _], _ => rfl) (b := body_holds_pens) fun cdv A outer s H E hr => (ms_cons (ms_pre [4, 5, 6, 7, 8, 9] (ms_for PassesOwn.never rfl (mi_zip (by rfl) B.zip (ma_cons (pm 1) (ma_cons (pm 0) (ma_nil)))) (mg_tup rfl (mgs_cons (mg_name (i := 4) sc_holds_pens.nd rfl (by first | exact .inl rfl | exact .inr rfl)) (mgs_cons (mg_name (i := 5) sc_holds_pens.nd rfl (by first | exact .inl rfl | exact .inr rfl)) (mgs_nil)))) (ms_drp [4, 5, 6, 7, 8, 9] (ms_cons (ms_asg (pm 5) (mg_tup rfl (mgs_cons (mg_name (i := 6) sc_holds_pens.nd rfl (by first | exact .inl rfl | exact .inr rfl)) (mgs_cons (mg_name (i := 7) sc_holds_pens.nd rfl (by first | exact .inl rfl | exact .inr rfl)) (mgs_cons (mg_name (i := 8) sc_holds_pens.nd rfl (by first | exact .inl rfl | exact .inr rfl)) (mgs_nil))))))
  (ms_one (ms_if (PW.pt (mw_and (mt_cmp (op_eqD1 hr.units) (pm 6) (me_str) (nomark _)) (mw_and1 (mt_truthN 8)))) (ms_cons (ms_set (i := 9) sc_holds_pens.nd rfl (by first | exact .inl rfl | exact .inr rfl) (pm 3))
  (ms_cons (ms_if (mt_cmp (op_isntND) (pm 2) (me_non) (nomark _)) (ms_one (ms_set (i := 9) sc_holds_pens.nd rfl (by first | exact .inl rfl | exact .inr rfl) (me_callB (cb_min rfl) (by rfl) B.min (by decide +kernel) (ma_cons (pm 3) (ma_cons (me_bin op_fdivD (me_callB (cb_sum rfl) (by rfl) B.sum (by decide +kernel) (ma_cons (me_lc2 (by decide) rfl sc_holds_pens.nd (mi_seq (pm 8)) (blkOk_by (N := N_holds_pens) (sc := defScope s_holds_pens) (by decide +kernel)) (fun _ _ _ _ _ => pg_tup rfl (pgs_cons (pg_name (i := 10) sc_holds_pens.nd rfl (by first | exact .inl rfl | exact .inr rfl)) (pgs_cons (pg_name (i := 11) sc_holds_pens.nd rfl (by first | exact .inl rfl | exact .inr rfl)) pgs_nil))) (fun _ _ _ _ _ => mts_nil) (fun _ _ _ _ _ => me_ixN 2 (pm 11) (fun _ _ => rfl))) (ma_nil))) (pm 7)) (ma_nil)))))) (ms_nil))
  (ms_one (ms_if (mt_cmp (op_ltD) (pm 4) (pm 9) (nomark _)) (ms_one (ms_ret (me_bl))) (ms_nil))))) (ms_nil)))))))
  (ms_one (ms_ret (me_bl))))
abbrev N_is_falling : List Str := ["book", "start", "load", "bound", "thing", "ahead", "table"]
theorem sc_is_falling : FnScope N_is_falling ["book", "start", "load", "bound", "thing"] (defScope s_is_falling) := ⟨rfl, rfl, rfl, by decide +kernel, rfl, by decide +kernel, by decide +kernel⟩
theorem df_is_falling (F : FnP K "is_falling" s_is_falling a fd) (hm : mg "is_falling" = some (.ref a)) (B : Bt mg) (D_are_numbers : Df P w K mg base "are_numbers" 3 2 fn_are_numbers) (D_holds_picks : Df P w K mg base "holds_picks" 1 2 fn_holds_picks) (D_holds_pens : Df P w K mg base "holds_pens" 1 4 fn_holds_pens) : Df P w K mg base "is_falling" 4 5 fn_is_falling :=
  df_mk F hm sc_is_falling (F.bindsN fun _ _ _ _ _ _ us hl => match us, hl with | [_, _, _, _, _], _ => rfl) (b := body_is_falling) fun cdv A outer s H E hr => (ms_cons (ms_if (mt_not (mt_truth (me_isi (by rfl) B.isinstance (by rfl) B.tuple (by decide +kernel) (pm 4)))) (ms_one (ms_ret (me_bl))) (ms_nil))
  (ms_cons (ms_if (mt_not (mt_truth (me_callB (cb_all rfl) (by rfl) B.all (by decide +kernel) (ma_cons (me_lc rfl sc_is_falling.nd (mi_seq (pm 4)) (blkOk_by (N := N_is_falling) (sc := defScope s_is_falling) (by decide +kernel)) (fun _ _ _ _ _ => pg_name (i := 6) sc_is_falling.nd rfl (by first | exact .inl rfl | exact .inr rfl)) (fun _ _ _ _ _ => mts_nil) (fun _ _ _ _ _ => me_call D_are_numbers (hr.mono (by decide)) (by rfl) (ma_cons (pm 6) (ma_cons (me_rdB 0 (cb_len) (by rfl) B.len (by decide +kernel)) (ma_nil))) (ml_cons (ml_cons (ml_nil))))) (ma_nil))))) (ms_one (ms_ret (me_bl))) (ms_nil))
  (ms_cons (ms_if (mt_cmp (op_gtD) (pm 2) (pm 3) (nomark _)) (ms_one (ms_ret (me_bl))) (ms_nil))
  (ms_cons (ms_if (PW.pt (mw_or (mt_not (mt_truthN 4)) (mw_or1 (mt_cmp (op_geD) (me_ix ix_itemD (me_ixN 4 (me_neg (me_int)) (fun _ _ => rfl)) (pm 1) (fun _ _ => rfl)) (pm 2) (nomark _))))) (ms_one (ms_ret (me_bl))) (ms_nil))
  (ms_cons (ms_set (i := 5) sc_is_falling.nd rfl (by first | exact .inl rfl | exact .inr rfl) (me_non))
  (ms_cons (ms_pre [6] (ms_for PassesOwn.never rfl (mi_seq (pm 4)) (mg_name (i := 6) sc_is_falling.nd rfl (by first | exact .inl rfl | exact .inr rfl)) (ms_drp [6] (ms_cons (ms_if (PW.pt (mw_or (mt_not (mt_truth (me_call D_holds_picks (hr.mono (by decide)) (by rfl) (ma_cons (pm 0) (ma_cons (pm 6) (ma_nil))) (ml_cons (ml_cons (ml_nil)))))) (mw_or1 (mt_not (mt_truth (me_call D_holds_pens (hr.mono (by decide)) (by rfl) (ma_cons (pm 0) (ma_cons (pm 6) (ma_cons (pm 5) (ma_cons (pm 3) (ma_nil))))) (ml_cons (ml_cons (ml_cons (ml_cons (ml_nil))))))))))) (ms_one (ms_ret (me_bl))) (ms_nil))
  (ms_one (ms_set (i := 5) sc_is_falling.nd rfl (by first | exact .inl rfl | exact .inr rfl) (pm 6)))))))
  (ms_one (ms_ret (me_bl)))))))))
abbrev N__law_pool : List Str := ["script", "state", "k", "first"]
theorem sc__law_pool : FnScope N__law_pool ["script"] (defScope s__law_pool) := ⟨rfl, rfl, rfl, by decide +kernel, rfl, by decide +kernel, by decide +kernel⟩
theorem df__law_pool (F : FnP K "_law_pool" s__law_pool a fd) (hm : mg "_law_pool" = some (.ref a)) (B : Bt mg)  : Df P w K mg base "_law_pool" 1 1 fn__law_pool :=
  df_mk F hm sc__law_pool (F.bindsN fun _ _ _ _ _ _ us hl => match us, hl with | [_], _ => rfl) (b := body__law_pool) fun cdv A outer s H E hr => (ms_cons (ms_set (i := 1) sc__law_pool.nd rfl (by first | exact .inl rfl | exact .inr rfl) (me_int))
  (ms_cons (ms_pre [2] (ms_for PassesOwn.never rfl (mi_range1 (by rfl) B.range (ma_cons (me_callB (cb_min rfl) (by rfl) B.min (by decide +kernel) (ma_cons (me_rdB 0 (cb_len) (by rfl) B.len (by decide +kernel)) (ma_cons (me_int) (ma_nil)))) (ma_nil))) (mg_name (i := 2) sc__law_pool.nd rfl (by first | exact .inl rfl | exact .inr rfl)) (ms_drp [2] (ms_one (ms_set (i := 1) sc__law_pool.nd rfl (by first | exact .inl rfl | exact .inr rfl) (me_bin op_modD (me_callTy (ct_int) (by rfl) B.int (by decide +kernel) (ma_cons (me_bin op_addD (me_bin op_addD (me_bin op_addD (me_bin op_mulD (pm 1) (me_int)) (me_bin op_modD (me_callTy (ct_int) (by rfl) B.int (by decide +kernel) (ma_cons (me_ixN 0 (pm 2) (fun _ _ => rfl)) (ma_nil))) (me_int))) (me_bin op_mulD (me_int) (pm 2))) (me_int)) (ma_nil))) (me_int)))))))
  (ms_cons (ms_set (i := 3) sc__law_pool.nd rfl (by first | exact .inl rfl | exact .inr rfl) (me_int))
  (ms_cons (ms_if (PW.pt (mw_and (mt_cmp (op_gtD) (me_rdB 0 (cb_len) (by rfl) B.len (by decide +kernel)) (me_int) (nomark _)) (mw_and1 (mt_cmp (op_geD) (me_callTy (ct_int) (by rfl) B.int (by decide +kernel) (ma_cons (me_ixN 0 (me_int) (fun _ _ => rfl)) (ma_nil))) (me_bin op_powD (me_int) (me_int)) (nomark _))))) (ms_one (ms_set (i := 3) sc__law_pool.nd rfl (by first | exact .inl rfl | exact .inr rfl) (me_bin op_modD (me_callTy (ct_int) (by rfl) B.int (by decide +kernel) (ma_cons (me_ixN 0 (me_int) (fun _ _ => rfl)) (ma_nil))) (me_bin op_mulD (me_bin op_mulD (me_bin op_mulD (me_bin op_powD (me_int) (me_int)) (me_bin op_powD (me_int) (me_int))) (me_bin op_powD (me_int) (me_int))) (me_bin op_powD (me_int) (me_int)))))) (ms_nil))
  (ms_one (ms_ret (me_lst (ma_cons (pm 3) (ma_cons (pm 1) (ma_nil))))))))))
abbrev N__law_draw : List Str := ["pool", "many", "got"]
theorem sc__law_draw : FnScope N__law_draw ["pool", "many"] (defScope s__law_draw) := ⟨rfl, rfl, rfl, by decide +kernel, rfl, by decide +kernel, by decide +kernel⟩
theorem df__law_draw (F : FnP K "_law_draw" s__law_draw a fd) (hm : mg "_law_draw" = some (.ref a)) (B : Bt mg)  : Df P w K mg base "_law_draw" 1 2 fn__law_draw :=
  df_mk F hm sc__law_draw (F.bindsN fun _ _ _ _ _ _ us hl => match us, hl with | [_, _], _ => rfl) (b := body__law_draw) fun cdv A outer s H E hr => (ms_cons (ms_if (mt_cmp (op_gtD) (me_ixN 0 (me_int) (fun _ _ => rfl)) (me_int) (nomark _)) (ms_cons (ms_set (i := 2) sc__law_draw.nd rfl (by first | exact .inl rfl | exact .inr rfl) (me_bin op_modD (me_callTy (ct_int) (by rfl) B.int (by decide +kernel) (ma_cons (me_ixN 0 (me_int) (fun _ _ => rfl)) (ma_nil))) (pm 1)))
  (ms_cons (ms_sub 0 (me_bin op_fdivD (me_ixN 0 (me_int) (fun _ _ => rfl)) (pm 1)) (me_int))
  (ms_one (ms_ret (pmv 2))))) (ms_nil))
  (ms_cons (ms_sub 0 (me_bin op_modD (me_callTy (ct_int) (by rfl) B.int (by decide +kernel) (ma_cons (me_bin op_addD (me_bin op_mulD (me_ixN 0 (me_int) (fun _ _ => rfl)) (me_int)) (me_int)) (ma_nil))) (me_int)) (me_int))
  (ms_one (ms_ret (me_bin op_modD (me_callTy (ct_int) (by rfl) B.int (by decide +kernel) (ma_cons (me_bin op_fdivD (me_ixN 0 (me_int) (fun _ _ => rfl)) (me_int)) (ma_nil))) (pm 1))))))
abbrev N__law_order : List Str := ["pool", "many", "left", "k"]
theorem sc__law_order : FnScope N__law_order ["pool", "many"] (defScope s__law_order) := ⟨rfl, rfl, rfl, by decide +kernel, rfl, by decide +kernel, by decide +kernel⟩
theorem df__law_order (F : FnP K "_law_order" s__law_order a fd) (hm : mg "_law_order" = some (.ref a)) (B : Bt mg) (D__law_draw : Df P w K mg base "_law_draw" 1 2 fn__law_draw) : Df P w K mg base "_law_order" 2 2 fn__law_order :=
  df_mk F hm sc__law_order (F.bindsN fun _ _ _ _ _ _ us hl => match us, hl with | [_, _], _ => rfl) (b := body__law_order) fun cdv A outer s H E hr => (ms_cons (ms_set (i := 2) sc__law_order.nd rfl (by first | exact .inl rfl | exact .inr rfl) (me_lstRg1 rfl (by rfl) B.list (by rfl) B.range (pm 1)))
  (ms_one (ms_ret (me_lc rfl sc__law_order.nd (mi_range1 (by rfl) B.range (ma_cons (pm 1) (ma_nil))) (blkOk_by (N := N__law_order) (sc := defScope s__law_order) (by decide +kernel)) (fun _ _ _ _ _ => pg_name (i := 3) sc__law_order.nd rfl (by first | exact .inl rfl | exact .inr rfl)) (fun _ _ _ _ _ => mts_nil) (fun _ _ _ _ _ => me_pop 2 (me_call D__law_draw (hr.mono (by decide)) (by rfl) (ma_slot 0 (ma_cons (me_rdB 2 (cb_len) (by rfl) B.len (by decide +kernel)) (ma_nil))) (ml_slot (ml_cons (ml_nil)))))))))
abbrev N__law_book : List Str := ["pool", "rows", "order", "book", "at", "moves", "goal", "sign"]
theorem sc__law_book : FnScope N__law_book ["pool", "rows", "order"] (defScope s__law_book) := ⟨rfl, rfl, rfl, by decide +kernel, rfl, by decide +kernel, by decide +kernel⟩
theorem df__law_book (F : FnP K "_law_book" s__law_book a fd) (hm : mg "_law_book" = some (.ref a)) (B : Bt mg) (D__law_draw : Df P w K mg base "_law_draw" 1 2 fn__law_draw) : Df P w K mg base "_law_book" 2 3 fn__law_book :=
  df_mk F hm sc__law_book (F.bindsN fun _ _ _ _ _ _ us hl => match us, hl with | [_, _, _], _ => rfl) (b := body__law_book) fun cdv A outer s H E hr => (ms_cons (ms_set (i := 3) sc__law_book.nd rfl (by first | exact .inl rfl | exact .inr rfl) (me_rep (me_lst (ma_cons (me_non) (ma_nil))) (me_rdB 1 (cb_len) (by rfl) B.len (by decide +kernel))))
  (ms_cons (ms_pre [4, 5, 6, 7] (ms_for PassesOwn.never rfl (mi_range1 (by rfl) B.range (ma_cons (me_rdB 1 (cb_len) (by rfl) B.len (by decide +kernel)) (ma_nil))) (mg_name (i := 4) sc__law_book.nd rfl (by first | exact .inl rfl | exact .inr rfl)) (ms_drp [4, 5, 6, 7] (ms_cons (ms_set (i := 5) sc__law_book.nd rfl (by first | exact .inl rfl | exact .inr rfl) (me_lst (ma_nil)))
  (ms_cons (ms_pre [6, 7] (ms_for PassesOwn.never rfl (mi_seq (me_ix ix_itemD (me_ixN 1 (pm 4) (fun _ _ => rfl)) (me_int) (fun _ _ => rfl))) (mg_name (i := 6) sc__law_book.nd rfl (by first | exact .inl rfl | exact .inr rfl)) (ms_drp [6, 7] (ms_cons (ms_set (i := 7) sc__law_book.nd rfl (by first | exact .inl rfl | exact .inr rfl) (me_ix ix_itemD (me_str) (me_call D__law_draw (hr.mono (by decide)) (by rfl) (ma_slot 0 (ma_cons (me_int) (ma_nil))) (ml_slot (ml_cons (ml_nil)))) (fun _ _ => rfl)))
  (ms_one (ms_expr (me_append 5 (me_tup (ma_cons (me_bin op_addD (me_bin op_mulD (pm 7) (me_bin op_addD (me_int) (me_call D__law_draw (hr.mono (by decide)) (by rfl) (ma_slot 0 (ma_cons (me_int) (ma_nil))) (ml_slot (ml_cons (ml_nil)))))) (me_callTy (ct_str) (by rfl) B.str (by decide +kernel) (ma_cons (me_rdB 5 (cb_len) (by rfl) B.len (by decide +kernel)) (ma_nil)))) (ma_cons (me_ixN 2 (pm 6) (fun _ _ => rfl)) (ma_nil)))))))))))
  (ms_one (ms_sub 3 (me_tup (ma_cons (me_ix ix_itemD (me_ixN 1 (pm 4) (fun _ _ => rfl)) (me_int) (fun _ _ => rfl)) (ma_cons (me_ix ix_itemD (me_ixN 1 (pm 4) (fun _ _ => rfl)) (me_int) (fun _ _ => rfl)) (ma_cons (me_tupN 5 (by rfl) B.tuple) (ma_nil))))) (me_ixN 2 (pm 4) (fun _ _ => rfl)))))))))
  (ms_one (ms_ret (me_tupN 3 (by rfl) B.tuple)))))
abbrev N__law_drawn : List Str := ["pool", "many", "owners", "rows", "at", "goals", "k"]
theorem sc__law_drawn : FnScope N__law_drawn ["pool", "many"] (defScope s__law_drawn) := ⟨rfl, rfl, rfl, by decide +kernel, rfl, by decide +kernel, by decide +kernel⟩
theorem df__law_drawn (F : FnP K "_law_drawn" s__law_drawn a fd) (hm : mg "_law_drawn" = some (.ref a)) (B : Bt mg) (D__law_draw : Df P w K mg base "_law_draw" 1 2 fn__law_draw) : Df P w K mg base "_law_drawn" 2 2 fn__law_drawn :=
  df_mk F hm sc__law_drawn (F.bindsN fun _ _ _ _ _ _ us hl => match us, hl with | [_, _], _ => rfl) (b := body__law_drawn) fun cdv A outer s H E hr => (ms_cons (ms_set (i := 2) sc__law_drawn.nd rfl (by first | exact .inl rfl | exact .inr rfl) (me_lc rfl sc__law_drawn.nd (mi_range1 (by rfl) B.range (ma_cons (pm 1) (ma_nil))) (blkOk_by (N := N__law_drawn) (sc := defScope s__law_drawn) (by decide +kernel)) (fun _ _ _ _ _ => pg_name (i := 6) sc__law_drawn.nd rfl (by first | exact .inl rfl | exact .inr rfl)) (fun _ _ _ _ _ => mts_nil) (fun _ _ _ _ _ => me_ix ix_itemD (me_tup (ma_cons (me_str) (ma_cons (me_str) (ma_cons (me_str) (ma_cons (me_str) (ma_cons (me_str) (ma_nil))))))) (me_call D__law_draw (hr.mono (by decide)) (by rfl) (ma_slot 0 (ma_cons (me_int) (ma_nil))) (ml_slot (ml_cons (ml_nil)))) (fun _ _ => rfl))))
  (ms_cons (ms_sub 2 (me_str) (me_call D__law_draw (hr.mono (by decide)) (by rfl) (ma_slot 0 (ma_cons (pm 1) (ma_nil))) (ml_slot (ml_cons (ml_nil)))))
  (ms_cons (ms_set (i := 3) sc__law_drawn.nd rfl (by first | exact .inl rfl | exact .inr rfl) (me_lst (ma_nil)))
  (ms_cons (ms_pre [4] (ms_for PassesOwn.never rfl (mi_range1 (by rfl) B.range (ma_cons (pm 1) (ma_nil))) (mg_name (i := 4) sc__law_drawn.nd rfl (by first | exact .inl rfl | exact .inr rfl)) (ms_drp [4] (ms_one (ms_if (PW.pt (mw_and (mt_cmp (op_neD1 hr.units) (me_ixN 2 (pm 4) (fun _ _ => rfl)) (me_str) (nomark _)) (mw_and1 (mt_cmp (op_gtD) (me_count (me_slcN 2 (mo_none) (mo_some (pm 4))) (me_ixN 2 (pm 4) (fun _ _ => rfl))) (me_int) (nomark _))))) (ms_one (ms_sub 2 (me_str) (pm 4))) (ms_nil))))))
  (ms_cons (ms_pre [4, 5] (ms_for PassesOwn.never rfl (mi_range1 (by rfl) B.range (ma_cons (pm 1) (ma_nil))) (mg_name (i := 4) sc__law_drawn.nd rfl (by first | exact .inl rfl | exact .inr rfl)) (ms_drp [4, 5] (ms_cons (ms_set (i := 5) sc__law_drawn.nd rfl (by first | exact .inl rfl | exact .inr rfl) (me_lc rfl sc__law_drawn.nd (mi_range1 (by rfl) B.range (ma_cons (pm 1) (ma_nil))) (blkOk_by (N := N__law_drawn) (sc := defScope s__law_drawn) (by decide +kernel)) (fun _ _ _ _ _ => pg_name (i := 6) sc__law_drawn.nd rfl (by first | exact .inl rfl | exact .inr rfl)) (fun _ _ _ _ _ => mts_one (PW.pt (mw_or (mt_cmp (op_eqD1 hr.units) (me_ixN 2 (pm 4) (fun _ _ => rfl)) (me_str) (nomark _)) (mw_or (mt_cmp (op_eqD1 hr.units) (me_ixN 2 (pm 6) (fun _ _ => rfl)) (me_str) (nomark _)) (mw_or1 (mt_cmp (op_gtD) (pm 6) (pm 4) (nomark _))))))) (fun _ _ _ _ _ => pm 6)))
  (ms_cons (ms_set (i := 5) sc__law_drawn.nd rfl (by first | exact .inl rfl | exact .inr rfl) (me_lc rfl sc__law_drawn.nd (mi_range1 (by rfl) B.range (ma_cons (me_ix ix_itemD (me_tup (ma_cons (me_int) (ma_cons (me_int) (ma_cons (me_int) (ma_cons (me_int) (ma_cons (me_int) (ma_nil))))))) (me_call D__law_draw (hr.mono (by decide)) (by rfl) (ma_slot 0 (ma_cons (me_int) (ma_nil))) (ml_slot (ml_cons (ml_nil)))) (fun _ _ => rfl)) (ma_nil))) (blkOk_by (N := N__law_drawn) (sc := defScope s__law_drawn) (by decide +kernel)) (fun _ _ _ _ _ => pg_name (i := 6) sc__law_drawn.nd rfl (by first | exact .inl rfl | exact .inr rfl)) (fun _ _ _ _ _ => mts_nil) (fun _ _ _ _ _ => me_ixN 5 (me_call D__law_draw (hr.mono (by decide)) (by rfl) (ma_slot 0 (ma_cons (me_rdB 5 (cb_len) (by rfl) B.len (by decide +kernel)) (ma_nil))) (ml_slot (ml_cons (ml_nil)))) (fun _ _ => rfl))))
  (ms_one (ms_expr (me_append 3 (me_tup (ma_cons (me_ixN 2 (pm 4) (fun _ _ => rfl)) (ma_cons (me_if (mt_cmp (op_eqD1 hr.units) (me_ixN 2 (pm 4) (fun _ _ => rfl)) (me_str) (nomark _)) (me_bin op_addD (me_int) (me_call D__law_draw (hr.mono (by decide)) (by rfl) (ma_slot 0 (ma_cons (me_int) (ma_nil))) (ml_slot (ml_cons (ml_nil))))) (me_int)) (ma_cons (pm 5) (ma_nil)))))))))))))
  (ms_one (ms_ret (pmv 3))))))))
abbrev N__law_put : List Str := ["row", "at", "thing"]
theorem sc__law_put : FnScope N__law_put ["row", "at", "thing"] (defScope s__law_put) := ⟨rfl, rfl, rfl, by decide +kernel, rfl, by decide +kernel, by decide +kernel⟩
theorem df__law_put (F : FnP K "_law_put" s__law_put a fd) (hm : mg "_law_put" = some (.ref a)) (B : Bt mg)  : Df P w K mg base "_law_put" 1 3 fn__law_put :=
  df_mk F hm sc__law_put (F.bindsN fun _ _ _ _ _ _ us hl => match us, hl with | [_, _, _], _ => rfl) (b := body__law_put) fun cdv A outer s H E hr => (ms_one (ms_ret (me_bin op_addD (me_bin op_addD (me_slcN 0 (mo_none) (mo_some (pm 1))) (me_tup (ma_cons (pm 2) (ma_nil)))) (me_slcN 0 (mo_some (me_bin op_addD (pm 1) (me_int))) (mo_none)))))
abbrev N__law_made : List Str := ["pool", "many", "wide", "most", "letters", "a", "more", "b", "c", "one", "goals", "owner", "rows", "k", "row"]
theorem sc__law_made : FnScope N__law_made ["pool", "many", "wide"] (defScope s__law_made) := ⟨rfl, rfl, rfl, by decide +kernel, rfl, by decide +kernel, by decide +kernel⟩
theorem df__law_made (F : FnP K "_law_made" s__law_made a fd) (hm : mg "_law_made" = some (.ref a)) (B : Bt mg) (D__law_draw : Df P w K mg base "_law_draw" 1 2 fn__law_draw) : Df P w K mg base "_law_made" 2 3 fn__law_made :=
  df_mk F hm sc__law_made (F.bindsN fun _ _ _ _ _ _ us hl => match us, hl with | [_, _, _], _ => rfl) (b := body__law_made) fun cdv A outer s H E hr => (ms_cons (ms_set (i := 3) sc__law_made.nd rfl (by first | exact .inl rfl | exact .inr rfl) (me_if (mt_truthN 2) (me_int) (me_int)))
  (ms_cons (ms_setLc (j := 4) rfl sc__law_made.nd rfl rfl (sw_true rfl rfl rfl (by decide +kernel)) (mi_range1 (by rfl) B.range (ma_cons (me_int) (ma_nil))) (blkOk_by (N := N__law_made) (sc := defScope s__law_made) (by decide +kernel)) (fun _ _ _ _ _ => pg_name (i := 13) sc__law_made.nd rfl (by first | exact .inl rfl | exact .inr rfl)) (fun _ _ _ _ _ => mts_nil) (fun _ _ _ _ _ => me_bin op_addD (me_int) (me_call D__law_draw (hr.mono (by decide)) (by rfl) (ma_slot 0 (ma_cons (pm 3) (ma_nil))) (ml_slot (ml_cons (ml_nil))))))
  (ms_cons (ms_set (i := 5) sc__law_made.nd rfl (by first | exact .inl rfl | exact .inr rfl) (me_bin op_addD (me_int) (me_call D__law_draw (hr.mono (by decide)) (by rfl) (ma_slot 0 (ma_cons (me_bin op_mulD (me_ixN 4 (me_int) (fun _ _ => rfl)) (me_ixN 4 (me_int) (fun _ _ => rfl))) (ma_nil))) (ml_slot (ml_cons (ml_nil))))))
  (ms_cons (ms_set (i := 6) sc__law_made.nd rfl (by first | exact .inl rfl | exact .inr rfl) (me_bin op_addD (me_int) (me_call D__law_draw (hr.mono (by decide)) (by rfl) (ma_slot 0 (ma_cons (me_bin op_fdivD (me_bin op_mulD (me_ixN 4 (me_int) (fun _ _ => rfl)) (me_ixN 4 (me_int) (fun _ _ => rfl))) (pm 5)) (ma_nil))) (ml_slot (ml_cons (ml_nil))))))
  (ms_cons (ms_set (i := 7) sc__law_made.nd rfl (by first | exact .inl rfl | exact .inr rfl) (me_if (mt_truthN 2) (me_bin op_subD (me_bin op_powD (me_int) (me_int)) (me_call D__law_draw (hr.mono (by decide)) (by rfl) (ma_slot 0 (ma_cons (me_int) (ma_nil))) (ml_slot (ml_cons (ml_nil))))) (me_bin op_addD (me_int) (me_call D__law_draw (hr.mono (by decide)) (by rfl) (ma_slot 0 (ma_cons (me_int) (ma_nil))) (ml_slot (ml_cons (ml_nil)))))))
  (ms_cons (ms_set (i := 8) sc__law_made.nd rfl (by first | exact .inl rfl | exact .inr rfl) (me_bin op_addD (me_bin op_addD (me_bin op_fdivD (me_bin op_mulD (me_ixN 4 (me_int) (fun _ _ => rfl)) (me_ixN 4 (me_int) (fun _ _ => rfl))) (pm 7)) (me_int)) (me_call D__law_draw (hr.mono (by decide)) (by rfl) (ma_slot 0 (ma_cons (me_int) (ma_nil))) (ml_slot (ml_cons (ml_nil))))))
  (ms_cons (ms_set (i := 9) sc__law_made.nd rfl (by first | exact .inl rfl | exact .inr rfl) (pm 1))
  (ms_cons (ms_set (i := 10) sc__law_made.nd rfl (by first | exact .inl rfl | exact .inr rfl) (me_lst (ma_cons (me_lst (ma_cons (pm 9) (ma_cons (me_bin op_addD (pm 9) (me_int)) (ma_nil)))) (ma_cons (me_lst (ma_cons (pm 9) (ma_cons (me_bin op_addD (pm 9) (me_int)) (ma_nil)))) (ma_cons (me_lst (ma_cons (me_bin op_addD (pm 9) (me_int)) (ma_cons (pm 9) (ma_nil)))) (ma_cons (me_lst (ma_cons (me_bin op_addD (pm 9) (me_int)) (ma_cons (me_bin op_addD (pm 9) (me_int)) (ma_nil)))) (ma_nil)))))))
  (ms_cons (ms_setLc (j := 10) rfl sc__law_made.nd rfl rfl (sw_true rfl rfl rfl (by decide +kernel)) (mi_seq (pm 10)) (blkOk_by (N := N__law_made) (sc := defScope s__law_made) (by decide +kernel)) (fun _ _ _ _ _ => pg_name (i := 14) sc__law_made.nd rfl (by first | exact .inl rfl | exact .inr rfl)) (fun _ _ _ _ _ => mts_nil) (fun _ _ _ _ _ => me_step (pm 14) (me_bin op_subD (me_int) (me_bin op_mulD (me_int) (me_call D__law_draw (hr.mono (by decide)) (by rfl) (ma_slot 0 (ma_cons (me_int) (ma_nil))) (ml_slot (ml_cons (ml_nil))))))))
  (ms_cons (ms_set (i := 11) sc__law_made.nd rfl (by first | exact .inl rfl | exact .inr rfl) (me_ix ix_itemD (me_tup (ma_cons (me_str) (ma_cons (me_str) (ma_cons (me_str) (ma_nil))))) (me_call D__law_draw (hr.mono (by decide)) (by rfl) (ma_slot 0 (ma_cons (me_int) (ma_nil))) (ml_slot (ml_cons (ml_nil)))) (fun _ _ => rfl)))
  (ms_cons (ms_set (i := 12) sc__law_made.nd rfl (by first | exact .inl rfl | exact .inr rfl) (me_lst (ma_cons (me_tup (ma_cons (me_str) (ma_cons (pm 5) (ma_cons (me_rep (me_lst (ma_cons (me_bin op_addD (pm 9) (me_int)) (ma_nil))) (me_ixN 4 (me_int) (fun _ _ => rfl))) (ma_nil))))) (ma_cons (me_tup (ma_cons (me_str) (ma_cons (pm 6) (ma_cons (me_rep (me_lst (ma_cons (pm 9) (ma_nil))) (me_ixN 4 (me_int) (fun _ _ => rfl))) (ma_nil))))) (ma_cons (me_tup (ma_cons (me_str) (ma_cons (pm 7) (ma_cons (me_rep (me_lst (ma_cons (me_bin op_addD (pm 9) (me_int)) (ma_nil))) (me_ixN 4 (me_int) (fun _ _ => rfl))) (ma_nil))))) (ma_cons (me_tup (ma_cons (me_str) (ma_cons (pm 8) (ma_cons (me_rep (me_lst (ma_cons (me_bin op_addD (pm 9) (me_int)) (ma_nil))) (me_ixN 4 (me_int) (fun _ _ => rfl))) (ma_nil))))) (ma_cons (me_tup (ma_cons (me_str) (ma_cons (me_int) (ma_cons (me_ixN 10 (me_int) (fun _ _ => rfl)) (ma_nil))))) (ma_cons (me_tup (ma_cons (me_str) (ma_cons (me_int) (ma_cons (me_ixN 10 (me_int) (fun _ _ => rfl)) (ma_nil))))) (ma_cons (me_tup (ma_cons (me_str) (ma_cons (me_int) (ma_cons (me_ixN 10 (me_int) (fun _ _ => rfl)) (ma_nil))))) (ma_cons (me_tup (ma_cons (me_str) (ma_cons (me_int) (ma_cons (me_ixN 10 (me_int) (fun _ _ => rfl)) (ma_nil))))) (ma_cons (me_tup (ma_cons (pm 11) (ma_cons (me_if (mt_cmp (op_eqD1 hr.units) (pm 11) (me_str) (nomark _)) (me_bin op_addD (me_int) (me_call D__law_draw (hr.mono (by decide)) (by rfl) (ma_slot 0 (ma_cons (me_int) (ma_nil))) (ml_slot (ml_cons (ml_nil))))) (me_int)) (ma_cons (me_lst (ma_nil)) (ma_nil))))) (ma_nil))))))))))))
  (ms_one (ms_ret (me_lst (ma_cons (pm 12) (ma_cons (me_tup (ma_cons (me_ixN 4 (me_int) (fun _ _ => rfl)) (ma_cons (pm 5) (ma_nil)))) (ma_cons (me_tup (ma_cons (me_bin op_addD (pm 8) (me_ixN 4 (me_int) (fun _ _ => rfl))) (ma_cons (me_bin op_addD (me_ixN 4 (me_int) (fun _ _ => rfl)) (pm 7)) (ma_nil)))) (ma_cons (me_ixN 4 (me_int) (fun _ _ => rfl)) (ma_cons (pm 7) (ma_cons (pm 10) (ma_nil)))))))))))))))))))))
abbrev N__law_is_table : List Str := ["book", "thing", "x"]
theorem sc__law_is_table : FnScope N__law_is_table ["book", "thing"] (defScope s__law_is_table) := ⟨rfl, rfl, rfl, by decide +kernel, rfl, by decide +kernel, by decide +kernel⟩
theorem df__law_is_table (F : FnP K "_law_is_table" s__law_is_table a fd) (hm : mg "_law_is_table" = some (.ref a)) (B : Bt mg)  : Df P w K mg base "_law_is_table" 1 2 fn__law_is_table :=
  df_mk F hm sc__law_is_table (F.bindsN fun _ _ _ _ _ _ us hl => match us, hl with | [_, _], _ => rfl) (b := body__law_is_table) fun cdv A outer s H E hr => (ms_cons (ms_if (PW.pt (mw_or (mt_not (mt_truth (me_isi (by rfl) B.isinstance (by rfl) B.tuple (by decide +kernel) (pm 1)))) (mw_or1 (mt_cmp (op_neD1 hr.units) (me_rdB 1 (cb_len) (by rfl) B.len (by decide +kernel)) (me_rdB 0 (cb_len) (by rfl) B.len (by decide +kernel)) (nomark _))))) (ms_one (ms_ret (me_bl))) (ms_nil))
  (ms_one (ms_ret (me_cmp (op_eqD1 hr.units) (me_callB (cb_len) (by rfl) B.len (by decide +kernel) (ma_cons (me_lc rfl sc__law_is_table.nd (mi_seq (pm 1)) (blkOk_by (N := N__law_is_table) (sc := defScope s__law_is_table) (by decide +kernel)) (fun _ _ _ _ _ => pg_name (i := 2) sc__law_is_table.nd rfl (by first | exact .inl rfl | exact .inr rfl)) (fun _ _ _ _ _ => mts_one (PW.pt (mw_or (mt_not (mt_truth (me_isi (by rfl) B.isinstance (by rfl) B.int (by decide +kernel) (pm 2)))) (mw_or (mt_truth (me_isi (by rfl) B.isinstance (by rfl) B.bool (by decide +kernel) (pm 2))) (mw_or1 (mt_cmp (op_ltD) (pm 2) (me_int) (nomark _))))))) (fun _ _ _ _ _ => pm 2)) (ma_nil))) (me_int) (nomark _)))))
abbrev N__law_is_closed : List Str := ["book", "thing", "at", "goals", "most", "move"]
theorem sc__law_is_closed : FnScope N__law_is_closed ["book", "thing"] (defScope s__law_is_closed) := ⟨rfl, rfl, rfl, by decide +kernel, rfl, by decide +kernel, by decide +kernel⟩
theorem df__law_is_closed (F : FnP K "_law_is_closed" s__law_is_closed a fd) (hm : mg "_law_is_closed" = some (.ref a)) (B : Bt mg) (D__law_is_table : Df P w K mg base "_law_is_table" 1 2 fn__law_is_table) : Df P w K mg base "_law_is_closed" 2 2 fn__law_is_closed :=
  df_mk F hm sc__law_is_closed (F.bindsN fun _ _ _ _ _ _ us hl => match us, hl with | [_, _], _ => rfl) (b := body__law_is_closed) fun cdv A outer s H E hr => (ms_cons (ms_if (mt_not (mt_truth (me_call D__law_is_table (hr.mono (by decide)) (by rfl) (ma_cons (pm 0) (ma_cons (pm 1) (ma_nil))) (ml_cons (ml_cons (ml_nil)))))) (ms_one (ms_ret (me_bl))) (ms_nil))
  (ms_cons (ms_pre [2, 3, 4] (ms_for PassesOwn.never rfl (mi_range1 (by rfl) B.range (ma_cons (me_rdB 0 (cb_len) (by rfl) B.len (by decide +kernel)) (ma_nil))) (mg_name (i := 2) sc__law_is_closed.nd rfl (by first | exact .inl rfl | exact .inr rfl)) (ms_drp [2, 3, 4] (ms_cons (ms_setLc (j := 3) rfl sc__law_is_closed.nd rfl rfl (sw_true rfl rfl rfl (by decide +kernel)) (mi_seq (me_ix ix_itemD (me_ixN 0 (pm 2) (fun _ _ => rfl)) (me_int) (fun _ _ => rfl))) (blkOk_by (N := N__law_is_closed) (sc := defScope s__law_is_closed) (by decide +kernel)) (fun _ _ _ _ _ => pg_name (i := 5) sc__law_is_closed.nd rfl (by first | exact .inl rfl | exact .inr rfl)) (fun _ _ _ _ _ => mts_nil) (fun _ _ _ _ _ => me_ixN 1 (me_ixN 5 (me_int) (fun _ _ => rfl)) (fun _ _ => rfl)))
  (ms_cons (ms_set (i := 4) sc__law_is_closed.nd rfl (by first | exact .inl rfl | exact .inr rfl) (me_int))
  (ms_cons (ms_if (mt_cmp (op_gtD) (me_rdB 3 (cb_len) (by rfl) B.len (by decide +kernel)) (me_int) (nomark _)) (ms_one (ms_set (i := 4) sc__law_is_closed.nd rfl (by first | exact .inl rfl | exact .inr rfl) (me_if (mt_cmp (op_eqD1 hr.units) (me_ix ix_itemD (me_ixN 0 (pm 2) (fun _ _ => rfl)) (me_int) (fun _ _ => rfl)) (me_str) (nomark _)) (me_rdB 3 (cb_min rfl) (by rfl) B.min (by decide +kernel)) (me_if (mt_cmp (op_eqD1 hr.units) (me_ix ix_itemD (me_ixN 0 (pm 2) (fun _ _ => rfl)) (me_int) (fun _ _ => rfl)) (me_str) (nomark _)) (me_rdB 3 (cb_max rfl) (by rfl) B.max (by decide +kernel)) (me_rdB 3 (cb_sum rfl) (by rfl) B.sum (by decide +kernel)))))) (ms_nil))
  (ms_one (ms_if (mt_cmp (op_gtD) (me_bin op_mulD (me_ixN 1 (pm 2) (fun _ _ => rfl)) (me_ix ix_itemD (me_ixN 0 (pm 2) (fun _ _ => rfl)) (me_int) (fun _ _ => rfl))) (pm 4) (nomark _)) (ms_one (ms_ret (me_bl))) (ms_nil)))))))))
  (ms_one (ms_ret (me_bl)))))
abbrev N__law_least : List Str := ["book", "at", "table", "ahead", "bound", "goals", "move"]
theorem sc__law_least : FnScope N__law_least ["book", "at", "table", "ahead", "bound"] (defScope s__law_least) := ⟨rfl, rfl, rfl, by decide +kernel, rfl, by decide +kernel, by decide +kernel⟩
theorem df__law_least (F : FnP K "_law_least" s__law_least a fd) (hm : mg "_law_least" = some (.ref a)) (B : Bt mg)  : Df P w K mg base "_law_least" 1 5 fn__law_least :=
  df_mk F hm sc__law_least (F.bindsN fun _ _ _ _ _ _ us hl => match us, hl with | [_, _, _, _, _], _ => rfl) (b := body__law_least) fun cdv A outer s H E hr => (ms_cons (ms_set (i := 5) sc__law_least.nd rfl (by first | exact .inl rfl | exact .inr rfl) (me_ix ix_itemD (me_ixN 0 (pm 1) (fun _ _ => rfl)) (me_int) (fun _ _ => rfl)))
  (ms_cons (ms_if (mt_cmp (op_eqD1 hr.units) (me_rdB 5 (cb_len) (by rfl) B.len (by decide +kernel)) (me_int) (nomark _)) (ms_one (ms_ret (me_int))) (ms_nil))
  (ms_cons (ms_if (mt_cmp (op_eqD1 hr.units) (me_ix ix_itemD (me_ixN 0 (pm 1) (fun _ _ => rfl)) (me_int) (fun _ _ => rfl)) (me_str) (nomark _)) (ms_one (ms_ret (me_callB (cb_min rfl) (by rfl) B.min (by decide +kernel) (ma_cons (me_lc rfl sc__law_least.nd (mi_seq (pm 5)) (blkOk_by (N := N__law_least) (sc := defScope s__law_least) (by decide +kernel)) (fun _ _ _ _ _ => pg_name (i := 6) sc__law_least.nd rfl (by first | exact .inl rfl | exact .inr rfl)) (fun _ _ _ _ _ => mts_nil) (fun _ _ _ _ _ => me_ixN 2 (me_ixN 6 (me_int) (fun _ _ => rfl)) (fun _ _ => rfl))) (ma_nil))))) (ms_nil))
  (ms_cons (ms_if (mt_cmp (op_eqD1 hr.units) (me_ix ix_itemD (me_ixN 0 (pm 1) (fun _ _ => rfl)) (me_int) (fun _ _ => rfl)) (me_str) (nomark _)) (ms_one (ms_ret (me_callB (cb_max rfl) (by rfl) B.max (by decide +kernel) (ma_cons (me_lc rfl sc__law_least.nd (mi_seq (pm 5)) (blkOk_by (N := N__law_least) (sc := defScope s__law_least) (by decide +kernel)) (fun _ _ _ _ _ => pg_name (i := 6) sc__law_least.nd rfl (by first | exact .inl rfl | exact .inr rfl)) (fun _ _ _ _ _ => mts_nil) (fun _ _ _ _ _ => me_ixN 2 (me_ixN 6 (me_int) (fun _ _ => rfl)) (fun _ _ => rfl))) (ma_nil))))) (ms_nil))
  (ms_cons (ms_if (mt_cmp (op_isND) (pm 3) (me_non) (nomark _)) (ms_one (ms_ret (pmv 4))) (ms_nil))
  (ms_one (ms_ret (me_callB (cb_min rfl) (by rfl) B.min (by decide +kernel) (ma_cons (pm 4) (ma_cons (me_bin op_fdivD (me_callB (cb_sum rfl) (by rfl) B.sum (by decide +kernel) (ma_cons (me_lc rfl sc__law_least.nd (mi_seq (pm 5)) (blkOk_by (N := N__law_least) (sc := defScope s__law_least) (by decide +kernel)) (fun _ _ _ _ _ => pg_name (i := 6) sc__law_least.nd rfl (by first | exact .inl rfl | exact .inr rfl)) (fun _ _ _ _ _ => mts_nil) (fun _ _ _ _ _ => me_ixN 3 (me_ixN 6 (me_int) (fun _ _ => rfl)) (fun _ _ => rfl))) (ma_nil))) (me_ix ix_itemD (me_ixN 0 (pm 1) (fun _ _ => rfl)) (me_int) (fun _ _ => rfl))) (ma_nil)))))))))))
abbrev N__law_is_falling : List Str := ["book", "start", "load", "bound", "thing", "k", "at", "table"]
theorem sc__law_is_falling : FnScope N__law_is_falling ["book", "start", "load", "bound", "thing"] (defScope s__law_is_falling) := ⟨rfl, rfl, rfl, by decide +kernel, rfl, by decide +kernel, by decide +kernel⟩
theorem df__law_is_falling (F : FnP K "_law_is_falling" s__law_is_falling a fd) (hm : mg "_law_is_falling" = some (.ref a)) (B : Bt mg) (D__law_is_table : Df P w K mg base "_law_is_table" 1 2 fn__law_is_table) (D__law_least : Df P w K mg base "_law_least" 1 5 fn__law_least) : Df P w K mg base "_law_is_falling" 2 5 fn__law_is_falling :=
  df_mk F hm sc__law_is_falling (F.bindsN fun _ _ _ _ _ _ us hl => match us, hl with | [_, _, _, _, _], _ => rfl) (b := body__law_is_falling) fun cdv A outer s H E hr => (ms_cons (ms_if (PW.pt (mw_or (mt_not (mt_truth (me_isi (by rfl) B.isinstance (by rfl) B.tuple (by decide +kernel) (pm 4)))) (mw_or1 (mt_cmp (op_gtD) (me_callB (cb_len) (by rfl) B.len (by decide +kernel) (ma_cons (me_lc rfl sc__law_is_falling.nd (mi_seq (pm 4)) (blkOk_by (N := N__law_is_falling) (sc := defScope s__law_is_falling) (by decide +kernel)) (fun _ _ _ _ _ => pg_name (i := 7) sc__law_is_falling.nd rfl (by first | exact .inl rfl | exact .inr rfl)) (fun _ _ _ _ _ => mts_one (mt_not (mt_truth (me_call D__law_is_table (hr.mono (by decide)) (by rfl) (ma_cons (pm 0) (ma_cons (pm 7) (ma_nil))) (ml_cons (ml_cons (ml_nil))))))) (fun _ _ _ _ _ => pm 7)) (ma_nil))) (me_int) (nomark _))))) (ms_one (ms_ret (me_bl))) (ms_nil))
  (ms_cons (ms_if (mt_cmp (op_gtD) (pm 2) (pm 3) (nomark _)) (ms_one (ms_ret (me_bl))) (ms_nil))
  (ms_cons (ms_if (PW.pt (mw_or (mt_cmp (op_eqD1 hr.units) (me_rdB 4 (cb_len) (by rfl) B.len (by decide +kernel)) (me_int) (nomark _)) (mw_or1 (mt_cmp (op_geD) (me_ix ix_itemD (me_ixN 4 (me_neg (me_int)) (fun _ _ => rfl)) (pm 1) (fun _ _ => rfl)) (pm 2) (nomark _))))) (ms_one (ms_ret (me_bl))) (ms_nil))
  (ms_cons (ms_pre [5, 6] (ms_for PassesOwn.never rfl (mi_range1 (by rfl) B.range (ma_cons (me_rdB 4 (cb_len) (by rfl) B.len (by decide +kernel)) (ma_nil))) (mg_name (i := 5) sc__law_is_falling.nd rfl (by first | exact .inl rfl | exact .inr rfl)) (ms_drp [5, 6] (ms_one (ms_pre [6] (ms_for PassesOwn.never rfl (mi_range1 (by rfl) B.range (ma_cons (me_rdB 0 (cb_len) (by rfl) B.len (by decide +kernel)) (ma_nil))) (mg_name (i := 6) sc__law_is_falling.nd rfl (by first | exact .inl rfl | exact .inr rfl)) (ms_drp [6] (ms_one (ms_if (mt_cmp (op_ltD) (me_ix ix_itemD (me_ixN 4 (pm 5) (fun _ _ => rfl)) (pm 6) (fun _ _ => rfl)) (me_call D__law_least (hr.mono (by decide)) (by rfl) (ma_cons (pm 0) (ma_cons (pm 6) (ma_cons (me_ixN 4 (pm 5) (fun _ _ => rfl)) (ma_cons (me_if (mt_cmp (op_gtD) (pm 5) (me_int) (nomark _)) (me_ixN 4 (me_bin op_subD (pm 5) (me_int)) (fun _ _ => rfl)) (me_non)) (ma_cons (pm 3) (ma_nil)))))) (ml_cons (ml_cons (ml_cons (ml_cons (ml_cons (ml_nil))))))) (nomark _)) (ms_one (ms_ret (me_bl))) (ms_nil))))))))))
  (ms_one (ms_ret (me_bl)))))))
abbrev N__law_table : List Str := ["pool", "book", "ahead", "bound", "rise", "table", "at", "lap", "move"]
theorem sc__law_table : FnScope N__law_table ["pool", "book", "ahead", "bound", "rise"] (defScope s__law_table) := ⟨rfl, rfl, rfl, by decide +kernel, rfl, by decide +kernel, by decide +kernel⟩
theorem df__law_table (F : FnP K "_law_table" s__law_table a fd) (hm : mg "_law_table" = some (.ref a)) (B : Bt mg) (D__law_draw : Df P w K mg base "_law_draw" 1 2 fn__law_draw) (D__law_least : Df P w K mg base "_law_least" 1 5 fn__law_least) : Df P w K mg base "_law_table" 2 5 fn__law_table :=
  df_mk F hm sc__law_table (F.bindsN fun _ _ _ _ _ _ us hl => match us, hl with | [_, _, _, _, _], _ => rfl) (b := body__law_table) fun cdv A outer s H E hr => (ms_cons (ms_set (i := 5) sc__law_table.nd rfl (by first | exact .inl rfl | exact .inr rfl) (me_rep (me_lst (ma_cons (me_non) (ma_nil))) (me_rdB 1 (cb_len) (by rfl) B.len (by decide +kernel))))
  (ms_cons (ms_pre [6] (ms_for PassesOwn.never rfl (mi_range1 (by rfl) B.range (ma_cons (me_rdB 1 (cb_len) (by rfl) B.len (by decide +kernel)) (ma_nil))) (mg_name (i := 6) sc__law_table.nd rfl (by first | exact .inl rfl | exact .inr rfl)) (ms_drp [6] (ms_one (ms_if (PW.pt (mw_or (mt_cmp (op_eqD1 hr.units) (me_ix ix_itemD (me_ixN 1 (pm 6) (fun _ _ => rfl)) (me_int) (fun _ _ => rfl)) (me_str) (nomark _)) (mw_or1 (mt_cmp (op_eqD1 hr.units) (me_callB (cb_len) (by rfl) B.len (by decide +kernel) (ma_cons (me_ix ix_itemD (me_ixN 1 (pm 6) (fun _ _ => rfl)) (me_int) (fun _ _ => rfl)) (ma_nil))) (me_int) (nomark _))))) (ms_one (ms_sub 5 (me_bin op_addD (me_call D__law_least (hr.mono (by decide)) (by rfl) (ma_cons (pm 1) (ma_cons (pm 6) (ma_slot 5 (ma_cons (pm 2) (ma_cons (pm 3) (ma_nil)))))) (ml_cons (ml_cons (ml_slot (ml_cons (ml_cons (ml_nil))))))) (me_if (mt_cmp (op_gtD) (pm 4) (me_int) (nomark _)) (me_call D__law_draw (hr.mono (by decide)) (by rfl) (ma_slot 0 (ma_cons (pm 4) (ma_nil))) (ml_slot (ml_cons (ml_nil)))) (me_int))) (pm 6))) (ms_nil))))))
  (ms_cons (ms_pre [6, 7] (ms_for PassesOwn.never rfl (mi_range1 (by rfl) B.range (ma_cons (me_rdB 1 (cb_len) (by rfl) B.len (by decide +kernel)) (ma_nil))) (mg_name (i := 7) sc__law_table.nd rfl (by first | exact .inl rfl | exact .inr rfl)) (ms_drp [6, 7] (ms_one (ms_pre [6] (ms_for PassesOwn.never rfl (mi_range1 (by rfl) B.range (ma_cons (me_rdB 1 (cb_len) (by rfl) B.len (by decide +kernel)) (ma_nil))) (mg_name (i := 6) sc__law_table.nd rfl (by first | exact .inl rfl | exact .inr rfl)) (ms_drp [6] (ms_one (ms_if (PW.pt (mw_and (mt_cmp (op_isND) (me_ixN 5 (pm 6) (fun _ _ => rfl)) (me_non) (nomark _)) (mw_and1 (mt_cmp (op_eqD1 hr.units) (me_callB (cb_len) (by rfl) B.len (by decide +kernel) (ma_cons (me_lc rfl sc__law_table.nd (mi_seq (me_ix ix_itemD (me_ixN 1 (pm 6) (fun _ _ => rfl)) (me_int) (fun _ _ => rfl))) (blkOk_by (N := N__law_table) (sc := defScope s__law_table) (by decide +kernel)) (fun _ _ _ _ _ => pg_name (i := 8) sc__law_table.nd rfl (by first | exact .inl rfl | exact .inr rfl)) (fun _ _ _ _ _ => mts_one (mt_cmp (op_isND) (me_ixN 5 (me_ixN 8 (me_int) (fun _ _ => rfl)) (fun _ _ => rfl)) (me_non) (nomark _))) (fun _ _ _ _ _ => pm 8)) (ma_nil))) (me_int) (nomark _))))) (ms_one (ms_sub 5 (me_bin op_addD (me_call D__law_least (hr.mono (by decide)) (by rfl) (ma_cons (pm 1) (ma_cons (pm 6) (ma_slot 5 (ma_cons (pm 2) (ma_cons (pm 3) (ma_nil)))))) (ml_cons (ml_cons (ml_slot (ml_cons (ml_cons (ml_nil))))))) (me_if (mt_cmp (op_gtD) (pm 4) (me_int) (nomark _)) (me_call D__law_draw (hr.mono (by decide)) (by rfl) (ma_slot 0 (ma_cons (pm 4) (ma_nil))) (ml_slot (ml_cons (ml_nil)))) (me_int))) (pm 6))) (ms_nil))))))))))
  (ms_one (ms_ret (me_tupN 5 (by rfl) B.tuple))))))
abbrev N__law_tables : List Str := ["pool", "book", "start", "load", "bound", "rise", "rows"]
theorem sc__law_tables : FnScope N__law_tables ["pool", "book", "start", "load", "bound", "rise"] (defScope s__law_tables) := ⟨rfl, rfl, rfl, by decide +kernel, rfl, by decide +kernel, by decide +kernel⟩
theorem df__law_tables (F : FnP K "_law_tables" s__law_tables a fd) (hm : mg "_law_tables" = some (.ref a)) (B : Bt mg) (D__law_table : Df P w K mg base "_law_table" 2 5 fn__law_table) : Df P w K mg base "_law_tables" 3 6 fn__law_tables :=
  df_mk F hm sc__law_tables (F.bindsN fun _ _ _ _ _ _ us hl => match us, hl with | [_, _, _, _, _, _], _ => rfl) (b := body__law_tables) fun cdv A outer s H E hr => (ms_cons (ms_set (i := 6) sc__law_tables.nd rfl (by first | exact .inl rfl | exact .inr rfl) (me_lst (ma_cons (me_call D__law_table (hr.mono (by decide)) (by rfl) (ma_slot 0 (ma_cons (pm 1) (ma_cons (me_non) (ma_cons (pm 4) (ma_cons (pm 5) (ma_nil)))))) (ml_slot (ml_cons (ml_cons (ml_cons (ml_cons (ml_nil))))))) (ma_nil))))
  (ms_cons (ms_pre [] (ms_while PassesOwn.never (PW.pt (mw_and (mt_cmp (op_geD) (me_ix ix_itemD (me_ixN 6 (me_neg (me_int)) (fun _ _ => rfl)) (pm 2) (fun _ _ => rfl)) (pm 3) (nomark _)) (mw_and1 (PW.pt (mw_or (mt_cmp (op_ltD) (me_rdB 6 (cb_len) (by rfl) B.len (by decide +kernel)) (me_int) (nomark _)) (mw_or1 (mt_cmp (op_neD1 hr.units) (me_ixN 6 (me_neg (me_int)) (fun _ _ => rfl)) (me_ixN 6 (me_neg (me_int)) (fun _ _ => rfl)) (nomark _)))))))) (ms_drp [] (ms_one (ms_expr (me_append 6 (me_call D__law_table (hr.mono (by decide)) (by rfl) (ma_slot 0 (ma_cons (pm 1) (ma_cons (me_ixN 6 (me_neg (me_int)) (fun _ _ => rfl)) (ma_cons (pm 4) (ma_cons (me_if (mt_cmp (op_ltD) (me_rdB 6 (cb_len) (by rfl) B.len (by decide +kernel)) (me_int) (nomark _)) (pm 5) (me_int)) (ma_nil)))))) (ml_slot (ml_cons (ml_cons (ml_cons (ml_cons (ml_nil)))))))))))))
  (ms_one (ms_ret (me_tupN 6 (by rfl) B.tuple)))))
abbrev N__law_falling : List Str := ["book", "bound", "counts", "changed", "at", "goals", "most", "move"]
theorem sc__law_falling : FnScope N__law_falling ["book", "bound"] (defScope s__law_falling) := ⟨rfl, rfl, rfl, by decide +kernel, rfl, by decide +kernel, by decide +kernel⟩
theorem df__law_falling (F : FnP K "_law_falling" s__law_falling a fd) (hm : mg "_law_falling" = some (.ref a)) (B : Bt mg)  : Df P w K mg base "_law_falling" 1 2 fn__law_falling :=
  df_mk F hm sc__law_falling (F.bindsN fun _ _ _ _ _ _ us hl => match us, hl with | [_, _], _ => rfl) (b := body__law_falling) fun cdv A outer s H E hr => (ms_cons (ms_set (i := 2) sc__law_falling.nd rfl (by first | exact .inl rfl | exact .inr rfl) (me_rep (me_lst (ma_cons (pm 1) (ma_nil))) (me_rdB 0 (cb_len) (by rfl) B.len (by decide +kernel))))
  (ms_cons (ms_set (i := 3) sc__law_falling.nd rfl (by first | exact .inl rfl | exact .inr rfl) (me_bl))
  (ms_cons (ms_pre [4, 5, 6] (ms_while PassesOwn.never (mt_truthN 3) (ms_drp [4, 5, 6] (ms_cons (ms_set (i := 3) sc__law_falling.nd rfl (by first | exact .inl rfl | exact .inr rfl) (me_bl))
  (ms_one (ms_pre [4, 5, 6] (ms_for PassesOwn.never rfl (mi_range1 (by rfl) B.range (ma_cons (me_rdB 0 (cb_len) (by rfl) B.len (by decide +kernel)) (ma_nil))) (mg_name (i := 4) sc__law_falling.nd rfl (by first | exact .inl rfl | exact .inr rfl)) (ms_drp [4, 5, 6] (ms_cons (ms_setLc (j := 5) rfl sc__law_falling.nd rfl rfl (sw_true rfl rfl rfl (by decide +kernel)) (mi_seq (me_ix ix_itemD (me_ixN 0 (pm 4) (fun _ _ => rfl)) (me_int) (fun _ _ => rfl))) (blkOk_by (N := N__law_falling) (sc := defScope s__law_falling) (by decide +kernel)) (fun _ _ _ _ _ => pg_name (i := 7) sc__law_falling.nd rfl (by first | exact .inl rfl | exact .inr rfl)) (fun _ _ _ _ _ => mts_nil) (fun _ _ _ _ _ => me_ixN 2 (me_ixN 7 (me_int) (fun _ _ => rfl)) (fun _ _ => rfl)))
  (ms_cons (ms_set (i := 6) sc__law_falling.nd rfl (by first | exact .inl rfl | exact .inr rfl) (me_int))
  (ms_cons (ms_if (mt_cmp (op_gtD) (me_rdB 5 (cb_len) (by rfl) B.len (by decide +kernel)) (me_int) (nomark _)) (ms_one (ms_set (i := 6) sc__law_falling.nd rfl (by first | exact .inl rfl | exact .inr rfl) (me_if (mt_cmp (op_eqD1 hr.units) (me_ix ix_itemD (me_ixN 0 (pm 4) (fun _ _ => rfl)) (me_int) (fun _ _ => rfl)) (me_str) (nomark _)) (me_rdB 5 (cb_min rfl) (by rfl) B.min (by decide +kernel)) (me_if (mt_cmp (op_eqD1 hr.units) (me_ix ix_itemD (me_ixN 0 (pm 4) (fun _ _ => rfl)) (me_int) (fun _ _ => rfl)) (me_str) (nomark _)) (me_rdB 5 (cb_max rfl) (by rfl) B.max (by decide +kernel)) (me_bin op_fdivD (me_rdB 5 (cb_sum rfl) (by rfl) B.sum (by decide +kernel)) (me_ix ix_itemD (me_ixN 0 (pm 4) (fun _ _ => rfl)) (me_int) (fun _ _ => rfl))))))) (ms_nil))
  (ms_one (ms_if (mt_cmp (op_ltD) (pm 6) (me_ixN 2 (pm 4) (fun _ _ => rfl)) (nomark _)) (ms_cons (ms_sub 2 (pm 6) (pm 4))
  (ms_one (ms_set (i := 3) sc__law_falling.nd rfl (by first | exact .inl rfl | exact .inr rfl) (me_bl)))) (ms_nil))))))))))))))
  (ms_one (ms_ret (me_tupN 2 (by rfl) B.tuple))))))
abbrev N__law_odd : List Str := ["pool", "row", "kind", "at", "x", "y"]
theorem sc__law_odd : FnScope N__law_odd ["pool", "row", "kind"] (defScope s__law_odd) := ⟨rfl, rfl, rfl, by decide +kernel, rfl, by decide +kernel, by decide +kernel⟩
theorem df__law_odd (F : FnP K "_law_odd" s__law_odd a fd) (hm : mg "_law_odd" = some (.ref a)) (B : Bt mg) (D__law_draw : Df P w K mg base "_law_draw" 1 2 fn__law_draw) (D__law_put : Df P w K mg base "_law_put" 1 3 fn__law_put) : Df P w K mg base "_law_odd" 2 3 fn__law_odd :=
  df_mk F hm sc__law_odd (F.bindsN fun _ _ _ _ _ _ us hl => match us, hl with | [_, _, _], _ => rfl) (b := body__law_odd) fun cdv A outer s H E hr => (ms_cons (ms_set (i := 3) sc__law_odd.nd rfl (by first | exact .inl rfl | exact .inr rfl) (me_call D__law_draw (hr.mono (by decide)) (by rfl) (ma_slot 0 (ma_cons (me_rdB 1 (cb_len) (by rfl) B.len (by decide +kernel)) (ma_nil))) (ml_slot (ml_cons (ml_nil)))))
  (ms_cons (ms_set (i := 4) sc__law_odd.nd rfl (by first | exact .inl rfl | exact .inr rfl) (me_ixN 1 (pm 3) (fun _ _ => rfl)))
  (ms_cons (ms_if (mt_cmp (op_ltD) (pm 2) (me_int) (nomark _)) (ms_one (ms_ret (me_call D__law_put (hr.mono (by decide)) (by rfl) (ma_cons (pm 1) (ma_cons (pm 3) (ma_cons (me_ix ix_itemD (me_lst (ma_cons (me_bin op_addD (pm 4) (me_int)) (ma_cons (me_bin op_subD (pm 4) (me_int)) (ma_cons (me_cmp (op_eqD1 hr.units) (pm 4) (me_int) (nomark _)) (ma_cons (me_non) (ma_cons (me_bin op_powD (me_int) (me_int)) (ma_cons (me_str) (ma_cons (me_tup (ma_cons (pm 4) (ma_nil))) (ma_cons (me_int) (ma_nil)))))))))) (pm 2) (fun _ _ => rfl)) (ma_nil)))) (ml_cons (ml_cons (ml_cons (ml_nil))))))) (ms_nil))
  (ms_one (ms_ret (me_ix ix_itemD (me_lst (ma_cons (me_bin op_addD (me_slcN 1 (mo_none) (mo_some (pm 3))) (me_slcN 1 (mo_some (me_bin op_addD (pm 3) (me_int))) (mo_none))) (ma_cons (me_bin op_addD (pm 1) (me_tup (ma_cons (me_int) (ma_nil)))) (ma_cons (me_lstN 1 (by rfl) B.list) (ma_cons (me_step (pm 1) (me_neg (me_int))) (ma_cons (me_tup (ma_nil)) (ma_cons (me_non) (ma_cons (me_callTy (ct_tuple) (by rfl) B.tuple (by decide +kernel) (ma_cons (me_lc rfl sc__law_odd.nd (mi_seq (pm 1)) (blkOk_by (N := N__law_odd) (sc := defScope s__law_odd) (by decide +kernel)) (fun _ _ _ _ _ => pg_name (i := 5) sc__law_odd.nd rfl (by first | exact .inl rfl | exact .inr rfl)) (fun _ _ _ _ _ => mts_nil) (fun _ _ _ _ _ => me_bin op_mulD (me_int) (pm 5))) (ma_nil))) (ma_cons (me_callTy (ct_tuple) (by rfl) B.tuple (by decide +kernel) (ma_cons (me_lc rfl sc__law_odd.nd (mi_seq (pm 1)) (blkOk_by (N := N__law_odd) (sc := defScope s__law_odd) (by decide +kernel)) (fun _ _ _ _ _ => pg_name (i := 5) sc__law_odd.nd rfl (by first | exact .inl rfl | exact .inr rfl)) (fun _ _ _ _ _ => mts_nil) (fun _ _ _ _ _ => me_bin op_addD (pm 5) (me_int))) (ma_nil))) (ma_nil)))))))))) (me_bin op_subD (pm 2) (me_int)) (fun _ _ => rfl)))))))
abbrev N__law_bent : List Str := ["pool", "tables", "kind", "many", "k"]
theorem sc__law_bent : FnScope N__law_bent ["pool", "tables", "kind"] (defScope s__law_bent) := ⟨rfl, rfl, rfl, by decide +kernel, rfl, by decide +kernel, by decide +kernel⟩
theorem df__law_bent (F : FnP K "_law_bent" s__law_bent a fd) (hm : mg "_law_bent" = some (.ref a)) (B : Bt mg) (D__law_draw : Df P w K mg base "_law_draw" 1 2 fn__law_draw) (D__law_put : Df P w K mg base "_law_put" 1 3 fn__law_put) (D__law_odd : Df P w K mg base "_law_odd" 2 3 fn__law_odd) : Df P w K mg base "_law_bent" 3 3 fn__law_bent :=
  df_mk F hm sc__law_bent (F.bindsN fun _ _ _ _ _ _ us hl => match us, hl with | [_, _, _], _ => rfl) (b := body__law_bent) fun cdv A outer s H E hr => (ms_cons (ms_set (i := 3) sc__law_bent.nd rfl (by first | exact .inl rfl | exact .inr rfl) (me_rdB 1 (cb_len) (by rfl) B.len (by decide +kernel)))
  (ms_cons (ms_set (i := 4) sc__law_bent.nd rfl (by first | exact .inl rfl | exact .inr rfl) (me_call D__law_draw (hr.mono (by decide)) (by rfl) (ma_slot 0 (ma_cons (pm 3) (ma_nil))) (ml_slot (ml_cons (ml_nil)))))
  (ms_cons (ms_if (mt_cmp (op_ltD) (pm 2) (me_int) (nomark _)) (ms_one (ms_ret (me_call D__law_put (hr.mono (by decide)) (by rfl) (ma_cons (pm 1) (ma_cons (pm 4) (ma_cons (me_call D__law_odd (hr.mono (by decide)) (by rfl) (ma_slot 0 (ma_cons (me_ixN 1 (pm 4) (fun _ _ => rfl)) (ma_cons (pm 2) (ma_nil)))) (ml_slot (ml_cons (ml_cons (ml_nil))))) (ma_nil)))) (ml_cons (ml_cons (ml_cons (ml_nil))))))) (ms_nil))
  (ms_one (ms_ret (me_ix ix_itemD (me_lst (ma_cons (me_slcN 1 (mo_none) (mo_some (me_neg (me_int)))) (ma_cons (me_slcN 1 (mo_some (me_int)) (mo_none)) (ma_cons (me_bin op_addD (pm 1) (me_slcN 1 (mo_some (me_neg (me_int))) (mo_none))) (ma_cons (me_bin op_addD (me_slcN 1 (mo_none) (mo_some (pm 4))) (me_slcN 1 (mo_some (me_bin op_addD (pm 4) (me_int))) (mo_none))) (ma_cons (me_step (pm 1) (me_neg (me_int))) (ma_cons (me_lstN 1 (by rfl) B.list) (ma_cons (me_tup (ma_nil)) (ma_cons (me_bin op_addD (me_bin op_addD (me_slcN 1 (mo_none) (mo_some (pm 4))) (me_slcN 1 (mo_some (pm 4)) (mo_some (me_bin op_addD (pm 4) (me_int))))) (me_slcN 1 (mo_some (pm 4)) (mo_none))) (ma_cons (me_non) (ma_cons (me_tup (ma_cons (pm 1) (ma_nil))) (ma_cons (me_bin op_addD (me_slcN 1 (mo_none) (mo_some (me_int))) (me_slcN 1 (mo_some (me_neg (me_int))) (mo_none))) (ma_nil))))))))))))) (me_bin op_subD (pm 2) (me_int)) (fun _ _ => rfl)))))))
abbrev N__law_says : List Str := ["told", "due", "tally", "place"]
theorem sc__law_says : FnScope N__law_says ["told", "due", "tally", "place"] (defScope s__law_says) := ⟨rfl, rfl, rfl, by decide +kernel, rfl, by decide +kernel, by decide +kernel⟩
theorem df__law_says (F : FnP K "_law_says" s__law_says a fd) (hm : mg "_law_says" = some (.ref a)) (B : Bt mg)  : Df P w K mg base "_law_says" 1 4 fn__law_says :=
  df_mk F hm sc__law_says (F.bindsN fun _ _ _ _ _ _ us hl => match us, hl with | [_, _, _, _], _ => rfl) (b := body__law_says) fun cdv A outer s H E hr => (ms_cons (ms_sub 2 (me_bin op_addD (me_ixN 2 (me_bin op_addD (pm 3) (me_callTy (ct_int) (by rfl) B.int (by decide +kernel) (ma_cons (pm 1) (ma_nil)))) (fun _ _ => rfl)) (me_int)) (me_bin op_addD (pm 3) (me_callTy (ct_int) (by rfl) B.int (by decide +kernel) (ma_cons (pm 1) (ma_nil)))))
  (ms_one (ms_ret (me_and (me_isi (by rfl) B.isinstance (by rfl) B.bool (by decide +kernel) (pm 0)) (me_one (me_cmp (op_eqD1 hr.units) (pm 0) (pm 1) (nomark _)))))))
abbrev N__law_asks : List Str := ["book", "start", "load", "bound", "thing", "tally", "due"]
theorem sc__law_asks : FnScope N__law_asks ["book", "start", "load", "bound", "thing", "tally"] (defScope s__law_asks) := ⟨rfl, rfl, rfl, by decide +kernel, rfl, by decide +kernel, by decide +kernel⟩
theorem df__law_asks (F : FnP K "_law_asks" s__law_asks a fd) (hm : mg "_law_asks" = some (.ref a)) (B : Bt mg) (D_is_falling : Df P w K mg base "is_falling" 4 5 fn_is_falling) (D__law_is_falling : Df P w K mg base "_law_is_falling" 2 5 fn__law_is_falling) (D__law_says : Df P w K mg base "_law_says" 1 4 fn__law_says) : Df P w K mg base "_law_asks" 5 6 fn__law_asks :=
  df_mk F hm sc__law_asks (F.bindsN fun _ _ _ _ _ _ us hl => match us, hl with | [_, _, _, _, _, _], _ => rfl) (b := body__law_asks) fun cdv A outer s H E hr => (ms_cons (ms_set (i := 6) sc__law_asks.nd rfl (by first | exact .inl rfl | exact .inr rfl) (me_call D__law_is_falling (hr.mono (by decide)) (by rfl) (ma_cons (pm 0) (ma_cons (pm 1) (ma_cons (pm 2) (ma_cons (pm 3) (ma_cons (pm 4) (ma_nil)))))) (ml_cons (ml_cons (ml_cons (ml_cons (ml_cons (ml_nil))))))))
  (ms_one (ms_ret (me_call D__law_says (hr.mono (by decide)) (by rfl) (ma_cons (me_call D_is_falling (hr.mono (by decide)) (by rfl) (ma_cons (pm 0) (ma_cons (pm 1) (ma_cons (pm 2) (ma_cons (pm 3) (ma_cons (pm 4) (ma_nil)))))) (ml_cons (ml_cons (ml_cons (ml_cons (ml_cons (ml_nil))))))) (ma_cons (pm 6) (ma_slot 5 (ma_cons (me_int) (ma_nil))))) (ml_cons (ml_cons (ml_slot (ml_cons (ml_nil)))))))))
abbrev N__law_lowered : List Str := ["pool", "book", "tables", "told", "owner", "k", "places", "at"]
theorem sc__law_lowered : FnScope N__law_lowered ["pool", "book", "tables"] (defScope s__law_lowered) := ⟨rfl, rfl, rfl, by decide +kernel, rfl, by decide +kernel, by decide +kernel⟩
theorem df__law_lowered (F : FnP K "_law_lowered" s__law_lowered a fd) (hm : mg "_law_lowered" = some (.ref a)) (B : Bt mg) (D__law_draw : Df P w K mg base "_law_draw" 1 2 fn__law_draw) (D__law_put : Df P w K mg base "_law_put" 1 3 fn__law_put) : Df P w K mg base "_law_lowered" 2 3 fn__law_lowered :=
  df_mk F hm sc__law_lowered (F.bindsN fun _ _ _ _ _ _ us hl => match us, hl with | [_, _, _], _ => rfl) (b := body__law_lowered) fun cdv A outer s H E hr => (ms_cons (ms_set (i := 3) sc__law_lowered.nd rfl (by first | exact .inl rfl | exact .inr rfl) (me_lst (ma_nil)))
  (ms_cons (ms_pre [4, 5, 6, 7] (ms_for PassesOwn.never rfl (mi_seq (me_tup (ma_cons (me_str) (ma_cons (me_str) (ma_cons (me_str) (ma_nil)))))) (mg_name (i := 4) sc__law_lowered.nd rfl (by first | exact .inl rfl | exact .inr rfl)) (ms_drp [4, 5, 6, 7] (ms_one (ms_pre [5, 6, 7] (ms_for PassesOwn.never rfl (mi_seq (me_tup (ma_cons (me_int) (ma_cons (me_call D__law_draw (hr.mono (by decide)) (by rfl) (ma_slot 0 (ma_cons (me_rdB 2 (cb_len) (by rfl) B.len (by decide +kernel)) (ma_nil))) (ml_slot (ml_cons (ml_nil)))) (ma_nil))))) (mg_name (i := 5) sc__law_lowered.nd rfl (by first | exact .inl rfl | exact .inr rfl)) (ms_drp [5, 6, 7] (ms_cons (ms_setLc (j := 6) rfl sc__law_lowered.nd rfl rfl (sw_true rfl rfl rfl (by decide +kernel)) (mi_range1 (by rfl) B.range (ma_cons (me_rdB 1 (cb_len) (by rfl) B.len (by decide +kernel)) (ma_nil))) (blkOk_by (N := N__law_lowered) (sc := defScope s__law_lowered) (by decide +kernel)) (fun _ _ _ _ _ => pg_name (i := 7) sc__law_lowered.nd rfl (by first | exact .inl rfl | exact .inr rfl)) (fun _ _ _ _ _ => mts_one (PW.pt (mw_and (mt_cmp (op_eqD1 hr.units) (me_ix ix_itemD (me_ixN 1 (pm 7) (fun _ _ => rfl)) (me_int) (fun _ _ => rfl)) (pm 4) (nomark _)) (mw_and (mt_cmp (op_gtD) (me_callB (cb_len) (by rfl) B.len (by decide +kernel) (ma_cons (me_ix ix_itemD (me_ixN 1 (pm 7) (fun _ _ => rfl)) (me_int) (fun _ _ => rfl)) (ma_nil))) (me_int) (nomark _)) (mw_and1 (mt_cmp (op_gtD) (me_ix ix_itemD (me_ixN 2 (pm 5) (fun _ _ => rfl)) (pm 7) (fun _ _ => rfl)) (me_int) (nomark _))))))) (fun _ _ _ _ _ => pm 7))
  (ms_one (ms_if (mt_cmp (op_gtD) (me_rdB 6 (cb_len) (by rfl) B.len (by decide +kernel)) (me_int) (nomark _)) (ms_cons (ms_set (i := 7) sc__law_lowered.nd rfl (by first | exact .inl rfl | exact .inr rfl) (me_ixN 6 (me_call D__law_draw (hr.mono (by decide)) (by rfl) (ma_slot 0 (ma_cons (me_rdB 6 (cb_len) (by rfl) B.len (by decide +kernel)) (ma_nil))) (ml_slot (ml_cons (ml_nil)))) (fun _ _ => rfl)))
  (ms_one (ms_expr (me_append 3 (me_call D__law_put (hr.mono (by decide)) (by rfl) (ma_cons (pm 2) (ma_cons (pm 5) (ma_cons (me_call D__law_put (hr.mono (by decide)) (by rfl) (ma_cons (me_ixN 2 (pm 5) (fun _ _ => rfl)) (ma_cons (pm 7) (ma_cons (me_bin op_subD (me_ix ix_itemD (me_ixN 2 (pm 5) (fun _ _ => rfl)) (pm 7) (fun _ _ => rfl)) (me_int)) (ma_nil)))) (ml_cons (ml_cons (ml_cons (ml_nil))))) (ma_nil)))) (ml_cons (ml_cons (ml_cons (ml_nil))))))))) (ms_nil)))))))))))
  (ms_one (ms_ret (pmv 3)))))
abbrev N__law_scene : List Str := ["pool", "book", "start", "bound", "tally", "counts", "load", "tables", "wide", "things", "thing", "pair", "lap", "x"]
theorem sc__law_scene : FnScope N__law_scene ["pool", "book", "start", "bound", "tally"] (defScope s__law_scene) := ⟨rfl, rfl, rfl, by decide +kernel, rfl, by decide +kernel, by decide +kernel⟩
theorem df__law_scene (F : FnP K "_law_scene" s__law_scene a fd) (hm : mg "_law_scene" = some (.ref a)) (B : Bt mg) (D_is_closed : Df P w K mg base "is_closed" 4 2 fn_is_closed) (D__law_draw : Df P w K mg base "_law_draw" 1 2 fn__law_draw) (D__law_is_closed : Df P w K mg base "_law_is_closed" 2 2 fn__law_is_closed) (D__law_tables : Df P w K mg base "_law_tables" 3 6 fn__law_tables) (D__law_falling : Df P w K mg base "_law_falling" 1 2 fn__law_falling) (D__law_odd : Df P w K mg base "_law_odd" 2 3 fn__law_odd) (D__law_bent : Df P w K mg base "_law_bent" 3 3 fn__law_bent) (D__law_says : Df P w K mg base "_law_says" 1 4 fn__law_says) (D__law_asks : Df P w K mg base "_law_asks" 5 6 fn__law_asks) (D__law_lowered : Df P w K mg base "_law_lowered" 2 3 fn__law_lowered) : Df P w K mg base "_law_scene" 6 5 fn__law_scene :=
  df_mk F hm sc__law_scene (F.bindsN fun _ _ _ _ _ _ us hl => match us, hl with | [_, _, _, _, _], _ => rfl) (b := body__law_scene) fun cdv A outer s H E hr => (ms_cons (ms_set (i := 5) sc__law_scene.nd rfl (by first | exact .inl rfl | exact .inr rfl) (me_call D__law_falling (hr.mono (by decide)) (by rfl) (ma_cons (pm 1) (ma_cons (pm 3) (ma_nil))) (ml_cons (ml_cons (ml_nil)))))
  (ms_cons (ms_set (i := 6) sc__law_scene.nd rfl (by first | exact .inl rfl | exact .inr rfl) (me_bin op_addD (me_ixN 5 (pm 2) (fun _ _ => rfl)) (me_int)))
  (ms_cons (ms_set (i := 7) sc__law_scene.nd rfl (by first | exact .inl rfl | exact .inr rfl) (me_if (mt_cmp (op_leD) (pm 6) (pm 3) (nomark _)) (me_call D__law_tables (hr.mono (by decide)) (by rfl) (ma_slot 0 (ma_cons (pm 1) (ma_cons (pm 2) (ma_cons (pm 6) (ma_cons (pm 3) (ma_cons (me_int) (ma_nil))))))) (ml_slot (ml_cons (ml_cons (ml_cons (ml_cons (ml_cons (ml_nil)))))))) (me_tup (ma_cons (pm 5) (ma_nil)))))
  (ms_cons (ms_set (i := 8) sc__law_scene.nd rfl (by first | exact .inl rfl | exact .inr rfl) (me_if (mt_cmp (op_leD) (pm 6) (pm 3) (nomark _)) (me_call D__law_tables (hr.mono (by decide)) (by rfl) (ma_slot 0 (ma_cons (pm 1) (ma_cons (pm 2) (ma_cons (pm 6) (ma_cons (pm 3) (ma_cons (me_int) (ma_nil))))))) (ml_slot (ml_cons (ml_cons (ml_cons (ml_cons (ml_cons (ml_nil)))))))) (me_tup (ma_cons (me_bin op_mulD (me_tup (ma_cons (me_bin op_powD (me_int) (me_int)) (ma_nil))) (me_rdB 1 (cb_len) (by rfl) B.len (by decide +kernel))) (ma_nil)))))
  (ms_cons (ms_set (i := 9) sc__law_scene.nd rfl (by first | exact .inl rfl | exact .inr rfl) (me_bin op_addD (me_lst (ma_cons (pm 7) (ma_cons (pm 8) (ma_cons (me_slcN 7 (mo_none) (mo_some (me_neg (me_int)))) (ma_nil))))) (me_if (mt_cmp (op_leD) (pm 6) (pm 3) (nomark _)) (me_call D__law_lowered (hr.mono (by decide)) (by rfl) (ma_slot 0 (ma_cons (pm 1) (ma_cons (pm 7) (ma_nil)))) (ml_slot (ml_cons (ml_cons (ml_nil))))) (me_lst (ma_cons (me_tup (ma_nil)) (ma_nil))))))
  (ms_cons (ms_set (i := 9) sc__law_scene.nd rfl (by first | exact .inl rfl | exact .inr rfl) (me_bin op_addD (pm 9) (me_lc rfl sc__law_scene.nd (mi_range1 (by rfl) B.range (ma_cons (me_int) (ma_nil))) (blkOk_by (N := N__law_scene) (sc := defScope s__law_scene) (by decide +kernel)) (fun _ _ _ _ _ => pg_name (i := 12) sc__law_scene.nd rfl (by first | exact .inl rfl | exact .inr rfl)) (fun _ _ _ _ _ => mts_nil) (fun _ _ _ _ _ => me_call D__law_bent (hr.mono (by decide)) (by rfl) (ma_slot 0 (ma_cons (me_if (mt_cmp (op_eqD1 hr.units) (me_bin op_modD (pm 12) (me_int)) (me_int) (nomark _)) (pm 8) (pm 7)) (ma_cons (me_call D__law_draw (hr.mono (by decide)) (by rfl) (ma_slot 0 (ma_cons (me_int) (ma_nil))) (ml_slot (ml_cons (ml_nil)))) (ma_nil)))) (ml_slot (ml_cons (ml_cons (ml_nil))))))))
  (ms_cons (ms_pre [10] (ms_for PassesOwn.never rfl (mi_seq (pm 9)) (mg_name (i := 10) sc__law_scene.nd rfl (by first | exact .inl rfl | exact .inr rfl)) (ms_drp [10] (ms_one (ms_if (mt_not (mt_truth (me_call D__law_asks (hr.mono (by decide)) (by rfl) (ma_cons (pm 1) (ma_cons (pm 2) (ma_cons (pm 6) (ma_cons (pm 3) (ma_cons (pm 10) (ma_slot 4 (ma_nil))))))) (ml_cons (ml_cons (ml_cons (ml_cons (ml_cons (ml_slot (ml_nil)))))))))) (ms_one (ms_ret (me_bl))) (ms_nil))))))
  (ms_cons (ms_pre [10, 11] (ms_for PassesOwn.never rfl (mi_seq (me_tup (ma_cons (me_tup (ma_cons (me_callB (cb_max rfl) (by rfl) B.max (by decide +kernel) (ma_cons (me_int) (ma_cons (me_bin op_subD (pm 6) (me_int)) (ma_nil)))) (ma_cons (pm 3) (ma_nil)))) (ma_cons (me_tup (ma_cons (me_bin op_addD (pm 6) (me_int)) (ma_cons (pm 3) (ma_nil)))) (ma_cons (me_tup (ma_cons (pm 6) (ma_cons (me_bin op_addD (pm 3) (me_int)) (ma_nil)))) (ma_cons (me_tup (ma_cons (pm 6) (ma_cons (me_callB (cb_max rfl) (by rfl) B.max (by decide +kernel) (ma_cons (me_int) (ma_cons (me_bin op_subD (pm 3) (me_int)) (ma_nil)))) (ma_nil)))) (ma_cons (me_tup (ma_cons (me_int) (ma_cons (pm 3) (ma_nil)))) (ma_nil)))))))) (mg_name (i := 11) sc__law_scene.nd rfl (by first | exact .inl rfl | exact .inr rfl)) (ms_drp [10, 11] (ms_one (ms_pre [10] (ms_for PassesOwn.never rfl (mi_seq (me_tup (ma_cons (pm 7) (ma_cons (pm 8) (ma_cons (me_tup (ma_nil)) (ma_nil)))))) (mg_name (i := 10) sc__law_scene.nd rfl (by first | exact .inl rfl | exact .inr rfl)) (ms_drp [10] (ms_one (ms_if (mt_not (mt_truth (me_call D__law_asks (hr.mono (by decide)) (by rfl) (ma_cons (pm 1) (ma_cons (pm 2) (ma_cons (me_ixN 11 (me_int) (fun _ _ => rfl)) (ma_cons (me_ixN 11 (me_int) (fun _ _ => rfl)) (ma_cons (pm 10) (ma_slot 4 (ma_nil))))))) (ml_cons (ml_cons (ml_cons (ml_cons (ml_cons (ml_slot (ml_nil)))))))))) (ms_one (ms_ret (me_bl))) (ms_nil))))))))))
  (ms_cons (ms_set (i := 9) sc__law_scene.nd rfl (by first | exact .inl rfl | exact .inr rfl) (me_lst (ma_cons (pm 5) (ma_cons (me_bin op_mulD (me_tup (ma_cons (me_int) (ma_nil))) (me_rdB 1 (cb_len) (by rfl) B.len (by decide +kernel))) (ma_cons (me_callTy (ct_tuple) (by rfl) B.tuple (by decide +kernel) (ma_cons (me_lc rfl sc__law_scene.nd (mi_seq (pm 5)) (blkOk_by (N := N__law_scene) (sc := defScope s__law_scene) (by decide +kernel)) (fun _ _ _ _ _ => pg_name (i := 13) sc__law_scene.nd rfl (by first | exact .inl rfl | exact .inr rfl)) (fun _ _ _ _ _ => mts_nil) (fun _ _ _ _ _ => me_bin op_mulD (me_int) (pm 13))) (ma_nil))) (ma_cons (me_ixN 7 (me_int) (fun _ _ => rfl)) (ma_nil)))))))
  (ms_cons (ms_set (i := 9) sc__law_scene.nd rfl (by first | exact .inl rfl | exact .inr rfl) (me_bin op_addD (pm 9) (me_lc rfl sc__law_scene.nd (mi_range1 (by rfl) B.range (ma_cons (me_int) (ma_nil))) (blkOk_by (N := N__law_scene) (sc := defScope s__law_scene) (by decide +kernel)) (fun _ _ _ _ _ => pg_name (i := 12) sc__law_scene.nd rfl (by first | exact .inl rfl | exact .inr rfl)) (fun _ _ _ _ _ => mts_nil) (fun _ _ _ _ _ => me_call D__law_odd (hr.mono (by decide)) (by rfl) (ma_slot 0 (ma_cons (pm 5) (ma_cons (me_call D__law_draw (hr.mono (by decide)) (by rfl) (ma_slot 0 (ma_cons (me_int) (ma_nil))) (ml_slot (ml_cons (ml_nil)))) (ma_nil)))) (ml_slot (ml_cons (ml_cons (ml_nil))))))))
  (ms_cons (ms_pre [10] (ms_for PassesOwn.never rfl (mi_seq (pm 9)) (mg_name (i := 10) sc__law_scene.nd rfl (by first | exact .inl rfl | exact .inr rfl)) (ms_drp [10] (ms_one (ms_if (mt_not (mt_truth (me_call D__law_says (hr.mono (by decide)) (by rfl) (ma_cons (me_call D_is_closed (hr.mono (by decide)) (by rfl) (ma_cons (pm 1) (ma_cons (pm 10) (ma_nil))) (ml_cons (ml_cons (ml_nil)))) (ma_cons (me_call D__law_is_closed (hr.mono (by decide)) (by rfl) (ma_cons (pm 1) (ma_cons (pm 10) (ma_nil))) (ml_cons (ml_cons (ml_nil)))) (ma_slot 4 (ma_cons (me_int) (ma_nil))))) (ml_cons (ml_cons (ml_slot (ml_cons (ml_nil)))))))) (ms_one (ms_ret (me_bl))) (ms_nil))))))
  (ms_one (ms_ret (me_bl))))))))))))))
abbrev N_law : List Str := ["script", "pool", "wide", "many", "rows", "made", "order", "book", "bound", "x", "tally", "start", "ring", "more", "thing", "at", "n"]
theorem sc_law : FnScope N_law ["script"] (defScope s_law) := ⟨rfl, rfl, rfl, by decide +kernel, rfl, by decide +kernel, by decide +kernel⟩
theorem ok_law (F : FnP K "law" s_law a fd) (B : Bt mg) (D_is_closed : Df P w K mg base "is_closed" 4 2 fn_is_closed) (D__law_pool : Df P w K mg base "_law_pool" 1 1 fn__law_pool) (D__law_draw : Df P w K mg base "_law_draw" 1 2 fn__law_draw) (D__law_order : Df P w K mg base "_law_order" 2 2 fn__law_order) (D__law_book : Df P w K mg base "_law_book" 2 3 fn__law_book) (D__law_drawn : Df P w K mg base "_law_drawn" 2 2 fn__law_drawn) (D__law_made : Df P w K mg base "_law_made" 2 3 fn__law_made) (D__law_says : Df P w K mg base "_law_says" 1 4 fn__law_says) (D__law_scene : Df P w K mg base "_law_scene" 6 5 fn__law_scene) : FnOk P w K mg base CX0 7 a fd ["script"] (spM K 1 fn_law) :=
  ok_mk F sc_law (b := body_law) fun cdv A outer s H E hr => (ms_cons (ms_set (i := 1) sc_law.nd rfl (by first | exact .inl rfl | exact .inr rfl) (me_call D__law_pool (hr.mono (by decide)) (by rfl) (ma_cons (pm 0) (ma_nil)) (ml_cons (ml_nil))))
  (ms_cons (ms_set (i := 2) sc_law.nd rfl (by first | exact .inl rfl | exact .inr rfl) (me_cmp (op_eqD1 hr.units) (me_call D__law_draw (hr.mono (by decide)) (by rfl) (ma_slot 1 (ma_cons (me_int) (ma_nil))) (ml_slot (ml_cons (ml_nil)))) (me_int) (nomark _)))
  (ms_cons (ms_set (i := 3) sc_law.nd rfl (by first | exact .inl rfl | exact .inr rfl) (me_bin op_addD (me_int) (me_if (mt_truthN 2) (me_bin op_addD (me_int) (me_call D__law_draw (hr.mono (by decide)) (by rfl) (ma_slot 1 (ma_cons (me_int) (ma_nil))) (ml_slot (ml_cons (ml_nil))))) (me_bin op_addD (me_int) (me_call D__law_draw (hr.mono (by decide)) (by rfl) (ma_slot 1 (ma_cons (me_int) (ma_nil))) (ml_slot (ml_cons (ml_nil))))))))
  (ms_cons (ms_set (i := 4) sc_law.nd rfl (by first | exact .inl rfl | exact .inr rfl) (me_call D__law_drawn (hr.mono (by decide)) (by rfl) (ma_slot 1 (ma_cons (me_bin op_subD (pm 3) (me_int)) (ma_nil))) (ml_slot (ml_cons (ml_nil)))))
  (ms_cons (ms_set (i := 5) sc_law.nd rfl (by first | exact .inl rfl | exact .inr rfl) (me_call D__law_made (hr.mono (by decide)) (by rfl) (ma_slot 1 (ma_cons (me_bin op_subD (pm 3) (me_int)) (ma_cons (me_bl) (ma_nil)))) (ml_slot (ml_cons (ml_cons (ml_nil))))))
  (ms_cons (ms_set (i := 6) sc_law.nd rfl (by first | exact .inl rfl | exact .inr rfl) (me_call D__law_order (hr.mono (by decide)) (by rfl) (ma_slot 1 (ma_cons (pm 3) (ma_nil))) (ml_slot (ml_cons (ml_nil)))))
  (ms_cons (ms_set (i := 7) sc_law.nd rfl (by first | exact .inl rfl | exact .inr rfl) (me_call D__law_book (hr.mono (by decide)) (by rfl) (ma_slot 1 (ma_cons (me_bin op_addD (pm 4) (me_ixN 5 (me_int) (fun _ _ => rfl))) (ma_cons (pm 6) (ma_nil)))) (ml_slot (ml_cons (ml_cons (ml_nil))))))
  (ms_cons (ms_set (i := 8) sc_law.nd rfl (by first | exact .inl rfl | exact .inr rfl) (me_bin op_addD (me_int) (me_call D__law_draw (hr.mono (by decide)) (by rfl) (ma_slot 1 (ma_cons (me_if (mt_truthN 2) (me_int) (me_int)) (ma_nil))) (ml_slot (ml_cons (ml_nil))))))
  (ms_cons (ms_set (i := 9) sc_law.nd rfl (by first | exact .inl rfl | exact .inr rfl) (me_bin op_subD (pm 3) (me_int)))
  (ms_cons (ms_set (i := 10) sc_law.nd rfl (by first | exact .inl rfl | exact .inr rfl) (me_rep (me_lst (ma_cons (me_int) (ma_nil))) (me_int)))
  (ms_cons (ms_pre [11] (ms_for PassesOwn.never rfl (mi_seq (me_tup (ma_cons (me_ixN 6 (me_bin op_addD (pm 9) (me_ix ix_itemD (me_tup (ma_cons (me_int) (ma_cons (me_int) (ma_cons (me_int) (ma_cons (me_int) (ma_nil)))))) (me_call D__law_draw (hr.mono (by decide)) (by rfl) (ma_slot 1 (ma_cons (me_int) (ma_nil))) (ml_slot (ml_cons (ml_nil)))) (fun _ _ => rfl))) (fun _ _ => rfl)) (ma_cons (me_ixN 6 (me_bin op_addD (pm 9) (me_ix ix_itemD (me_tup (ma_cons (me_int) (ma_cons (me_int) (ma_cons (me_int) (ma_cons (me_int) (ma_nil)))))) (me_call D__law_draw (hr.mono (by decide)) (by rfl) (ma_slot 1 (ma_cons (me_int) (ma_nil))) (ml_slot (ml_cons (ml_nil)))) (fun _ _ => rfl))) (fun _ _ => rfl)) (ma_cons (me_call D__law_draw (hr.mono (by decide)) (by rfl) (ma_slot 1 (ma_cons (pm 3) (ma_nil))) (ml_slot (ml_cons (ml_nil)))) (ma_nil)))))) (mg_name (i := 11) sc_law.nd rfl (by first | exact .inl rfl | exact .inr rfl)) (ms_drp [11] (ms_one (ms_if (mt_not (mt_truth (me_call D__law_scene (hr.mono (by decide)) (by rfl) (ma_slot 1 (ma_cons (pm 7) (ma_cons (pm 11) (ma_cons (pm 8) (ma_slot 10 (ma_nil)))))) (ml_slot (ml_cons (ml_cons (ml_cons (ml_slot (ml_nil))))))))) (ms_one (ms_ret (me_bl))) (ms_nil))))))
  (ms_cons (ms_set (i := 12) sc_law.nd rfl (by first | exact .inl rfl | exact .inr rfl) (me_rep (me_lst (ma_cons (me_int) (ma_nil))) (pm 3)))
  (ms_cons (ms_sub 12 (me_ix ix_itemD (me_ixN 5 (me_int) (fun _ _ => rfl)) (me_int) (fun _ _ => rfl)) (me_ixN 6 (pm 9) (fun _ _ => rfl)))
  (ms_cons (ms_sub 12 (me_ix ix_itemD (me_ixN 5 (me_int) (fun _ _ => rfl)) (me_int) (fun _ _ => rfl)) (me_ixN 6 (me_bin op_addD (pm 9) (me_int)) (fun _ _ => rfl)))
  (ms_cons (ms_pre [13, 14, 15] (ms_for PassesOwn.never rfl (mi_seq (me_tup (ma_cons (me_lst (ma_nil)) (ma_cons (me_lst (ma_cons (pm 9) (ma_nil))) (ma_cons (me_lst (ma_cons (me_bin op_addD (pm 9) (me_int)) (ma_nil))) (ma_cons (me_lst (ma_cons (me_bin op_addD (pm 9) (me_int)) (ma_nil))) (ma_nil))))))) (mg_name (i := 13) sc_law.nd rfl (by first | exact .inl rfl | exact .inr rfl)) (ms_drp [13, 14, 15] (ms_cons (ms_set (i := 14) sc_law.nd rfl (by first | exact .inl rfl | exact .inr rfl) (me_lstN 12 (by rfl) B.list))
  (ms_cons (ms_pre [15] (ms_for PassesOwn.never rfl (mi_seq (pm 13)) (mg_name (i := 15) sc_law.nd rfl (by first | exact .inl rfl | exact .inr rfl)) (ms_drp [15] (ms_one (ms_sub 14 (me_bin op_addD (me_ixN 14 (me_ixN 6 (pm 15) (fun _ _ => rfl)) (fun _ _ => rfl)) (me_int)) (me_ixN 6 (pm 15) (fun _ _ => rfl)))))))
  (ms_one (ms_if (mt_not (mt_truth (me_call D__law_says (hr.mono (by decide)) (by rfl) (ma_cons (me_call D_is_closed (hr.mono (by decide)) (by rfl) (ma_cons (pm 7) (ma_cons (me_tupN 14 (by rfl) B.tuple) (ma_nil))) (ml_cons (ml_cons (ml_nil)))) (ma_cons (me_cmp (op_eqD1 hr.units) (me_rdB 13 (cb_len) (by rfl) B.len (by decide +kernel)) (me_int) (nomark _)) (ma_slot 10 (ma_cons (me_int) (ma_nil))))) (ml_cons (ml_cons (ml_slot (ml_cons (ml_nil)))))))) (ms_one (ms_ret (me_bl))) (ms_nil))))))))
  (ms_one (ms_ret (me_cmp (op_eqD1 hr.units) (me_callB (cb_len) (by rfl) B.len (by decide +kernel) (ma_cons (me_lc rfl sc_law.nd (mi_seq (pm 10)) (blkOk_by (N := N_law) (sc := defScope s_law) (by decide +kernel)) (fun _ _ _ _ _ => pg_name (i := 16) sc_law.nd rfl (by first | exact .inl rfl | exact .inr rfl)) (fun _ _ _ _ _ => mts_one (mt_cmp (op_eqD1 hr.units) (pm 16) (me_int) (nomark _))) (fun _ _ _ _ _ => pm 16)) (ma_nil))) (me_int) (nomark _)))))))))))))))))))
end
end Law
end
section
set_option Elab.async false
set_option linter.all false
set_option maxRecDepth 100000
set_option maxHeartbeats 16000000
namespace Law
open PySem PySem.Spec L2 MM
def d_is_integer : He.DefD := ⟨("is_integer", none), "is_integer", "is_integer", defArgs s_is_integer, defBody s_is_integer, defScope s_is_integer, [], []⟩
def d_is_number : He.DefD := ⟨("is_number", none), "is_number", "is_number", defArgs s_is_number, defBody s_is_number, defScope s_is_number, [], []⟩
def d_is_tuple : He.DefD := ⟨("is_tuple", none), "is_tuple", "is_tuple", defArgs s_is_tuple, defBody s_is_tuple, defScope s_is_tuple, [], []⟩
def d_are_numbers : He.DefD := ⟨("are_numbers", none), "are_numbers", "are_numbers", defArgs s_are_numbers, defBody s_are_numbers, defScope s_are_numbers, [], []⟩
def d_is_closed : He.DefD := ⟨("is_closed", none), "is_closed", "is_closed", defArgs s_is_closed, defBody s_is_closed, defScope s_is_closed, [], []⟩
def d_holds_picks : He.DefD := ⟨("holds_picks", none), "holds_picks", "holds_picks", defArgs s_holds_picks, defBody s_holds_picks, defScope s_holds_picks, [], []⟩
def d_holds_pens : He.DefD := ⟨("holds_pens", none), "holds_pens", "holds_pens", defArgs s_holds_pens, defBody s_holds_pens, defScope s_holds_pens, [], []⟩
def d_is_falling : He.DefD := ⟨("is_falling", none), "is_falling", "is_falling", defArgs s_is_falling, defBody s_is_falling, defScope s_is_falling, [], []⟩
def d__law_pool : He.DefD := ⟨("_law_pool", none), "_law_pool", "_law_pool", defArgs s__law_pool, defBody s__law_pool, defScope s__law_pool, [], []⟩
def d__law_draw : He.DefD := ⟨("_law_draw", none), "_law_draw", "_law_draw", defArgs s__law_draw, defBody s__law_draw, defScope s__law_draw, [], []⟩
def d__law_order : He.DefD := ⟨("_law_order", none), "_law_order", "_law_order", defArgs s__law_order, defBody s__law_order, defScope s__law_order, [], []⟩
def d__law_book : He.DefD := ⟨("_law_book", none), "_law_book", "_law_book", defArgs s__law_book, defBody s__law_book, defScope s__law_book, [], []⟩
def d__law_drawn : He.DefD := ⟨("_law_drawn", none), "_law_drawn", "_law_drawn", defArgs s__law_drawn, defBody s__law_drawn, defScope s__law_drawn, [], []⟩
def d__law_put : He.DefD := ⟨("_law_put", none), "_law_put", "_law_put", defArgs s__law_put, defBody s__law_put, defScope s__law_put, [], []⟩
def d__law_made : He.DefD := ⟨("_law_made", none), "_law_made", "_law_made", defArgs s__law_made, defBody s__law_made, defScope s__law_made, [], []⟩
def d__law_is_table : He.DefD := ⟨("_law_is_table", none), "_law_is_table", "_law_is_table", defArgs s__law_is_table, defBody s__law_is_table, defScope s__law_is_table, [], []⟩
def d__law_is_closed : He.DefD := ⟨("_law_is_closed", none), "_law_is_closed", "_law_is_closed", defArgs s__law_is_closed, defBody s__law_is_closed, defScope s__law_is_closed, [], []⟩
def d__law_least : He.DefD := ⟨("_law_least", none), "_law_least", "_law_least", defArgs s__law_least, defBody s__law_least, defScope s__law_least, [], []⟩
def d__law_is_falling : He.DefD := ⟨("_law_is_falling", none), "_law_is_falling", "_law_is_falling", defArgs s__law_is_falling, defBody s__law_is_falling, defScope s__law_is_falling, [], []⟩
def d__law_table : He.DefD := ⟨("_law_table", none), "_law_table", "_law_table", defArgs s__law_table, defBody s__law_table, defScope s__law_table, [], []⟩
def d__law_tables : He.DefD := ⟨("_law_tables", none), "_law_tables", "_law_tables", defArgs s__law_tables, defBody s__law_tables, defScope s__law_tables, [], []⟩
def d__law_falling : He.DefD := ⟨("_law_falling", none), "_law_falling", "_law_falling", defArgs s__law_falling, defBody s__law_falling, defScope s__law_falling, [], []⟩
def d__law_odd : He.DefD := ⟨("_law_odd", none), "_law_odd", "_law_odd", defArgs s__law_odd, defBody s__law_odd, defScope s__law_odd, [], []⟩
def d__law_bent : He.DefD := ⟨("_law_bent", none), "_law_bent", "_law_bent", defArgs s__law_bent, defBody s__law_bent, defScope s__law_bent, [], []⟩
def d__law_says : He.DefD := ⟨("_law_says", none), "_law_says", "_law_says", defArgs s__law_says, defBody s__law_says, defScope s__law_says, [], []⟩
def d__law_asks : He.DefD := ⟨("_law_asks", none), "_law_asks", "_law_asks", defArgs s__law_asks, defBody s__law_asks, defScope s__law_asks, [], []⟩
def d__law_lowered : He.DefD := ⟨("_law_lowered", none), "_law_lowered", "_law_lowered", defArgs s__law_lowered, defBody s__law_lowered, defScope s__law_lowered, [], []⟩
def d__law_scene : He.DefD := ⟨("_law_scene", none), "_law_scene", "_law_scene", defArgs s__law_scene, defBody s__law_scene, defScope s__law_scene, [], []⟩
def d_law : He.DefD := ⟨("law", none), "law", "law", defArgs s_law, defBody s_law, defScope s_law, [], []⟩
def fnl : List He.DefD := [d_is_integer, d_is_number, d_is_tuple, d_are_numbers, d_is_closed, d_holds_picks, d_holds_pens, d_is_falling, d__law_pool, d__law_draw, d__law_order, d__law_book, d__law_drawn, d__law_put, d__law_made, d__law_is_table, d__law_is_closed, d__law_least, d__law_is_falling, d__law_table, d__law_tables, d__law_falling, d__law_odd, d__law_bent, d__law_says, d__law_asks, d__law_lowered, d__law_scene, d_law]
def fal : List He.Fa := [.glo "is_integer", .glo "is_number", .glo "is_tuple", .glo "are_numbers", .glo "is_closed", .glo "holds_picks", .glo "holds_pens", .glo "is_falling", .glo "_law_pool", .glo "_law_draw", .glo "_law_order", .glo "_law_book", .glo "_law_drawn", .glo "_law_put", .glo "_law_made", .glo "_law_is_table", .glo "_law_is_closed", .glo "_law_least", .glo "_law_is_falling", .glo "_law_table", .glo "_law_tables", .glo "_law_falling", .glo "_law_odd", .glo "_law_bent", .glo "_law_says", .glo "_law_asks", .glo "_law_lowered", .glo "_law_scene", .glo "law", .free "all", .free "bool", .free "int", .free "isinstance", .free "len", .free "list", .free "max", .free "min", .free "range", .free "str", .free "sum", .free "tuple", .free "zip"]
abbrev Rr : PySem.W.OpenRow := PySem.W.OpenLaw.row PySem.Challenge.rw_alwayswritten_k91_whole_spoilt_tables_cl
abbrev hk : PySem.W.Hook := He.hookD 4 fal fnl
def ob (s : PySem.W.SharedT) : He.AlD := He.obsDG 4 fal fnl (HandSHeadRun.getT s)
theorem ob_eq (s : PySem.W.SharedT) : ob s = hk.obs s.abs := He.obsDG_eq (HandSHeadRun.getT_eq s)
def loose : List PySem.Str := ["is_integer", "is_number", "is_tuple", "are_numbers", "is_closed", "holds_picks", "holds_pens", "is_falling", "_law_pool", "_law_draw", "_law_order", "_law_book", "_law_drawn", "_law_put", "_law_made", "_law_is_table", "_law_is_closed", "_law_least", "_law_is_falling", "_law_table", "_law_tables", "_law_falling", "_law_odd", "_law_bent", "_law_says", "_law_asks", "_law_lowered", "_law_scene"]
theorem run (w : World) : HandSHeadRun.RunEq Rr (PySem.W.view Rr.prog [32]) hk ob 6000 loose w := by
  intro os
  kernel_rfl
theorem facts {P : Program} {w : World} {K : PySem.W.Frag} {h : Heap} {mg : Str → Option Value} {f : Addr} (X : K.In h) (G : h.Ns mainGlobals mg) (hfa : mg ("law" : Str) = some (.ref f)) (c : He.SaysD fal fnl K) :
    ∃ fd : FuncData, (∀ (s : Shared) (v : Value), BindsTo s fd ⟨[v], []⟩ [("script", v)]) ∧ ∀ base : Heap, K.In base → base.Ns mainGlobals mg → FnOk P w K mg base CX0 7 f fd ["script"] (spM K 1 fn_law) := by
  obtain ⟨fd_is_integer, F_is_integer⟩ := c.def_ 0 (d := d_is_integer) rfl
  have g_is_integer := He.glo_ok X G (c.fact 0 (f := .glo "is_integer") rfl)
  obtain ⟨fd_is_number, F_is_number⟩ := c.def_ 1 (d := d_is_number) rfl
  have g_is_number := He.glo_ok X G (c.fact 1 (f := .glo "is_number") rfl)
  obtain ⟨fd_is_tuple, F_is_tuple⟩ := c.def_ 2 (d := d_is_tuple) rfl
  have g_is_tuple := He.glo_ok X G (c.fact 2 (f := .glo "is_tuple") rfl)
  obtain ⟨fd_are_numbers, F_are_numbers⟩ := c.def_ 3 (d := d_are_numbers) rfl
  have g_are_numbers := He.glo_ok X G (c.fact 3 (f := .glo "are_numbers") rfl)
  obtain ⟨fd_is_closed, F_is_closed⟩ := c.def_ 4 (d := d_is_closed) rfl
  have g_is_closed := He.glo_ok X G (c.fact 4 (f := .glo "is_closed") rfl)
  obtain ⟨fd_holds_picks, F_holds_picks⟩ := c.def_ 5 (d := d_holds_picks) rfl
  have g_holds_picks := He.glo_ok X G (c.fact 5 (f := .glo "holds_picks") rfl)
  obtain ⟨fd_holds_pens, F_holds_pens⟩ := c.def_ 6 (d := d_holds_pens) rfl
  have g_holds_pens := He.glo_ok X G (c.fact 6 (f := .glo "holds_pens") rfl)
  obtain ⟨fd_is_falling, F_is_falling⟩ := c.def_ 7 (d := d_is_falling) rfl
  have g_is_falling := He.glo_ok X G (c.fact 7 (f := .glo "is_falling") rfl)
  obtain ⟨fd__law_pool, F__law_pool⟩ := c.def_ 8 (d := d__law_pool) rfl
  have g__law_pool := He.glo_ok X G (c.fact 8 (f := .glo "_law_pool") rfl)
  obtain ⟨fd__law_draw, F__law_draw⟩ := c.def_ 9 (d := d__law_draw) rfl
  have g__law_draw := He.glo_ok X G (c.fact 9 (f := .glo "_law_draw") rfl)
  obtain ⟨fd__law_order, F__law_order⟩ := c.def_ 10 (d := d__law_order) rfl
  have g__law_order := He.glo_ok X G (c.fact 10 (f := .glo "_law_order") rfl)
  obtain ⟨fd__law_book, F__law_book⟩ := c.def_ 11 (d := d__law_book) rfl
  have g__law_book := He.glo_ok X G (c.fact 11 (f := .glo "_law_book") rfl)
  obtain ⟨fd__law_drawn, F__law_drawn⟩ := c.def_ 12 (d := d__law_drawn) rfl
  have g__law_drawn := He.glo_ok X G (c.fact 12 (f := .glo "_law_drawn") rfl)
  obtain ⟨fd__law_put, F__law_put⟩ := c.def_ 13 (d := d__law_put) rfl
  have g__law_put := He.glo_ok X G (c.fact 13 (f := .glo "_law_put") rfl)
  obtain ⟨fd__law_made, F__law_made⟩ := c.def_ 14 (d := d__law_made) rfl
  have g__law_made := He.glo_ok X G (c.fact 14 (f := .glo "_law_made") rfl)
  obtain ⟨fd__law_is_table, F__law_is_table⟩ := c.def_ 15 (d := d__law_is_table) rfl
  have g__law_is_table := He.glo_ok X G (c.fact 15 (f := .glo "_law_is_table") rfl)
  obtain ⟨fd__law_is_closed, F__law_is_closed⟩ := c.def_ 16 (d := d__law_is_closed) rfl
  have g__law_is_closed := He.glo_ok X G (c.fact 16 (f := .glo "_law_is_closed") rfl)
  obtain ⟨fd__law_least, F__law_least⟩ := c.def_ 17 (d := d__law_least) rfl
  have g__law_least := He.glo_ok X G (c.fact 17 (f := .glo "_law_least") rfl)
  obtain ⟨fd__law_is_falling, F__law_is_falling⟩ := c.def_ 18 (d := d__law_is_falling) rfl
  have g__law_is_falling := He.glo_ok X G (c.fact 18 (f := .glo "_law_is_falling") rfl)
  obtain ⟨fd__law_table, F__law_table⟩ := c.def_ 19 (d := d__law_table) rfl
  have g__law_table := He.glo_ok X G (c.fact 19 (f := .glo "_law_table") rfl)
  obtain ⟨fd__law_tables, F__law_tables⟩ := c.def_ 20 (d := d__law_tables) rfl
  have g__law_tables := He.glo_ok X G (c.fact 20 (f := .glo "_law_tables") rfl)
  obtain ⟨fd__law_falling, F__law_falling⟩ := c.def_ 21 (d := d__law_falling) rfl
  have g__law_falling := He.glo_ok X G (c.fact 21 (f := .glo "_law_falling") rfl)
  obtain ⟨fd__law_odd, F__law_odd⟩ := c.def_ 22 (d := d__law_odd) rfl
  have g__law_odd := He.glo_ok X G (c.fact 22 (f := .glo "_law_odd") rfl)
  obtain ⟨fd__law_bent, F__law_bent⟩ := c.def_ 23 (d := d__law_bent) rfl
  have g__law_bent := He.glo_ok X G (c.fact 23 (f := .glo "_law_bent") rfl)
  obtain ⟨fd__law_says, F__law_says⟩ := c.def_ 24 (d := d__law_says) rfl
  have g__law_says := He.glo_ok X G (c.fact 24 (f := .glo "_law_says") rfl)
  obtain ⟨fd__law_asks, F__law_asks⟩ := c.def_ 25 (d := d__law_asks) rfl
  have g__law_asks := He.glo_ok X G (c.fact 25 (f := .glo "_law_asks") rfl)
  obtain ⟨fd__law_lowered, F__law_lowered⟩ := c.def_ 26 (d := d__law_lowered) rfl
  have g__law_lowered := He.glo_ok X G (c.fact 26 (f := .glo "_law_lowered") rfl)
  obtain ⟨fd__law_scene, F__law_scene⟩ := c.def_ 27 (d := d__law_scene) rfl
  have g__law_scene := He.glo_ok X G (c.fact 27 (f := .glo "_law_scene") rfl)
  obtain ⟨fd_law, F_law⟩ := c.def_ 28 (d := d_law) rfl
  have g_law := He.glo_ok X G (c.fact 28 (f := .glo "law") rfl)
  have e := hfa.symm.trans g_law
  cases e
  have B : Bt mg := ⟨He.free_ok X G (c.fact 29 (f := .free "all") rfl), He.free_ok X G (c.fact 30 (f := .free "bool") rfl), He.free_ok X G (c.fact 31 (f := .free "int") rfl), He.free_ok X G (c.fact 32 (f := .free "isinstance") rfl), He.free_ok X G (c.fact 33 (f := .free "len") rfl), He.free_ok X G (c.fact 34 (f := .free "list") rfl), He.free_ok X G (c.fact 35 (f := .free "max") rfl), He.free_ok X G (c.fact 36 (f := .free "min") rfl), He.free_ok X G (c.fact 37 (f := .free "range") rfl), He.free_ok X G (c.fact 38 (f := .free "str") rfl), He.free_ok X G (c.fact 39 (f := .free "sum") rfl), He.free_ok X G (c.fact 40 (f := .free "tuple") rfl), He.free_ok X G (c.fact 41 (f := .free "zip") rfl)⟩
  have b := FunD.bindsA (ps := ["script"]) F_law fun _ _ _ _ _ _ us hl => match us, hl with | [_], _ => rfl
  refine ⟨fd_law, fun s v => b s [v] rfl, fun base _ _ => ?_⟩
  have D_is_integer := df_is_integer (P := P) (w := w) (base := base) F_is_integer g_is_integer B
  have D_is_tuple := df_is_tuple (P := P) (w := w) (base := base) F_is_tuple g_is_tuple B
  have D_holds_picks := df_holds_picks (P := P) (w := w) (base := base) F_holds_picks g_holds_picks B
  have D_holds_pens := df_holds_pens (P := P) (w := w) (base := base) F_holds_pens g_holds_pens B
  have D__law_pool := df__law_pool (P := P) (w := w) (base := base) F__law_pool g__law_pool B
  have D__law_draw := df__law_draw (P := P) (w := w) (base := base) F__law_draw g__law_draw B
  have D__law_put := df__law_put (P := P) (w := w) (base := base) F__law_put g__law_put B
  have D__law_is_table := df__law_is_table (P := P) (w := w) (base := base) F__law_is_table g__law_is_table B
  have D__law_least := df__law_least (P := P) (w := w) (base := base) F__law_least g__law_least B
  have D__law_falling := df__law_falling (P := P) (w := w) (base := base) F__law_falling g__law_falling B
  have D__law_says := df__law_says (P := P) (w := w) (base := base) F__law_says g__law_says B
  have D_is_number := df_is_number (P := P) (w := w) (base := base) F_is_number g_is_number B D_is_integer
  have D__law_order := df__law_order (P := P) (w := w) (base := base) F__law_order g__law_order B D__law_draw
  have D__law_book := df__law_book (P := P) (w := w) (base := base) F__law_book g__law_book B D__law_draw
  have D__law_drawn := df__law_drawn (P := P) (w := w) (base := base) F__law_drawn g__law_drawn B D__law_draw
  have D__law_made := df__law_made (P := P) (w := w) (base := base) F__law_made g__law_made B D__law_draw
  have D__law_is_closed := df__law_is_closed (P := P) (w := w) (base := base) F__law_is_closed g__law_is_closed B D__law_is_table
  have D__law_is_falling := df__law_is_falling (P := P) (w := w) (base := base) F__law_is_falling g__law_is_falling B D__law_is_table D__law_least
  have D__law_table := df__law_table (P := P) (w := w) (base := base) F__law_table g__law_table B D__law_draw D__law_least
  have D__law_odd := df__law_odd (P := P) (w := w) (base := base) F__law_odd g__law_odd B D__law_draw D__law_put
  have D__law_lowered := df__law_lowered (P := P) (w := w) (base := base) F__law_lowered g__law_lowered B D__law_draw D__law_put
  have D_are_numbers := df_are_numbers (P := P) (w := w) (base := base) F_are_numbers g_are_numbers B D_is_number D_is_tuple
  have D__law_tables := df__law_tables (P := P) (w := w) (base := base) F__law_tables g__law_tables B D__law_table
  have D__law_bent := df__law_bent (P := P) (w := w) (base := base) F__law_bent g__law_bent B D__law_draw D__law_put D__law_odd
  have D_is_closed := df_is_closed (P := P) (w := w) (base := base) F_is_closed g_is_closed B D_are_numbers
  have D_is_falling := df_is_falling (P := P) (w := w) (base := base) F_is_falling g_is_falling B D_are_numbers D_holds_picks D_holds_pens
  have D__law_asks := df__law_asks (P := P) (w := w) (base := base) F__law_asks g__law_asks B D_is_falling D__law_is_falling D__law_says
  have D__law_scene := df__law_scene (P := P) (w := w) (base := base) F__law_scene g__law_scene B D_is_closed D__law_draw D__law_is_closed D__law_tables D__law_falling D__law_odd D__law_bent D__law_says D__law_asks D__law_lowered
  exact ok_law F_law B D_is_closed D__law_pool D__law_draw D__law_order D__law_book D__law_drawn D__law_made D__law_says D__law_scene
theorem law_end (ok : ∀ ns : List Int, ns.length ≤ 63 → ∃ outs, fn_law [.frz (.list (ns.map PyData.int))] = some (.frz (.bool true), outs)) (K : PySem.W.Frag) (H : Hp) (a : Addr) (ns : List Int) (hl : ns.length ≤ 63) (hS : SqL K H a (ns.map V.int)) : spM K 1 fn_law [.ref a] H (fun v _ => v = .bl true) fun _ _ _ => False := by
  obtain ⟨outs, e⟩ := ok ns hl
  have dp : ∀ ns : List Int, DpAll K H (ns.map V.int) (ns.map PyData.int) := fun ns => by
    induction ns with
    | nil => exact .nil
    | cons n ns ih => exact .cons (.int n) ih
  refine ⟨H, H, fun _ => 0, [.frz (.list (ns.map PyData.int))], _, outs, rfl, ?_, e, fun v H' F' _ _ _ r => ?_⟩
  · refine ⟨rfl, Same.refl H, Same.refl H, fun i d h => ?_, fun i s ds h c => ?_, fun i ds h => ?_, fun i j s t ds es a n h1 c1 => ?_⟩
    · cases i with
      | zero =>
        cases h
        exact ⟨_, rfl, .lst hS (dp ns)⟩
      | succ i => cases i <;> cases h
    · cases i with
      | zero =>
        cases h
        cases c
      | succ i => cases i <;> cases h
    · cases i with
      | zero => cases h
      | succ i => cases i <;> cases h
    · cases i with
      | zero =>
        cases h1
        cases c1
      | succ i => cases i <;> cases h1
  · cases r
    rfl
end Law
end
section
set_option Elab.async false
set_option linter.all false
set_option maxRecDepth 100000
set_option maxHeartbeats 4000000
namespace Law
open PySem PySem.Spec L2 MM
local macro_rules | `(tactic| walk_at "wp") => `(tactic| try simp only [wE_C, wE_var, wE_move, wE_bin, wE_neg, wE_notV, wE_andV, wE_orV, wE_if, wE_isi, wE_ixN, wE_rd1, wE_tupN, wE_lstN, wE_app, wE_callB, wE_tup, wE_lst, wE_call, wE_lc, wE_slice, wE_slcN, wE_step, wE_bm, wE_rep, wE_lstRg, wB_none, wB_some, wA_nil, wA_cons, wA_slot,
  wT_tru, wT_truN, wT_not, wT_and, wT_or, wT_B, wT_yes, wS_nil, wS_pass, wS_break, wS_cont, wS_retN, thenS_nx, thenS_rt, thenS_bk, thenS_ct, wS_seq, wS_drop, wS_ret, wS_if, wS_set, wS_asg, wS_drp, wS_pre, dropE, wG_set, wG_tup, wG_cons, wG_nil, wG_T2, wI_seq, wI_rng1, wI_rng2, wI_zip, wS_for, wF_fn,
  rdV_frz, rdV_own, rdA_s, rdS_s, rdM_own, rdM_inn, seqQ_l, seqQ_t, zipQ_l, zipQ_t, wrQ_some, wpO_some, wpO_none, wpO_ite, wpO_map, ite_f, ite_t, Sl.d, Sl.put, isInn, truD, ads, arNd, arSls, arSl, outsOf, outsOf_f, outsOf_n, List.tail_cons, back, backG, backAt, arAt, Sl.cont, wipeE, unwipe, frzAt, isa_bool, isa_int, isa_tuple, isa_str, isa_list,
  o_add_int, o_add_list, o_add_tup, o_add_str, o_sub, o_mul_int, o_mul_str, o_mul_tup, o_fdiv, o_mod, o_pow, o_eq_int, o_eq_str, o_eq_bool, o_ne_int, o_ne_str, o_lt, o_le, o_gt, o_ge, o_isN, o_isntN, o_none1, o_none2, o_none3, o_none4, o_len_l, o_len_t, o_max2, o_min2, o_int_i, o_int_b, o_tup_l, o_tup_t, o_lst_l, o_lst_t, o_sl_l, o_sl_t, o_item, o_item_l, o_item_t, atI_n, atI_0, atI_1, atI_2, atI_3, atI_4, atI_5, atI_m1,
  List.getElem?_cons_zero, List.getElem?_cons_succ, List.set_cons_zero, List.set_cons_succ, List.map_cons, List.map_nil, List.append_nil, List.nil_append, List.cons_append, List.replicate_succ, List.replicate_zero, Nat.sub_self, Nat.reduceSub, Nat.reduceAdd, Option.map_some, Option.map_none, Option.bind_some, Option.getD_some, List.all_cons, List.all_nil, Bool.and_true, Bool.true_and, List.nodup_nil, List.nodup_cons, List.mem_nil_iff, List.not_mem_nil, not_false_eq_true, List.length_cons, List.length_nil, Nat.zero_add,
  Bool.not_not, Bool.not_true, Bool.not_false, Bool.not_eq_true', decide_eq_false_iff_not, true_and, and_true, if_true, if_false, Bool.false_eq_true, if_false, reduceCtorEq, PyData.bool.injEq, PyData.int.injEq, PyData.tuple.injEq, PyData.list.injEq, Sl.own.injEq, Option.some.injEq, List.cons.injEq, exists_eq_left', exists_eq_left, Sl.flat, decide_eq_true_eq])
inductive Ow where
  | pen | out | hou
  deriving DecidableEq
def Ow.s : Ow → Str
  | .pen => Str.ofString "pen"
  | .out => Str.ofString "outside"
  | .hou => Str.ofString "house"
structure Stn where
  o : Ow
  ask : Nat
  mv : List (Str × Nat)
def encM (p : Str × Nat) : D := .tuple [.str p.1, .int p.2]
def encS (s : Stn) : D := .tuple [.str s.o.s, .int s.ask, .tuple (s.mv.map encM)]
def encB (b : List Stn) : D := .tuple (b.map encS)
abbrev tI (ns : List Int) : List D := ns.map PyData.int
structure WfS (n : Nat) (s : Stn) : Prop where
  a1 : 1 ≤ s.ask
  a2 : s.ask < 1000000
  a3 : s.o ≠ .pen → s.ask = 1
  m1 : s.mv.length ≤ 20
  m2 : ∀ p ∈ s.mv, p.2 < n
structure Wf (b : List Stn) : Prop where
  l1 : b.length ≤ 100
  l2 : 2 ≤ b.length
  s : ∀ s ∈ b, WfS b.length s
theorem ow_pen (o : Ow) : (o.s = Str.ofString "pen") ↔ o = .pen := by cases o <;> decide
theorem ow_out (o : Ow) : (o.s = Str.ofString "outside") ↔ o = .out := by cases o <;> decide
theorem ow_hou (o : Ow) : (o.s = Str.ofString "house") ↔ o = .hou := by cases o <;> decide
theorem log_lt {n k : Nat} (h : n < 2 ^ k) : n.log2 ≤ k := by
  by_cases h0 : n = 0
  · subst h0
    exact Nat.zero_le _
  · exact Nat.le_of_lt ((Nat.log2_lt h0).mpr h)
def isIntD : D → Bool
  | .int _ => true
  | _ => false
def isNumD : D → Bool
  | .int i => decide (0 ≤ i)
  | _ => false
def isTab (n : Nat) : D → Bool
  | .tuple ds => decide (ds.length = n) && ds.all isNumD
  | _ => false
theorem z_is_integer (d : D) {Q : Sl → Ev → Prop} (h : Q (.frz (.bool (isIntD d))) [none]) : wpF fn_is_integer [.frz d] Q := by
  unfold fn_is_integer body_is_integer
  walk_at "wp"
  cases d <;> simpa [is_bool, is_int, isIntD] using h
theorem z_is_number (d : D) {Q : Sl → Ev → Prop} (h : Q (.frz (.bool (isNumD d))) [none]) : wpF fn_is_number [.frz d] Q := by
  unfold fn_is_number body_is_number
  walk_at "wp"
  refine z_is_integer d ?_
  walk_at "wp"
  cases d <;> simp only [isIntD, Bool.false_eq_true, if_false, if_true] <;> first | exact h | skip
  walk_at "wp"
  exact h
theorem z_is_tuple (d : D) (n : Nat) {Q : Sl → Ev → Prop} (h : Q (.frz (.bool (match d with | .tuple ds => decide (ds.length = n) | _ => false))) [none, none]) : wpF fn_is_tuple [.frz d, .frz (.int n)] Q := by
  unfold fn_is_tuple body_is_tuple
  walk_at "wp"
  cases d <;> simp only [is_tuple, Bool.false_eq_true, if_false, if_true] <;> first | exact h | skip
  walk_at "wp"
  rename_i xs
  have e : ((xs.length : Int) = (n : Int)) = (xs.length = n) := by rw [Int.natCast_inj]
  simp only [e]
  exact h
theorem o_allf {p : D → Bool} {xs : List D} : allD [.list (xs.map fun d => .bool (p d))] = some (.frz (.bool (xs.all p))) := by
  have := o_all (ns := xs.map p)
  rw [List.map_map] at this
  refine this.trans ?_
  rw [List.all_map]
  rfl
theorem z_are_numbers (d : D) (n : Nat) (hn : n ≤ 16000000) {Q : Sl → Ev → Prop} (h : Q (.frz (.bool (isTab n d))) [none, none]) : wpF fn_are_numbers [.frz d, .frz (.int n)] Q := by
  unfold fn_are_numbers body_are_numbers
  walk_at "wp"
  refine z_is_tuple d n ?_
  walk_at "wp"
  cases d <;> simp only [Bool.false_eq_true, if_false, if_true, decide_eq_true_eq] <;> first | exact h | skip
  rename_i xs
  by_cases hx : xs.length = n
  · simp only [hx, if_true]
    walk_at "wp"
    refine wC_pure (fun _ => true) (fun d => .bool (isNumD d)) ?_ (fun i d hd => ?_) ?_
    · rw [hx]; exact Nat.le_trans hn size_big
    · walk_at "wp"
      exact z_is_number d (by walk_at "wp")
    · walk_at "wp"
      rw [List.filter_eq_self.mpr (fun _ _ => rfl), o_allf]
      walk_at "wp"
      simpa [isTab, hx] using h
  · simp only [hx, if_false]
    simpa [isTab, hx] using h
def valI : D → Int
  | .int i => i
  | _ => 0
def tabI : D → List Int
  | .tuple ds => ds.map valI
  | _ => []
theorem isTab_iff {n : Nat} {d : D} (h : isTab n d = true) : d = .tuple (tI (tabI d)) ∧ (tabI d).length = n ∧ ∀ t ∈ tabI d, 0 ≤ t := by
  cases d <;> simp only [isTab, Bool.false_eq_true] at h
  rename_i xs
  simp only [Bool.and_eq_true, decide_eq_true_eq, List.all_eq_true] at h
  refine ⟨?_, by simp [tabI, h.1], ?_⟩
  · show PyData.tuple xs = .tuple ((xs.map valI).map PyData.int)
    congr 1
    rw [List.map_map]
    refine (List.map_id xs).symm.trans (List.map_congr_left fun x hx => ?_)
    have := h.2 x hx
    cases x <;> simp_all [isNumD, valI]
  · intro t ht
    obtain ⟨x, hx, rfl⟩ := List.mem_map.mp ht
    have := h.2 x hx
    cases x <;> simp_all [isNumD, valI]
theorem isTab_tI {ts : List Int} {n : Nat} (hl : ts.length = n) (h : ∀ t ∈ ts, 0 ≤ t) : isTab n (.tuple (tI ts)) = true := by
  simp only [isTab, Bool.and_eq_true, decide_eq_true_eq, List.all_eq_true]
  refine ⟨by simpa using hl, fun x hx => ?_⟩
  obtain ⟨t, ht, rfl⟩ := List.mem_map.mp hx
  simpa [isNumD] using h t ht
theorem tabI_tI {ts : List Int} : tabI (.tuple (tI ts)) = ts := by
  show (ts.map PyData.int).map valI = ts
  rw [List.map_map]
  exact (List.map_congr_left fun x _ => rfl).trans (List.map_id ts)
def gt (ts : List Int) (i : Nat) : Int := ts.getD i 0
theorem tI_at {ts : List Int} {i : Nat} (h : i < ts.length) : (tI ts)[i]? = some (.int (gt ts i)) := by
  rw [List.getElem?_map, List.getElem?_eq_getElem h]
  simp [gt, List.getD_eq_getElem?_getD, List.getElem?_eq_getElem h]
instance : Inhabited Stn := ⟨⟨.pen, 1, []⟩⟩
def st (b : List Stn) (i : Nat) : Stn := b.getD i default
theorem b_at {b : List Stn} {i : Nat} (h : i < b.length) : (b.map encS)[i]? = some (encS (st b i)) := by
  rw [List.getElem?_map, List.getElem?_eq_getElem h]
  simp [st, List.getD_eq_getElem?_getD, List.getElem?_eq_getElem h]
theorem st_mem {b : List Stn} {i : Nat} (h : i < b.length) : st b i ∈ b := by
  simp [st, List.getD_eq_getElem?_getD, List.getElem?_eq_getElem h]
theorem zip_at {ts : List Int} {b : List Stn} {i : Nat} {d : D} (h : (zipD (tI ts) (b.map encS))[i]? = some d) : i < ts.length ∧ i < b.length ∧ d = .tuple [.int (gt ts i), encS (st b i)] := by
  induction ts generalizing b i with
  | nil => cases b <;> simp [zipD] at h
  | cons t ts ih =>
    cases b with
    | nil => simp [zipD] at h
    | cons s b =>
      cases i with
      | zero =>
        simp [zipD] at h
        simp [← h, gt, st]
      | succ i =>
        have := ih (b := b) (i := i) (by simpa [zipD] using h)
        simpa [gt, st] using this
theorem zip_len {ts : List Int} {b : List Stn} (h : ts.length = b.length) : (zipD (tI ts) (b.map encS)).length = b.length := by
  rw [zipD_len]
  simp [h]
def told (s : Stn) (ts : List Int) : List Int := s.mv.map fun p => gt ts p.2
def pick (o : Ow) (l : List Int) : Int := match o with
  | .pen => l.sum
  | .out => minI l
  | .hou => maxI l
def most (s : Stn) (ts : List Int) : Int := if s.mv = [] then 0 else pick s.o (told s ts) / s.ask
theorem told_emp {s : Stn} {ts : List Int} : (told s ts).isEmpty = true ↔ s.mv = [] := by simp [told]
theorem tI_emp {ts : List Int} : (tI ts).isEmpty = ts.isEmpty := by cases ts <;> rfl
theorem most_nil {s : Stn} {ts : List Int} (h : s.mv = []) : most s ts = 0 := by simp [most, h]
theorem most_cons {s : Stn} {ts : List Int} (h : s.mv ≠ []) : most s ts = pick s.o (told s ts) / s.ask := by simp [most, h]
def gf (ts : List Int) : D → D
  | .tuple [_, .int g] => .int (gt ts g.toNat)
  | _ => .none
theorem gf_map {ts : List Int} {s : Stn} {p : D → Bool} (hp : ∀ d ∈ s.mv.map encM, p d = true) : ((s.mv.map encM).filter p).map (gf ts) = tI (told s ts) := by
  rw [List.filter_eq_self.mpr hp, List.map_map]
  show _ = (List.map _ _).map _
  rw [List.map_map]
  refine List.map_congr_left fun q _ => ?_
  simp [encM, gf]
theorem mv_at {n : Nat} {s : Stn} (w : WfS n s) {i : Nat} {d : D} (h : (s.mv.map encM)[i]? = some d) : ∃ p ∈ s.mv, d = encM p ∧ p.2 < n := by
  rw [List.getElem?_map, Option.map_eq_some_iff] at h
  obtain ⟨p, hp, rfl⟩ := h
  have := List.mem_of_getElem? hp
  exact ⟨p, this, rfl, w.m2 p this⟩
theorem told_nil {s : Stn} {ts : List Int} : told s ts = [] ↔ s.mv = [] := by simp [told]
def closedB (b : List Stn) (ts : List Int) : Bool := (List.range b.length).all fun i => decide (gt ts i ≤ most (st b i) ts)
def closedD (b : List Stn) (d : D) : Bool := isTab b.length d && closedB b (tabI d)
theorem z_is_closed (b : List Stn) (w : Wf b) (d : D) {Q : Sl → Ev → Prop} (h : Q (.frz (.bool (closedD b d))) [none, none]) : wpF fn_is_closed [.frz (encB b), .frz d] Q := by
  unfold fn_is_closed body_is_closed encB
  walk_at "wp"
  refine z_are_numbers d _ (by simpa using Nat.le_trans w.l1 (by omega)) ?_
  walk_at "wp"
  simp only [List.length_map]
  cases hd : isTab b.length d with
  | false => simpa [closedD, hd] using h
  | true =>
    obtain ⟨e, hl, hp⟩ := isTab_iff hd
    have ec : closedD b d = closedB b (tabI d) := by simp [closedD, hd]
    rw [ec] at h
    revert h hl hp e
    generalize tabI d = ts
    intro h e hl hp
    subst e
    try simp only [Bool.not_true, Bool.false_eq_true, if_false]
    walk_at "wp"
    refine wL_find (fun i => !decide (gt ts i ≤ most (st b i) ts)) (.frz (.bool false)) (fun ev => ev = _) rfl (fun i d ev hd hev => ?_) (fun ev i hi hp => ?_) (fun ev hp hev => ?_)
    · subst hev
      obtain ⟨h1, h2, rfl⟩ := zip_at hd
      have ws := w.s _ (st_mem h2)
      walk_at "wp"
      simp only [encS]
      walk_at "wp"
      refine wC_pure (fun _ => true) (gf ts) ?_ (fun i d hd => ?_) ?_
      · rw [List.length_map]
        exact Nat.le_trans ws.m1 (Nat.le_trans (by omega) size_big)
      · obtain ⟨p, hp, rfl, hp2⟩ := mv_at ws hd
        simp only [encM]
        walk_at "wp"
        rw [tI_at (by omega)]
        walk_at "wp"
        rfl
      · rw [gf_map (fun _ _ => rfl)]
        walk_at "wp"
        have a1 := ws.a1
        have a2 := ws.a2
        have a3 := ws.a3
        rw [tI_emp]
        cases hn : (told (st b i) ts).isEmpty with
        | true =>
          rw [most_nil (told_emp.mp hn)]
          walk_at "wp"
          split <;> omega
        | false =>
          rw [most_cons (fun h => by rw [told_emp.mpr h] at hn; cases hn)]
          have hn' : told (st b i) ts ≠ [] := fun h => by rw [h] at hn; cases hn
          cases ho : (st b i).o with
          | pen =>
            simp only [ow_pen, ow_out, ow_hou, reduceCtorEq, if_false, if_true, o_sum]
            walk_at "wp"
            refine ⟨⟨by omega, Nat.lt_of_le_of_lt (log_lt (k := 64) (by omega)) (by decide)⟩, ?_⟩
            simp only [pick]
            split <;> omega
          | out =>
            simp only [ow_pen, ow_out, ow_hou, reduceCtorEq, if_false, if_true, o_min hn', o_max hn']
            walk_at "wp"
            simp only [pick, a3 (by rw [ho]; decide), Int.natCast_one, Int.ediv_one]
            split <;> omega
          | hou =>
            simp only [ow_pen, ow_out, ow_hou, reduceCtorEq, if_false, if_true, o_min hn', o_max hn']
            walk_at "wp"
            simp only [pick, a3 (by rw [ho]; decide), Int.natCast_one, Int.ediv_one]
            split <;> omega
    · walk_at "wp"
      have : closedB b ts = false := by
        rw [← Bool.not_eq_true]
        intro hc
        rw [zip_len hl] at hi
        have := of_decide_eq_true (List.all_eq_true.mp hc i (List.mem_range.mpr hi))
        simp only [this, decide_true, Bool.not_true, Bool.false_eq_true] at hp
      rw [this] at h
      exact h
    · subst hev
      walk_at "wp"
      have : closedB b ts = true := by
        refine List.all_eq_true.mpr fun i hi => ?_
        have := hp i (by rw [zip_len hl]; exact List.mem_range.mp hi)
        simpa using this
      rw [this] at h
      exact h
end Law
end
section
set_option Elab.async false
set_option linter.all false
set_option maxRecDepth 100000
set_option maxHeartbeats 4000000
namespace Law
open PySem PySem.Spec L2 MM
local macro_rules | `(tactic| walk_at "wp") => `(tactic| try simp only [wE_C, wE_var, wE_move, wE_bin, wE_neg, wE_notV, wE_andV, wE_orV, wE_if, wE_isi, wE_ixN, wE_rd1, wE_tupN, wE_lstN, wE_app, wE_callB, wE_tup, wE_lst, wE_call, wE_lc, wE_slice, wE_slcN, wE_step, wE_bm, wE_rep, wE_lstRg, wB_none, wB_some, wA_nil, wA_cons, wA_slot,
  wT_tru, wT_truN, wT_not, wT_and, wT_or, wT_B, wT_yes, wS_nil, wS_pass, wS_break, wS_cont, wS_retN, thenS_nx, thenS_rt, thenS_bk, thenS_ct, wS_seq, wS_drop, wS_ret, wS_if, wS_set, wS_asg, wS_drp, wS_pre, dropE, wG_set, wG_tup, wG_cons, wG_nil, wG_T2, wI_seq, wI_rng1, wI_rng2, wI_zip, wS_for, wF_fn,
  rdV_frz, rdV_own, rdA_s, rdS_s, rdM_own, rdM_inn, seqQ_l, seqQ_t, zipQ_l, zipQ_t, wrQ_some, wpO_some, wpO_none, wpO_ite, wpO_map, ite_f, ite_t, Sl.d, Sl.put, isInn, truD, ads, arNd, arSls, arSl, outsOf, outsOf_f, outsOf_n, List.tail_cons, back, backG, backAt, arAt, Sl.cont, wipeE, unwipe, frzAt, isa_bool, isa_int, isa_tuple, isa_str, isa_list,
  o_add_int, o_add_list, o_add_tup, o_add_str, o_sub, o_mul_int, o_mul_str, o_mul_tup, o_fdiv, o_mod, o_pow, o_eq_int, o_eq_str, o_eq_bool, o_ne_int, o_ne_str, o_lt, o_le, o_gt, o_ge, o_isN, o_isntN, o_none1, o_none2, o_none3, o_none4, o_len_l, o_len_t, o_max2, o_min2, o_int_i, o_int_b, o_tup_l, o_tup_t, o_lst_l, o_lst_t, o_sl_l, o_sl_t, o_item, o_item_l, o_item_t, atI_n, atI_0, atI_1, atI_2, atI_3, atI_4, atI_5, atI_m1,
  List.getElem?_cons_zero, List.getElem?_cons_succ, List.set_cons_zero, List.set_cons_succ, List.map_cons, List.map_nil, List.append_nil, List.nil_append, List.cons_append, List.replicate_succ, List.replicate_zero, Nat.sub_self, Nat.reduceSub, Nat.reduceAdd, Option.map_some, Option.map_none, Option.bind_some, Option.getD_some, List.all_cons, List.all_nil, Bool.and_true, Bool.true_and, List.nodup_nil, List.nodup_cons, List.mem_nil_iff, List.not_mem_nil, not_false_eq_true, List.length_cons, List.length_nil, Nat.zero_add,
  Bool.not_not, Bool.not_true, Bool.not_false, Bool.not_eq_true', decide_eq_false_iff_not, true_and, and_true, if_true, if_false, Bool.false_eq_true, if_false, reduceCtorEq, PyData.bool.injEq, PyData.int.injEq, PyData.tuple.injEq, PyData.list.injEq, Sl.own.injEq, Option.some.injEq, List.cons.injEq, exists_eq_left', exists_eq_left, Sl.flat, decide_eq_true_eq])
local macro_rules | `(tactic| walk_at "ws") => `(tactic| try simp only [wE_C, wE_var, wE_move, wE_bin, wE_neg, wE_notV, wE_andV, wE_orV, wE_if, wE_isi, wE_ixN, wE_rd1, wE_tupN, wE_lstN, wE_app, wE_callB, wE_tup, wE_lst, wE_call, wE_lc, wE_slice, wE_slcN, wE_step, wE_bm, wE_rep, wE_lstRg, wB_none, wB_some, wA_nil, wA_cons, wA_slot,
  wT_tru, wT_truN, wT_not, wT_and, wT_or, wT_B, wT_yes, wS_nil, wS_pass, wS_break, wS_cont, wS_retN, thenS_nx, thenS_rt, thenS_bk, thenS_ct, wS_drop, wS_ret, wS_if, wS_set, wS_asg, wS_drp, wS_pre, dropE, wG_set, wG_tup, wG_cons, wG_nil, wG_T2, wI_seq, wI_rng1, wI_rng2, wI_zip, wS_for, wF_fn,
  rdV_frz, rdV_own, rdA_s, rdS_s, rdM_own, rdM_inn, seqQ_l, seqQ_t, zipQ_l, zipQ_t, wrQ_some, wpO_some, wpO_none, wpO_ite, wpO_map, ite_f, ite_t, Sl.d, Sl.put, isInn, truD, ads, arNd, arSls, arSl, outsOf, outsOf_f, outsOf_n, List.tail_cons, back, backG, backAt, arAt, Sl.cont, wipeE, unwipe, frzAt, isa_bool, isa_int, isa_tuple, isa_str, isa_list,
  o_add_int, o_add_list, o_add_tup, o_add_str, o_sub, o_mul_int, o_mul_str, o_mul_tup, o_fdiv, o_mod, o_pow, o_eq_int, o_eq_str, o_eq_bool, o_ne_int, o_ne_str, o_lt, o_le, o_gt, o_ge, o_isN, o_isntN, o_none1, o_none2, o_none3, o_none4, o_len_l, o_len_t, o_max2, o_min2, o_int_i, o_int_b, o_tup_l, o_tup_t, o_lst_l, o_lst_t, o_sl_l, o_sl_t, o_item, o_item_l, o_item_t, atI_n, atI_0, atI_1, atI_2, atI_3, atI_4, atI_5, atI_m1,
  List.getElem?_cons_zero, List.getElem?_cons_succ, List.set_cons_zero, List.set_cons_succ, List.map_cons, List.map_nil, List.append_nil, List.nil_append, List.cons_append, List.replicate_succ, List.replicate_zero, Nat.sub_self, Nat.reduceSub, Nat.reduceAdd, Option.map_some, Option.map_none, Option.bind_some, Option.getD_some, List.all_cons, List.all_nil, Bool.and_true, Bool.true_and, List.nodup_nil, List.nodup_cons, List.mem_nil_iff, List.not_mem_nil, not_false_eq_true, List.length_cons, List.length_nil, Nat.zero_add,
  Bool.not_not, Bool.not_true, Bool.not_false, Bool.not_eq_true', decide_eq_false_iff_not, true_and, and_true, if_true, if_false, Bool.false_eq_true, if_false, reduceCtorEq, PyData.bool.injEq, PyData.int.injEq, PyData.tuple.injEq, PyData.list.injEq, Sl.own.injEq, Option.some.injEq, List.cons.injEq, exists_eq_left', exists_eq_left, Sl.flat, decide_eq_true_eq])
local macro_rules | `(tactic| walk_at "st") => `(tactic| (refine wS_seq.mpr ?_; try simp only [wE_C, wE_var, wE_move, wE_bin, wE_neg, wE_notV, wE_andV, wE_orV, wE_if, wE_isi, wE_ixN, wE_rd1, wE_tupN, wE_lstN, wE_app, wE_callB, wE_tup, wE_lst, wE_call, wE_lc, wE_slice, wE_slcN, wE_step, wE_bm, wE_rep, wE_lstRg, wB_none, wB_some, wA_nil, wA_cons, wA_slot,
  wT_tru, wT_truN, wT_not, wT_and, wT_or, wT_B, wT_yes, wS_nil, wS_pass, wS_break, wS_cont, wS_retN, thenS_nx, thenS_rt, thenS_bk, thenS_ct, wS_drop, wS_ret, wS_if, wS_set, wS_asg, wS_drp, wS_pre, dropE, wG_set, wG_tup, wG_cons, wG_nil, wG_T2, wI_seq, wI_rng1, wI_rng2, wI_zip, wS_for, wF_fn,
  rdV_frz, rdV_own, rdA_s, rdS_s, rdM_own, rdM_inn, seqQ_l, seqQ_t, zipQ_l, zipQ_t, wrQ_some, wpO_some, wpO_none, wpO_ite, wpO_map, ite_f, ite_t, Sl.d, Sl.put, isInn, truD, ads, arNd, arSls, arSl, outsOf, outsOf_f, outsOf_n, List.tail_cons, back, backG, backAt, arAt, Sl.cont, wipeE, unwipe, frzAt, isa_bool, isa_int, isa_tuple, isa_str, isa_list,
  o_add_int, o_add_list, o_add_tup, o_add_str, o_sub, o_mul_int, o_mul_str, o_mul_tup, o_fdiv, o_mod, o_pow, o_eq_int, o_eq_str, o_eq_bool, o_ne_int, o_ne_str, o_lt, o_le, o_gt, o_ge, o_isN, o_isntN, o_none1, o_none2, o_none3, o_none4, o_len_l, o_len_t, o_max2, o_min2, o_int_i, o_int_b, o_tup_l, o_tup_t, o_lst_l, o_lst_t, o_sl_l, o_sl_t, o_item, o_item_l, o_item_t, atI_n, atI_0, atI_1, atI_2, atI_3, atI_4, atI_5, atI_m1,
  List.getElem?_cons_zero, List.getElem?_cons_succ, List.set_cons_zero, List.set_cons_succ, List.map_cons, List.map_nil, List.append_nil, List.nil_append, List.cons_append, List.replicate_succ, List.replicate_zero, Nat.sub_self, Nat.reduceSub, Nat.reduceAdd, Option.map_some, Option.map_none, Option.bind_some, Option.getD_some, List.all_cons, List.all_nil, Bool.and_true, Bool.true_and, List.nodup_nil, List.nodup_cons, List.mem_nil_iff, List.not_mem_nil, not_false_eq_true, List.length_cons, List.length_nil, Nat.zero_add,
  Bool.not_not, Bool.not_true, Bool.not_false, Bool.not_eq_true', decide_eq_false_iff_not, true_and, and_true, if_true, if_false, Bool.false_eq_true, if_false, reduceCtorEq, PyData.bool.injEq, PyData.int.injEq, PyData.tuple.injEq, PyData.list.injEq, Sl.own.injEq, Option.some.injEq, List.cons.injEq, exists_eq_left', exists_eq_left, Sl.flat, decide_eq_true_eq]))
theorem z__law_is_table (b : List Stn) (w : Wf b) (d : D) {Q : Sl → Ev → Prop} (h : Q (.frz (.bool (isTab b.length d))) [none, none]) : wpF fn__law_is_table [.frz (encB b), .frz d] Q := by
  unfold fn__law_is_table body__law_is_table encB
  walk_at "wp"
  cases d <;> simp only [is_tuple, Bool.false_eq_true, if_false, if_true] <;> first | exact h | skip
  rename_i xs
  walk_at "wp"
  simp only [List.length_map, Int.natCast_inj]
  by_cases hx : xs.length = b.length
  · simp only [hx, decide_true, Bool.not_true, Bool.false_eq_true, if_false, not_true_eq_false]
    refine wC_pure (fun d => !isNumD d) (fun d => d) ?_ (fun i d hd => ?_) ?_
    · rw [hx]; exact Nat.le_trans w.l1 (Nat.le_trans (by omega) size_big)
    · cases d <;> (walk_at "wp") <;> simp only [is_int, is_bool, isNumD] <;> (walk_at "wp")
      rename_i i
      by_cases hi : i < 0
      · simp [hi, Int.not_le.mpr hi]
      · simp [hi, Int.not_lt.mp hi]
    · walk_at "wp"
      have e : isTab b.length (.tuple xs) = decide (((List.map (fun d => d) (List.filter (fun d => !isNumD d) xs)).length : Int) = 0) := by
        rw [List.map_id']
        simp only [isTab, hx, decide_true, Bool.true_and]
        rw [Bool.eq_iff_iff]
        simp only [List.all_eq_true, decide_eq_true_eq]
        constructor
        · intro hh
          have : List.filter (fun d => !isNumD d) xs = [] := List.filter_eq_nil_iff.mpr fun x hx => by simp [hh x hx]
          rw [this]
          rfl
        · intro hh x hx
          have := List.filter_eq_nil_iff.mp (List.eq_nil_of_length_eq_zero (by omega : (List.filter (fun d => !isNumD d) xs).length = 0)) x hx
          simpa using this
      rw [← e]
      exact h
  · simp only [hx, decide_false, Bool.not_false, if_true]
    simpa [isTab, hx] using h
def smallT (d : D) : Prop := ∀ t ∈ tabI d, t < 2 ^ 1000
theorem log_mul {t : Int} {a : Nat} (h0 : 0 ≤ t) (h : t < 2 ^ 1000) (ha : a < 1000000) : t.natAbs.log2 + (a : Int).natAbs.log2 < 1000000 := by
  have h1 : t.natAbs.log2 ≤ 1000 := log_lt (by omega)
  have h2 : (a : Int).natAbs.log2 ≤ 64 := log_lt (by omega)
  omega
theorem most_iff {n : Nat} {s : Stn} (w : WfS n s) {ts : List Int} {c : Int} : c ≤ most s ts ↔ c * s.ask ≤ (if s.mv = [] then 0 else pick s.o (told s ts)) := by
  have a1 := w.a1
  unfold most
  split
  · constructor
    · intro h; exact Int.mul_nonpos_of_nonpos_of_nonneg h (by omega)
    · intro h
      refine Int.not_lt.mp fun hc => ?_
      have := Int.mul_pos hc (by omega : (0:Int) < s.ask)
      omega
  · exact Int.le_ediv_iff_mul_le (by omega)
theorem z__law_is_closed (b : List Stn) (w : Wf b) (d : D) (hb : smallT d) {Q : Sl → Ev → Prop} (h : Q (.frz (.bool (closedD b d))) [none, none]) : wpF fn__law_is_closed [.frz (encB b), .frz d] Q := by
  unfold fn__law_is_closed body__law_is_closed
  walk_at "wp"
  refine z__law_is_table b w d ?_
  unfold encB
  walk_at "wp"
  simp only [List.length_map]
  cases hd : isTab b.length d with
  | false => simpa [closedD, hd] using h
  | true =>
    obtain ⟨e, hl, hp⟩ := isTab_iff hd
    have ec : closedD b d = closedB b (tabI d) := by simp [closedD, hd]
    rw [ec] at h
    unfold smallT at hb
    revert h hl hp e hb
    generalize tabI d = ts
    intro hb h e hl hp
    subst e
    walk_at "wp"
    have l1 := w.l1
    refine ⟨by omega, ?_⟩
    refine wL_find (fun i => !decide (gt ts i ≤ most (st b i) ts)) (.frz (.bool false)) (fun ev => ev = _) rfl (fun i d ev hd hev => ?_) (fun ev i hi hp => ?_) (fun ev hp hev => ?_)
    · subst hev
      obtain ⟨hi, rfl⟩ := intsD_at hd
      have hi : i < b.length := by omega
      have ws := w.s _ (st_mem hi)
      have hp' := hp (gt ts i) (by simp [gt, List.getD_eq_getElem?_getD, List.getElem?_eq_getElem (show i < ts.length by omega)])
      have hb' := hb (gt ts i) (by simp [gt, List.getD_eq_getElem?_getD, List.getElem?_eq_getElem (show i < ts.length by omega)])
      rw [Int.zero_add]
      walk_at "ws"
      walk_at "st"
      rw [b_at hi]
      simp only [encS]
      walk_at "ws"
      refine wC_pure (fun _ => true) (gf ts) ?_ (fun i d hd => ?_) ?_
      · rw [List.length_map]
        exact Nat.le_trans ws.m1 (Nat.le_trans (by omega) size_big)
      · obtain ⟨p, hp, rfl, hp2⟩ := mv_at ws hd
        simp only [encM]
        walk_at "wp"
        rw [tI_at (by omega)]
        walk_at "wp"
        rfl
      · rw [gf_map (fun _ _ => rfl)]
        simp only [most_iff ws]
        have a1 := ws.a1
        have a2 := ws.a2
        have hm := log_mul hp' hb' a2
        walk_at "ws"
        walk_at "st"
        walk_at "st"
        simp only [List.length_map, b_at hi, tI_at (show i < ts.length by omega), encS]
        walk_at "ws"
        have hl0 : (0 < ((told (st b i) ts).length : Int)) ↔ (st b i).mv ≠ [] := by
          rw [show ((told (st b i) ts).length : Int) = ((st b i).mv.length : Int) by simp [told], ← List.length_pos_iff]
          omega
        simp only [hl0]
        by_cases hn : (st b i).mv = []
        · simp only [hn, if_true, ne_eq, not_true_eq_false, if_false, hm]
          walk_at "ws"
          split <;> omega
        · have hn' : told (st b i) ts ≠ [] := fun h => hn (told_nil.mp h)
          cases ho : (st b i).o <;> simp only [hn, if_true, ne_eq, not_false_eq_true, if_false, hm, ho, ow_pen, ow_out, ow_hou, reduceCtorEq, o_sum, o_min hn', o_max hn'] <;> (walk_at "ws") <;> (try simp only [hm, true_and]) <;> simp only [pick] <;> (try refine ⟨hm, ?_⟩) <;> split <;> omega
    · walk_at "wp"
      have : closedB b ts = false := by
        rw [← Bool.not_eq_true]
        intro hc
        have := of_decide_eq_true (List.all_eq_true.mp hc i (List.mem_range.mpr (by rw [intsD_len] at hi; omega)))
        simp only [this, decide_true, Bool.not_true, Bool.false_eq_true] at hp
      rw [this] at h
      exact h
    · subst hev
      walk_at "wp"
      have : closedB b ts = true := by
        refine List.all_eq_true.mpr fun i hi => ?_
        have := hp i (by rw [intsD_len]; have := List.mem_range.mp hi; omega)
        simpa using this
      rw [this] at h
      exact h
end Law
end
section
set_option Elab.async false
set_option linter.all false
set_option maxRecDepth 100000
set_option maxHeartbeats 4000000
namespace Law
open PySem PySem.Spec L2 MM
local macro_rules | `(tactic| walk_at "wp") => `(tactic| try simp only [wE_C, wE_var, wE_move, wE_bin, wE_neg, wE_notV, wE_andV, wE_orV, wE_if, wE_isi, wE_ixN, wE_rd1, wE_tupN, wE_lstN, wE_app, wE_callB, wE_tup, wE_lst, wE_call, wE_lc, wE_slice, wE_slcN, wE_step, wE_bm, wE_rep, wE_lstRg, wB_none, wB_some, wA_nil, wA_cons, wA_slot,
  wT_tru, wT_truN, wT_not, wT_and, wT_or, wT_B, wT_yes, wS_nil, wS_pass, wS_break, wS_cont, wS_retN, thenS_nx, thenS_rt, thenS_bk, thenS_ct, wS_seq, wS_drop, wS_ret, wS_if, wS_set, wS_asg, wS_drp, wS_pre, dropE, wG_set, wG_tup, wG_cons, wG_nil, wG_T2, wI_seq, wI_rng1, wI_rng2, wI_zip, wS_for, wF_fn,
  rdV_frz, rdV_own, rdA_s, rdS_s, rdM_own, rdM_inn, seqQ_l, seqQ_t, zipQ_l, zipQ_t, wrQ_some, wpO_some, wpO_none, wpO_ite, wpO_map, ite_f, ite_t, Sl.d, Sl.put, isInn, truD, ads, arNd, arSls, arSl, outsOf, outsOf_f, outsOf_n, List.tail_cons, back, backG, backAt, arAt, Sl.cont, wipeE, unwipe, frzAt, isa_bool, isa_int, isa_tuple, isa_str, isa_list,
  o_add_int, o_add_list, o_add_tup, o_add_str, o_sub, o_mul_int, o_mul_str, o_mul_tup, o_fdiv, o_mod, o_pow, o_eq_int, o_eq_str, o_eq_bool, o_ne_int, o_ne_str, o_lt, o_le, o_gt, o_ge, o_isN, o_isntN, o_none1, o_none2, o_none3, o_none4, o_len_l, o_len_t, o_max2, o_min2, o_int_i, o_int_b, o_tup_l, o_tup_t, o_lst_l, o_lst_t, o_sl_l, o_sl_t, o_item, o_item_l, o_item_t, atI_n, atI_0, atI_1, atI_2, atI_3, atI_4, atI_5, atI_m1,
  List.getElem?_cons_zero, List.getElem?_cons_succ, List.set_cons_zero, List.set_cons_succ, List.map_cons, List.map_nil, List.append_nil, List.nil_append, List.cons_append, List.replicate_succ, List.replicate_zero, Nat.sub_self, Nat.reduceSub, Nat.reduceAdd, Option.map_some, Option.map_none, Option.bind_some, Option.getD_some, List.all_cons, List.all_nil, Bool.and_true, Bool.true_and, List.nodup_nil, List.nodup_cons, List.mem_nil_iff, List.not_mem_nil, not_false_eq_true, not_true_eq_false, List.length_cons, List.length_nil, Nat.zero_add,
  Bool.not_not, Bool.not_true, Bool.not_false, Bool.not_eq_true', decide_eq_false_iff_not, true_and, and_true, if_true, if_false, Bool.false_eq_true, if_false, reduceCtorEq, PyData.bool.injEq, PyData.int.injEq, PyData.tuple.injEq, PyData.list.injEq, Sl.own.injEq, Option.some.injEq, List.cons.injEq, exists_eq_left', exists_eq_left, Sl.flat, decide_eq_true_eq])
local macro_rules | `(tactic| walk_at "ws") => `(tactic| try simp only [wE_C, wE_var, wE_move, wE_bin, wE_neg, wE_notV, wE_andV, wE_orV, wE_if, wE_isi, wE_ixN, wE_rd1, wE_tupN, wE_lstN, wE_app, wE_callB, wE_tup, wE_lst, wE_call, wE_lc, wE_slice, wE_slcN, wE_step, wE_bm, wE_rep, wE_lstRg, wB_none, wB_some, wA_nil, wA_cons, wA_slot,
  wT_tru, wT_truN, wT_not, wT_and, wT_or, wT_B, wT_yes, wS_nil, wS_pass, wS_break, wS_cont, wS_retN, thenS_nx, thenS_rt, thenS_bk, thenS_ct, wS_drop, wS_ret, wS_if, wS_set, wS_asg, wS_drp, wS_pre, dropE, wG_set, wG_tup, wG_cons, wG_nil, wG_T2, wI_seq, wI_rng1, wI_rng2, wI_zip, wS_for, wF_fn,
  rdV_frz, rdV_own, rdA_s, rdS_s, rdM_own, rdM_inn, seqQ_l, seqQ_t, zipQ_l, zipQ_t, wrQ_some, wpO_some, wpO_none, wpO_ite, wpO_map, ite_f, ite_t, Sl.d, Sl.put, isInn, truD, ads, arNd, arSls, arSl, outsOf, outsOf_f, outsOf_n, List.tail_cons, back, backG, backAt, arAt, Sl.cont, wipeE, unwipe, frzAt, isa_bool, isa_int, isa_tuple, isa_str, isa_list,
  o_add_int, o_add_list, o_add_tup, o_add_str, o_sub, o_mul_int, o_mul_str, o_mul_tup, o_fdiv, o_mod, o_pow, o_eq_int, o_eq_str, o_eq_bool, o_ne_int, o_ne_str, o_lt, o_le, o_gt, o_ge, o_isN, o_isntN, o_none1, o_none2, o_none3, o_none4, o_len_l, o_len_t, o_max2, o_min2, o_int_i, o_int_b, o_tup_l, o_tup_t, o_lst_l, o_lst_t, o_sl_l, o_sl_t, o_item, o_item_l, o_item_t, atI_n, atI_0, atI_1, atI_2, atI_3, atI_4, atI_5, atI_m1,
  List.getElem?_cons_zero, List.getElem?_cons_succ, List.set_cons_zero, List.set_cons_succ, List.map_cons, List.map_nil, List.append_nil, List.nil_append, List.cons_append, List.replicate_succ, List.replicate_zero, Nat.sub_self, Nat.reduceSub, Nat.reduceAdd, Option.map_some, Option.map_none, Option.bind_some, Option.getD_some, List.all_cons, List.all_nil, Bool.and_true, Bool.true_and, List.nodup_nil, List.nodup_cons, List.mem_nil_iff, List.not_mem_nil, not_false_eq_true, not_true_eq_false, List.length_cons, List.length_nil, Nat.zero_add,
  Bool.not_not, Bool.not_true, Bool.not_false, Bool.not_eq_true', decide_eq_false_iff_not, true_and, and_true, if_true, if_false, Bool.false_eq_true, if_false, reduceCtorEq, PyData.bool.injEq, PyData.int.injEq, PyData.tuple.injEq, PyData.list.injEq, Sl.own.injEq, Option.some.injEq, List.cons.injEq, exists_eq_left', exists_eq_left, Sl.flat, decide_eq_true_eq])
local macro_rules | `(tactic| walk_at "st") => `(tactic| (refine wS_seq.mpr ?_; try simp only [wE_C, wE_var, wE_move, wE_bin, wE_neg, wE_notV, wE_andV, wE_orV, wE_if, wE_isi, wE_ixN, wE_rd1, wE_tupN, wE_lstN, wE_app, wE_callB, wE_tup, wE_lst, wE_call, wE_lc, wE_slice, wE_slcN, wE_step, wE_bm, wE_rep, wE_lstRg, wB_none, wB_some, wA_nil, wA_cons, wA_slot,
  wT_tru, wT_truN, wT_not, wT_and, wT_or, wT_B, wT_yes, wS_nil, wS_pass, wS_break, wS_cont, wS_retN, thenS_nx, thenS_rt, thenS_bk, thenS_ct, wS_drop, wS_ret, wS_if, wS_set, wS_asg, wS_drp, wS_pre, dropE, wG_set, wG_tup, wG_cons, wG_nil, wG_T2, wI_seq, wI_rng1, wI_rng2, wI_zip, wS_for, wF_fn,
  rdV_frz, rdV_own, rdA_s, rdS_s, rdM_own, rdM_inn, seqQ_l, seqQ_t, zipQ_l, zipQ_t, wrQ_some, wpO_some, wpO_none, wpO_ite, wpO_map, ite_f, ite_t, Sl.d, Sl.put, isInn, truD, ads, arNd, arSls, arSl, outsOf, outsOf_f, outsOf_n, List.tail_cons, back, backG, backAt, arAt, Sl.cont, wipeE, unwipe, frzAt, isa_bool, isa_int, isa_tuple, isa_str, isa_list,
  o_add_int, o_add_list, o_add_tup, o_add_str, o_sub, o_mul_int, o_mul_str, o_mul_tup, o_fdiv, o_mod, o_pow, o_eq_int, o_eq_str, o_eq_bool, o_ne_int, o_ne_str, o_lt, o_le, o_gt, o_ge, o_isN, o_isntN, o_none1, o_none2, o_none3, o_none4, o_len_l, o_len_t, o_max2, o_min2, o_int_i, o_int_b, o_tup_l, o_tup_t, o_lst_l, o_lst_t, o_sl_l, o_sl_t, o_item, o_item_l, o_item_t, atI_n, atI_0, atI_1, atI_2, atI_3, atI_4, atI_5, atI_m1,
  List.getElem?_cons_zero, List.getElem?_cons_succ, List.set_cons_zero, List.set_cons_succ, List.map_cons, List.map_nil, List.append_nil, List.nil_append, List.cons_append, List.replicate_succ, List.replicate_zero, Nat.sub_self, Nat.reduceSub, Nat.reduceAdd, Option.map_some, Option.map_none, Option.bind_some, Option.getD_some, List.all_cons, List.all_nil, Bool.and_true, Bool.true_and, List.nodup_nil, List.nodup_cons, List.mem_nil_iff, List.not_mem_nil, not_false_eq_true, not_true_eq_false, List.length_cons, List.length_nil, Nat.zero_add,
  Bool.not_not, Bool.not_true, Bool.not_false, Bool.not_eq_true', decide_eq_false_iff_not, true_and, and_true, if_true, if_false, Bool.false_eq_true, if_false, reduceCtorEq, PyData.bool.injEq, PyData.int.injEq, PyData.tuple.injEq, PyData.list.injEq, Sl.own.injEq, Option.some.injEq, List.cons.injEq, exists_eq_left', exists_eq_left, Sl.flat, decide_eq_true_eq]))
def least (s : Stn) (ts : List Int) (A : Option (List Int)) (bound : Int) : Int :=
  if s.mv = [] then 0 else match s.o with
    | .pen => (match A with
      | none => bound
      | some a => min bound ((told s a).sum / s.ask))
    | o => pick o (told s ts)
def encA : Option (List Int) → D
  | none => .none
  | some a => .tuple (tI a)
def okA (n : Nat) : Option (List Int) → Prop
  | none => True
  | some a => a.length = n
def outT : Sl → Option Sl
  | .inn ds => some (.inn ds)
  | _ => none
theorem least_nil {s : Stn} {ts : List Int} {A : Option (List Int)} {bound : Int} (h : s.mv = []) : least s ts A bound = 0 := by simp [least, h]
theorem least_pick {s : Stn} {ts : List Int} {A : Option (List Int)} {bound : Int} (h : s.mv ≠ []) (ho : s.o ≠ .pen) : least s ts A bound = pick s.o (told s ts) := by
  unfold least
  rw [if_neg h]
  split
  · exact absurd ‹_› ho
  · rfl
theorem least_pen0 {s : Stn} {ts : List Int} {bound : Int} (h : s.mv ≠ []) (ho : s.o = .pen) : least s ts none bound = bound := by simp [least, h, ho]
theorem least_pen1 {s : Stn} {ts a : List Int} {bound : Int} (h : s.mv ≠ []) (ho : s.o = .pen) : least s ts (some a) bound = min bound ((told s a).sum / s.ask) := by simp [least, h, ho]
theorem z__law_least (b : List Stn) (w : Wf b) (i : Nat) (hi : i < b.length) (T : Sl) (ds : List D) (hT : T = .frz (.tuple ds) ∨ T = .inn ds) (ts : List Int)
    (hds : (st b i).o ≠ .pen → ∀ p ∈ (st b i).mv, ds[p.2]? = some (.int (gt ts p.2))) (A : Option (List Int)) (hA : okA b.length A) (bound : Int) {Q : Sl → Ev → Prop}
    (h : Q (.frz (.int (least (st b i) ts A bound))) [none, none, outT T, none, none]) : wpF fn__law_least [.frz (encB b), .frz (.int i), T, .frz (encA A), .frz (.int bound)] Q := by
  unfold fn__law_least body__law_least encB
  have wsi := w.s _ (st_mem hi)
  have a1 := wsi.a1
  have a2 := wsi.a2
  have hlen : (st b i).mv.length ≤ sizeLine := Nat.le_trans wsi.m1 (Nat.le_trans (by omega) size_big)
  have key : ∀ (ts : List Int) (m : ME) (ev : Ev) (Q : List D → Ev → Prop), (∀ p ∈ (st b i).mv, wpO (gset 6 (encM p) ev) fun ev1 => wpE m ev1 fun s ev2 => s.d = .int (gt ts p.2) ∧ wipeE ev2 [6] = ev) → Q (tI (told (st b i) ts)) ev → wpC (gset 6) mtYes m [6] ((st b i).mv.map encM) ev [] Q := by
    intro ts m ev Q hs hq
    refine wC_pure (fun _ => true) (gf ts) (by rw [List.length_map]; exact hlen) (fun j d hd => ?_) ?_
    · obtain ⟨p, hp, rfl, hp2⟩ := mv_at wsi hd
      refine wpO_mono (hs p hp) fun ev1 h1 => ?_
      rw [wT_yes]
      simp only [if_true, true_and]
      refine wpE_mono h1 fun s ev2 h2 => ⟨h2.1.trans ?_, h2.2⟩
      simp [gf, encM]
    · rw [gf_map (fun _ _ => rfl)]
      exact hq
  rcases hT with rfl | rfl
  all_goals
    walk_at "ws"
    walk_at "st"
    rw [b_at hi]
    simp only [encS]
    walk_at "ws"
    walk_at "st"
    by_cases hn : (st b i).mv = []
    · rw [hn]
      walk_at "ws"
      rw [least_nil hn] at h
      exact h
    · have hn2 : ((st b i).mv.map encM).length ≠ 0 := by simpa using hn
      have hn3 : ¬ (((st b i).mv.map encM).length : Int) = 0 := by omega
      simp only [hn3, if_false]
      walk_at "st"
      rw [b_at hi]
      simp only [encS]
      walk_at "ws"
      have hn' : ∀ ts, told (st b i) ts ≠ [] := fun ts h => hn (told_nil.mp h)
      cases ho : (st b i).o with
      | out =>
        simp only [ow_pen, ow_out, ow_hou, reduceCtorEq, if_true]
        walk_at "ws"
        refine key ts _ _ _ (fun p hp => ?_) ?_
        · simp only [encM]
          walk_at "ws"
          rw [hds (by rw [ho]; decide) p hp]
          walk_at "ws"
        · walk_at "ws"
          rw [o_min (hn' _)]
          walk_at "ws"
          rw [least_pick hn (by rw [ho]; decide), ho] at h
          exact h
      | hou =>
        simp only [ow_pen, ow_out, ow_hou, reduceCtorEq, if_false]
        walk_at "st"
        rw [b_at hi]
        simp only [encS]
        walk_at "ws"
        simp only [ho, ow_pen, ow_out, ow_hou, reduceCtorEq, if_true]
        walk_at "ws"
        refine key ts _ _ _ (fun p hp => ?_) ?_
        · simp only [encM]
          walk_at "ws"
          rw [hds (by rw [ho]; decide) p hp]
          walk_at "ws"
        · walk_at "ws"
          rw [o_max (hn' _)]
          walk_at "ws"
          rw [least_pick hn (by rw [ho]; decide), ho] at h
          exact h
      | pen =>
        simp only [ow_pen, ow_out, ow_hou, reduceCtorEq, if_false]
        walk_at "st"
        rw [b_at hi]
        simp only [encS]
        walk_at "ws"
        simp only [ho, ow_pen, ow_out, ow_hou, reduceCtorEq, if_false]
        walk_at "st"
        cases A with
        | none =>
          simp only [encA]
          walk_at "ws"
          rw [least_pen0 hn ho] at h
          exact h
        | some a =>
          simp only [encA]
          walk_at "ws"
          refine key a _ _ _ (fun p hp => ?_) ?_
          · simp only [encM]
            walk_at "ws"
            have := wsi.m2 p hp
            rw [tI_at (by simp only [okA] at hA; omega)]
            walk_at "ws"
          · walk_at "ws"
            rw [o_sum]
            walk_at "ws"
            rw [b_at hi]
            simp only [encS]
            walk_at "ws"
            refine ⟨⟨by omega, Nat.lt_of_le_of_lt (log_lt (k := 64) (by omega)) (by decide)⟩, ?_⟩
            rw [least_pen1 hn ho] at h
            exact h
theorem gt_mem {ts : List Int} {i : Nat} (h : i < ts.length) : gt ts i ∈ ts := by
  simp [gt, List.getD_eq_getElem?_getD, List.getElem?_eq_getElem h]
def pickB (b : List Stn) (ts : List Int) : Bool := (List.range b.length).all fun i => decide ((st b i).o = .pen ∨ (st b i).mv = [] ∨ pick (st b i).o (told (st b i) ts) ≤ gt ts i)
def penB (b : List Stn) (ts : List Int) (A : Option (List Int)) (bound : Int) : Bool := (List.range b.length).all fun i => decide ((st b i).o ≠ .pen ∨ (st b i).mv = [] ∨ least (st b i) ts A bound ≤ gt ts i)
theorem range_all_f {n : Nat} {p : Nat → Bool} {i : Nat} (hi : i < n) (h : p i = false) : (List.range n).all p = false := by
  rw [← Bool.not_eq_true]
  intro hc
  have := List.all_eq_true.mp hc i (List.mem_range.mpr hi)
  rw [h] at this
  cases this
theorem range_all_t {n : Nat} {p : Nat → Bool} (h : ∀ i, i < n → p i = true) : (List.range n).all p = true := List.all_eq_true.mpr fun i hi => h i (List.mem_range.mp hi)
theorem z_holds_picks (b : List Stn) (w : Wf b) (ts : List Int) (hl : ts.length = b.length) {Q : Sl → Ev → Prop} (h : Q (.frz (.bool (pickB b ts))) [none, none]) : wpF fn_holds_picks [.frz (encB b), .frz (.tuple (tI ts))] Q := by
  unfold fn_holds_picks body_holds_picks encB
  walk_at "ws"
  walk_at "st"
  refine wL_find (fun i => !decide ((st b i).o = .pen ∨ (st b i).mv = [] ∨ pick (st b i).o (told (st b i) ts) ≤ gt ts i)) (.frz (.bool false)) (fun ev => ev = _) rfl (fun i d ev hd hev => ?_) (fun ev i hi hp => ?_) (fun ev hp hev => ?_)
  · subst hev
    obtain ⟨h1, h2, rfl⟩ := zip_at hd
    have wsi := w.s _ (st_mem h2)
    walk_at "ws"
    walk_at "st"
    simp only [encS]
    walk_at "ws"
    walk_at "st"
    refine wC_pure (fun _ => true) (gf ts) ?_ (fun i d hd => ?_) ?_
    · rw [List.length_map]
      exact Nat.le_trans wsi.m1 (Nat.le_trans (by omega) size_big)
    · obtain ⟨p, hp, rfl, hp2⟩ := mv_at wsi hd
      simp only [encM]
      walk_at "ws"
      rw [tI_at (by omega)]
      walk_at "ws"
      rfl
    · rw [gf_map (fun _ _ => rfl)]
      walk_at "ws"
      walk_at "st"
      simp only [tI_emp]
      by_cases hn : (st b i).mv = []
      · rw [told_emp.mpr hn]
        have he : (told (st b i) ts).isEmpty = true := told_emp.mpr hn
        cases ho : (st b i).o <;> ((try simp only [ow_pen, ow_out, ow_hou, reduceCtorEq, if_true, if_false, hn, true_or, or_true, decide_true, ho, he, not_true_eq_false, not_false_eq_true]) <;> (try walk_at "ws")) <;> ((try simp only [ow_pen, ow_out, ow_hou, reduceCtorEq, if_true, if_false, hn, true_or, or_true, decide_true, ho, he, not_true_eq_false, not_false_eq_true]) <;> (try walk_at "ws"))
      · have hn' : told (st b i) ts ≠ [] := fun h => hn (told_nil.mp h)
        have he : (told (st b i) ts).isEmpty = false := by rw [← Bool.not_eq_true, told_emp]; exact hn
        cases ho : (st b i).o <;> ((try simp only [ow_pen, ow_out, ow_hou, reduceCtorEq, if_true, if_false, hn, true_or, false_or, or_true, decide_true, ho, he, o_min hn', o_max hn', tI_emp, not_true_eq_false, not_false_eq_true]) <;> (try walk_at "ws")) <;> ((try simp only [ow_pen, ow_out, ow_hou, reduceCtorEq, if_true, if_false, hn, true_or, false_or, or_true, decide_true, ho, he, o_min hn', o_max hn', tI_emp, not_true_eq_false, not_false_eq_true]) <;> (try walk_at "ws")) <;> simp only [pick] <;> split <;> omega
  · walk_at "ws"
    have : pickB b ts = false := range_all_f (i := i) (by rw [zip_len hl] at hi; exact hi) (by simpa only [Bool.not_eq_true'] using hp)
    rw [this] at h
    exact h
  · subst hev
    walk_at "ws"
    have : pickB b ts = true := range_all_t fun i hi => by
      have := hp i (by rw [zip_len hl]; exact hi)
      simpa only [Bool.not_eq_false'] using this
    rw [this] at h
    exact h
end Law
end
section
set_option Elab.async false
set_option linter.all false
set_option maxRecDepth 100000
set_option maxHeartbeats 4000000
namespace Law
open PySem PySem.Spec L2 MM
local macro_rules | `(tactic| walk_at "wp") => `(tactic| try simp only [wE_C, wE_var, wE_move, wE_bin, wE_neg, wE_notV, wE_andV, wE_orV, wE_if, wE_isi, wE_ixN, wE_rd1, wE_tupN, wE_lstN, wE_app, wE_callB, wE_tup, wE_lst, wE_call, wE_lc, wE_slice, wE_slcN, wE_step, wE_bm, wE_rep, wE_lstRg, wB_none, wB_some, wA_nil, wA_cons, wA_slot,
  wT_tru, wT_truN, wT_not, wT_and, wT_or, wT_B, wT_yes, wS_nil, wS_pass, wS_break, wS_cont, wS_retN, thenS_nx, thenS_rt, thenS_bk, thenS_ct, wS_seq, wS_drop, wS_ret, wS_if, wS_set, wS_asg, wS_drp, wS_pre, dropE, wG_set, wG_tup, wG_cons, wG_nil, wG_T2, wI_seq, wI_rng1, wI_rng2, wI_zip, wS_for, wF_fn,
  rdV_frz, rdV_own, rdA_s, rdS_s, rdM_own, rdM_inn, seqQ_l, seqQ_t, zipQ_l, zipQ_t, wrQ_some, wpO_some, wpO_none, wpO_ite, wpO_map, ite_f, ite_t, Sl.d, Sl.put, isInn, truD, ads, arNd, arSls, arSl, outsOf, outsOf_f, outsOf_n, List.tail_cons, back, backG, backAt, arAt, Sl.cont, wipeE, unwipe, frzAt, isa_bool, isa_int, isa_tuple, isa_str, isa_list,
  o_add_int, o_add_list, o_add_tup, o_add_str, o_sub, o_mul_int, o_mul_str, o_mul_tup, o_fdiv, o_mod, o_pow, o_eq_int, o_eq_str, o_eq_bool, o_ne_int, o_ne_str, o_lt, o_le, o_gt, o_ge, o_isN, o_isntN, o_none1, o_none2, o_none3, o_none4, o_len_l, o_len_t, o_max2, o_min2, o_int_i, o_int_b, o_tup_l, o_tup_t, o_lst_l, o_lst_t, o_sl_l, o_sl_t, o_item, o_item_l, o_item_t, atI_n, atI_0, atI_1, atI_2, atI_3, atI_4, atI_5, atI_m1,
  List.getElem?_cons_zero, List.getElem?_cons_succ, List.set_cons_zero, List.set_cons_succ, List.map_cons, List.map_nil, List.append_nil, List.nil_append, List.cons_append, List.replicate_succ, List.replicate_zero, Nat.sub_self, Nat.reduceSub, Nat.reduceAdd, Option.map_some, Option.map_none, Option.bind_some, Option.getD_some, List.all_cons, List.all_nil, Bool.and_true, Bool.true_and, List.nodup_nil, List.nodup_cons, List.mem_nil_iff, List.not_mem_nil, not_false_eq_true, not_true_eq_false, List.length_cons, List.length_nil, Nat.zero_add,
  Bool.not_not, Bool.not_true, Bool.not_false, Bool.not_eq_true', decide_eq_false_iff_not, true_and, and_true, if_true, if_false, Bool.false_eq_true, if_false, reduceCtorEq, PyData.bool.injEq, PyData.int.injEq, PyData.tuple.injEq, PyData.list.injEq, Sl.own.injEq, Option.some.injEq, List.cons.injEq, exists_eq_left', exists_eq_left, Sl.flat, decide_eq_true_eq])
local macro_rules | `(tactic| walk_at "ws") => `(tactic| try simp only [wE_C, wE_var, wE_move, wE_bin, wE_neg, wE_notV, wE_andV, wE_orV, wE_if, wE_isi, wE_ixN, wE_rd1, wE_tupN, wE_lstN, wE_app, wE_callB, wE_tup, wE_lst, wE_call, wE_lc, wE_slice, wE_slcN, wE_step, wE_bm, wE_rep, wE_lstRg, wB_none, wB_some, wA_nil, wA_cons, wA_slot,
  wT_tru, wT_truN, wT_not, wT_and, wT_or, wT_B, wT_yes, wS_nil, wS_pass, wS_break, wS_cont, wS_retN, thenS_nx, thenS_rt, thenS_bk, thenS_ct, wS_drop, wS_ret, wS_if, wS_set, wS_asg, wS_drp, wS_pre, dropE, wG_set, wG_tup, wG_cons, wG_nil, wG_T2, wI_seq, wI_rng1, wI_rng2, wI_zip, wS_for, wF_fn,
  rdV_frz, rdV_own, rdA_s, rdS_s, rdM_own, rdM_inn, seqQ_l, seqQ_t, zipQ_l, zipQ_t, wrQ_some, wpO_some, wpO_none, wpO_ite, wpO_map, ite_f, ite_t, Sl.d, Sl.put, isInn, truD, ads, arNd, arSls, arSl, outsOf, outsOf_f, outsOf_n, List.tail_cons, back, backG, backAt, arAt, Sl.cont, wipeE, unwipe, frzAt, isa_bool, isa_int, isa_tuple, isa_str, isa_list,
  o_add_int, o_add_list, o_add_tup, o_add_str, o_sub, o_mul_int, o_mul_str, o_mul_tup, o_fdiv, o_mod, o_pow, o_eq_int, o_eq_str, o_eq_bool, o_ne_int, o_ne_str, o_lt, o_le, o_gt, o_ge, o_isN, o_isntN, o_none1, o_none2, o_none3, o_none4, o_len_l, o_len_t, o_max2, o_min2, o_int_i, o_int_b, o_tup_l, o_tup_t, o_lst_l, o_lst_t, o_sl_l, o_sl_t, o_item, o_item_l, o_item_t, atI_n, atI_0, atI_1, atI_2, atI_3, atI_4, atI_5, atI_m1,
  List.getElem?_cons_zero, List.getElem?_cons_succ, List.set_cons_zero, List.set_cons_succ, List.map_cons, List.map_nil, List.append_nil, List.nil_append, List.cons_append, List.replicate_succ, List.replicate_zero, Nat.sub_self, Nat.reduceSub, Nat.reduceAdd, Option.map_some, Option.map_none, Option.bind_some, Option.getD_some, List.all_cons, List.all_nil, Bool.and_true, Bool.true_and, List.nodup_nil, List.nodup_cons, List.mem_nil_iff, List.not_mem_nil, not_false_eq_true, not_true_eq_false, List.length_cons, List.length_nil, Nat.zero_add,
  Bool.not_not, Bool.not_true, Bool.not_false, Bool.not_eq_true', decide_eq_false_iff_not, true_and, and_true, if_true, if_false, Bool.false_eq_true, if_false, reduceCtorEq, PyData.bool.injEq, PyData.int.injEq, PyData.tuple.injEq, PyData.list.injEq, Sl.own.injEq, Option.some.injEq, List.cons.injEq, exists_eq_left', exists_eq_left, Sl.flat, decide_eq_true_eq])
local macro_rules | `(tactic| walk_at "st") => `(tactic| (refine wS_seq.mpr ?_; try simp only [wE_C, wE_var, wE_move, wE_bin, wE_neg, wE_notV, wE_andV, wE_orV, wE_if, wE_isi, wE_ixN, wE_rd1, wE_tupN, wE_lstN, wE_app, wE_callB, wE_tup, wE_lst, wE_call, wE_lc, wE_slice, wE_slcN, wE_step, wE_bm, wE_rep, wE_lstRg, wB_none, wB_some, wA_nil, wA_cons, wA_slot,
  wT_tru, wT_truN, wT_not, wT_and, wT_or, wT_B, wT_yes, wS_nil, wS_pass, wS_break, wS_cont, wS_retN, thenS_nx, thenS_rt, thenS_bk, thenS_ct, wS_drop, wS_ret, wS_if, wS_set, wS_asg, wS_drp, wS_pre, dropE, wG_set, wG_tup, wG_cons, wG_nil, wG_T2, wI_seq, wI_rng1, wI_rng2, wI_zip, wS_for, wF_fn,
  rdV_frz, rdV_own, rdA_s, rdS_s, rdM_own, rdM_inn, seqQ_l, seqQ_t, zipQ_l, zipQ_t, wrQ_some, wpO_some, wpO_none, wpO_ite, wpO_map, ite_f, ite_t, Sl.d, Sl.put, isInn, truD, ads, arNd, arSls, arSl, outsOf, outsOf_f, outsOf_n, List.tail_cons, back, backG, backAt, arAt, Sl.cont, wipeE, unwipe, frzAt, isa_bool, isa_int, isa_tuple, isa_str, isa_list,
  o_add_int, o_add_list, o_add_tup, o_add_str, o_sub, o_mul_int, o_mul_str, o_mul_tup, o_fdiv, o_mod, o_pow, o_eq_int, o_eq_str, o_eq_bool, o_ne_int, o_ne_str, o_lt, o_le, o_gt, o_ge, o_isN, o_isntN, o_none1, o_none2, o_none3, o_none4, o_len_l, o_len_t, o_max2, o_min2, o_int_i, o_int_b, o_tup_l, o_tup_t, o_lst_l, o_lst_t, o_sl_l, o_sl_t, o_item, o_item_l, o_item_t, atI_n, atI_0, atI_1, atI_2, atI_3, atI_4, atI_5, atI_m1,
  List.getElem?_cons_zero, List.getElem?_cons_succ, List.set_cons_zero, List.set_cons_succ, List.map_cons, List.map_nil, List.append_nil, List.nil_append, List.cons_append, List.replicate_succ, List.replicate_zero, Nat.sub_self, Nat.reduceSub, Nat.reduceAdd, Option.map_some, Option.map_none, Option.bind_some, Option.getD_some, List.all_cons, List.all_nil, Bool.and_true, Bool.true_and, List.nodup_nil, List.nodup_cons, List.mem_nil_iff, List.not_mem_nil, not_false_eq_true, not_true_eq_false, List.length_cons, List.length_nil, Nat.zero_add,
  Bool.not_not, Bool.not_true, Bool.not_false, Bool.not_eq_true', decide_eq_false_iff_not, true_and, and_true, if_true, if_false, Bool.false_eq_true, if_false, reduceCtorEq, PyData.bool.injEq, PyData.int.injEq, PyData.tuple.injEq, PyData.list.injEq, Sl.own.injEq, Option.some.injEq, List.cons.injEq, exists_eq_left', exists_eq_left, Sl.flat, decide_eq_true_eq]))
theorem z_holds_pens (b : List Stn) (w : Wf b) (ts : List Int) (hl : ts.length = b.length) (A : Option (List Int)) (hA : okA b.length A) (bound : Int) {Q : Sl → Ev → Prop}
    (h : Q (.frz (.bool (penB b ts A bound))) [none, none, none, none]) : wpF fn_holds_pens [.frz (encB b), .frz (.tuple (tI ts)), .frz (encA A), .frz (.int bound)] Q := by
  unfold fn_holds_pens body_holds_pens encB
  walk_at "ws"
  walk_at "st"
  refine wL_find (fun i => !decide ((st b i).o ≠ .pen ∨ (st b i).mv = [] ∨ least (st b i) ts A bound ≤ gt ts i)) (.frz (.bool false)) (fun ev => ev = _) rfl (fun i d ev hd hev => ?_) (fun ev i hi hp => ?_) (fun ev hp hev => ?_)
  · subst hev
    obtain ⟨h1, h2, rfl⟩ := zip_at hd
    have wsi := w.s _ (st_mem h2)
    have a1 := wsi.a1
    have a2 := wsi.a2
    walk_at "ws"
    walk_at "st"
    simp only [encS]
    walk_at "ws"
    have he : ((st b i).mv.map encM).isEmpty = (st b i).mv.isEmpty := by cases (st b i).mv <;> rfl
    simp only [he]
    by_cases hn : (st b i).mv = []
    · simp only [hn, List.isEmpty_nil]
      cases ho : (st b i).o <;> ((try simp only [ow_pen, ow_out, ow_hou, reduceCtorEq, if_true, if_false, true_or, or_true, decide_true, not_true_eq_false, not_false_eq_true]) <;> (try walk_at "ws"))
    · have he : (st b i).mv.isEmpty = false := by rw [← Bool.not_eq_true, List.isEmpty_iff]; exact hn
      simp only [he]
      cases ho : (st b i).o with
      | out => ((try simp only [ow_pen, ow_out, ow_hou, reduceCtorEq, if_true, if_false, true_or, or_true, decide_true, not_true_eq_false, not_false_eq_true, ne_eq]) <;> (try walk_at "ws"))
      | hou => ((try simp only [ow_pen, ow_out, ow_hou, reduceCtorEq, if_true, if_false, true_or, or_true, decide_true, not_true_eq_false, not_false_eq_true, ne_eq]) <;> (try walk_at "ws"))
      | pen =>
        simp only [ow_pen, ow_out, ow_hou, reduceCtorEq, if_true, if_false, true_or, or_true, decide_true, not_true_eq_false, not_false_eq_true, ne_eq, hn, false_or]
        walk_at "ws"
        walk_at "st"
        walk_at "st"
        cases A with
        | none =>
          simp only [encA]
          walk_at "ws"
          rw [least_pen0 hn ho]
          split <;> omega
        | some a =>
          simp only [encA]
          walk_at "ws"
          refine wC_pure (fun _ => true) (gf a) ?_ (fun i d hd => ?_) ?_
          · rw [List.length_map]
            exact Nat.le_trans wsi.m1 (Nat.le_trans (by omega) size_big)
          · obtain ⟨p, hp, rfl, hp2⟩ := mv_at wsi hd
            simp only [encM]
            walk_at "ws"
            rw [tI_at (by simp only [okA] at hA; omega)]
            walk_at "ws"
            rfl
          · rw [gf_map (fun _ _ => rfl)]
            walk_at "ws"
            rw [o_sum]
            walk_at "ws"
            refine ⟨⟨by omega, Nat.lt_of_le_of_lt (log_lt (k := 64) (by omega)) (by decide)⟩, ?_⟩
            rw [least_pen1 hn ho]
            split <;> omega
  · walk_at "ws"
    have : penB b ts A bound = false := range_all_f (i := i) (by rw [zip_len hl] at hi; exact hi) (by simpa only [Bool.not_eq_true'] using hp)
    rw [this] at h
    exact h
  · subst hev
    walk_at "ws"
    have : penB b ts A bound = true := range_all_t fun i hi => by
      have := hp i (by rw [zip_len hl]; exact hi)
      simpa only [Bool.not_eq_false'] using this
    rw [this] at h
    exact h
def fallT (b : List Stn) (A : Option (List Int)) (bound : Int) (ts : List Int) : Bool := (List.range b.length).all fun i => decide (least (st b i) ts A bound ≤ gt ts i)
theorem fallT_eq {b : List Stn} {A : Option (List Int)} {bound : Int} {ts : List Int} (hl : ts.length = b.length) (hp : ∀ t ∈ ts, 0 ≤ t) : fallT b A bound ts = (pickB b ts && penB b ts A bound) := by
  rw [Bool.eq_iff_iff]
  simp only [fallT, pickB, penB, Bool.and_eq_true, List.all_eq_true, List.mem_range, decide_eq_true_eq]
  constructor
  · intro h
    refine ⟨fun i hi => ?_, fun i hi => ?_⟩
    · by_cases ho : (st b i).o = .pen
      · exact .inl ho
      · by_cases hn : (st b i).mv = []
        · exact .inr (.inl hn)
        · have := h i hi
          rw [least_pick hn ho] at this
          exact .inr (.inr this)
    · exact .inr (.inr (h i hi))
  · intro ⟨h1, h2⟩ i hi
    have h0 := hp _ (gt_mem (show i < ts.length by omega))
    by_cases hn : (st b i).mv = []
    · rw [least_nil hn]
      exact h0
    · by_cases ho : (st b i).o = .pen
      · rcases h2 i hi with h | h | h
        · exact absurd ho h
        · exact absurd h hn
        · exact h
      · rw [least_pick hn ho]
        rcases h1 i hi with h | h | h
        · exact absurd h ho
        · exact absurd h hn
        · exact h
def tb (tss : List (List Int)) (k : Nat) : List Int := tss.getD k []
def prevA (tss : List (List Int)) (k : Nat) : Option (List Int) := if k = 0 then none else some (tb tss (k - 1))
def fallB (b : List Stn) (start : Nat) (load bound : Int) (tss : List (List Int)) : Bool :=
  decide (bound < load) || (!tss.isEmpty && (decide (gt (tb tss (tss.length - 1)) start < load) && (List.range tss.length).all fun k => fallT b (prevA tss k) bound (tb tss k)))
def fallD (b : List Stn) (start : Nat) (load bound : Int) : D → Bool
  | .tuple ds => ds.all (isTab b.length) && fallB b start load bound (ds.map tabI)
  | _ => false
def enT (ts : List Int) : D := .tuple (tI ts)
theorem enT_map {n : Nat} {ds : List D} (h : ds.all (isTab n) = true) : ds = (ds.map tabI).map enT := by
  rw [List.map_map]
  refine (List.map_id ds).symm.trans (List.map_congr_left fun d hd => ?_)
  exact (isTab_iff (List.all_eq_true.mp h d hd)).1
theorem tb_at {tss : List (List Int)} {k : Nat} (h : k < tss.length) : (tss.map enT)[k]? = some (enT (tb tss k)) := by
  rw [List.getElem?_map, List.getElem?_eq_getElem h]
  simp [tb, List.getD_eq_getElem?_getD, List.getElem?_eq_getElem h]
theorem tb_mem {tss : List (List Int)} {k : Nat} (h : k < tss.length) : tb tss k ∈ tss := by
  simp [tb, List.getD_eq_getElem?_getD, List.getElem?_eq_getElem h]
end Law
end
section
set_option Elab.async false
set_option linter.all false
set_option maxRecDepth 100000
set_option maxHeartbeats 4000000
namespace Law
open PySem PySem.Spec L2 MM
local macro_rules | `(tactic| walk_at "wp") => `(tactic| try simp only [wE_C, wE_var, wE_move, wE_bin, wE_neg, wE_notV, wE_andV, wE_orV, wE_if, wE_isi, wE_ixN, wE_rd1, wE_tupN, wE_lstN, wE_app, wE_callB, wE_tup, wE_lst, wE_call, wE_lc, wE_slice, wE_slcN, wE_step, wE_bm, wE_rep, wE_lstRg, wB_none, wB_some, wA_nil, wA_cons, wA_slot,
  wT_tru, wT_truN, wT_not, wT_and, wT_or, wT_B, wT_yes, wS_nil, wS_pass, wS_break, wS_cont, wS_retN, thenS_nx, thenS_rt, thenS_bk, thenS_ct, wS_seq, wS_drop, wS_ret, wS_if, wS_set, wS_asg, wS_drp, wS_pre, dropE, wG_set, wG_tup, wG_cons, wG_nil, wG_T2, wI_seq, wI_rng1, wI_rng2, wI_zip, wS_for, wF_fn,
  rdV_frz, rdV_own, rdA_s, rdS_s, rdM_own, rdM_inn, seqQ_l, seqQ_t, zipQ_l, zipQ_t, wrQ_some, wpO_some, wpO_none, wpO_ite, wpO_map, ite_f, ite_t, Sl.d, Sl.put, isInn, truD, ads, arNd, arSls, arSl, outsOf, outsOf_f, outsOf_n, List.tail_cons, back, backG, backAt, arAt, Sl.cont, wipeE, unwipe, frzAt, isa_bool, isa_int, isa_tuple, isa_str, isa_list,
  o_add_int, o_add_list, o_add_tup, o_add_str, o_sub, o_mul_int, o_mul_str, o_mul_tup, o_fdiv, o_mod, o_pow, o_eq_int, o_eq_str, o_eq_bool, o_ne_int, o_ne_str, o_lt, o_le, o_gt, o_ge, o_isN, o_isntN, o_none1, o_none2, o_none3, o_none4, o_len_l, o_len_t, o_max2, o_min2, o_int_i, o_int_b, o_tup_l, o_tup_t, o_lst_l, o_lst_t, o_sl_l, o_sl_t, o_item, o_item_l, o_item_t, atI_n, atI_0, atI_1, atI_2, atI_3, atI_4, atI_5, atI_m1,
  List.getElem?_cons_zero, List.getElem?_cons_succ, List.set_cons_zero, List.set_cons_succ, List.map_cons, List.map_nil, List.append_nil, List.nil_append, List.cons_append, List.replicate_succ, List.replicate_zero, Nat.sub_self, Nat.reduceSub, Nat.reduceAdd, Option.map_some, Option.map_none, Option.bind_some, Option.getD_some, List.all_cons, List.all_nil, Bool.and_true, Bool.true_and, List.nodup_nil, List.nodup_cons, List.mem_nil_iff, List.not_mem_nil, not_false_eq_true, not_true_eq_false, List.length_cons, List.length_nil, Nat.zero_add,
  Bool.not_not, Bool.not_true, Bool.not_false, Bool.not_eq_true', decide_eq_false_iff_not, true_and, and_true, if_true, if_false, Bool.false_eq_true, if_false, reduceCtorEq, PyData.bool.injEq, PyData.int.injEq, PyData.tuple.injEq, PyData.list.injEq, Sl.own.injEq, Option.some.injEq, List.cons.injEq, exists_eq_left', exists_eq_left, Sl.flat, decide_eq_true_eq])
local macro_rules | `(tactic| walk_at "ws") => `(tactic| try simp only [wE_C, wE_var, wE_move, wE_bin, wE_neg, wE_notV, wE_andV, wE_orV, wE_if, wE_isi, wE_ixN, wE_rd1, wE_tupN, wE_lstN, wE_app, wE_callB, wE_tup, wE_lst, wE_call, wE_lc, wE_slice, wE_slcN, wE_step, wE_bm, wE_rep, wE_lstRg, wB_none, wB_some, wA_nil, wA_cons, wA_slot,
  wT_tru, wT_truN, wT_not, wT_and, wT_or, wT_B, wT_yes, wS_nil, wS_pass, wS_break, wS_cont, wS_retN, thenS_nx, thenS_rt, thenS_bk, thenS_ct, wS_drop, wS_ret, wS_if, wS_set, wS_asg, wS_drp, wS_pre, dropE, wG_set, wG_tup, wG_cons, wG_nil, wG_T2, wI_seq, wI_rng1, wI_rng2, wI_zip, wS_for, wF_fn,
  rdV_frz, rdV_own, rdA_s, rdS_s, rdM_own, rdM_inn, seqQ_l, seqQ_t, zipQ_l, zipQ_t, wrQ_some, wpO_some, wpO_none, wpO_ite, wpO_map, ite_f, ite_t, Sl.d, Sl.put, isInn, truD, ads, arNd, arSls, arSl, outsOf, outsOf_f, outsOf_n, List.tail_cons, back, backG, backAt, arAt, Sl.cont, wipeE, unwipe, frzAt, isa_bool, isa_int, isa_tuple, isa_str, isa_list,
  o_add_int, o_add_list, o_add_tup, o_add_str, o_sub, o_mul_int, o_mul_str, o_mul_tup, o_fdiv, o_mod, o_pow, o_eq_int, o_eq_str, o_eq_bool, o_ne_int, o_ne_str, o_lt, o_le, o_gt, o_ge, o_isN, o_isntN, o_none1, o_none2, o_none3, o_none4, o_len_l, o_len_t, o_max2, o_min2, o_int_i, o_int_b, o_tup_l, o_tup_t, o_lst_l, o_lst_t, o_sl_l, o_sl_t, o_item, o_item_l, o_item_t, atI_n, atI_0, atI_1, atI_2, atI_3, atI_4, atI_5, atI_m1,
  List.getElem?_cons_zero, List.getElem?_cons_succ, List.set_cons_zero, List.set_cons_succ, List.map_cons, List.map_nil, List.append_nil, List.nil_append, List.cons_append, List.replicate_succ, List.replicate_zero, Nat.sub_self, Nat.reduceSub, Nat.reduceAdd, Option.map_some, Option.map_none, Option.bind_some, Option.getD_some, List.all_cons, List.all_nil, Bool.and_true, Bool.true_and, List.nodup_nil, List.nodup_cons, List.mem_nil_iff, List.not_mem_nil, not_false_eq_true, not_true_eq_false, List.length_cons, List.length_nil, Nat.zero_add,
  Bool.not_not, Bool.not_true, Bool.not_false, Bool.not_eq_true', decide_eq_false_iff_not, true_and, and_true, if_true, if_false, Bool.false_eq_true, if_false, reduceCtorEq, PyData.bool.injEq, PyData.int.injEq, PyData.tuple.injEq, PyData.list.injEq, Sl.own.injEq, Option.some.injEq, List.cons.injEq, exists_eq_left', exists_eq_left, Sl.flat, decide_eq_true_eq])
local macro_rules | `(tactic| walk_at "st") => `(tactic| (refine wS_seq.mpr ?_; try simp only [wE_C, wE_var, wE_move, wE_bin, wE_neg, wE_notV, wE_andV, wE_orV, wE_if, wE_isi, wE_ixN, wE_rd1, wE_tupN, wE_lstN, wE_app, wE_callB, wE_tup, wE_lst, wE_call, wE_lc, wE_slice, wE_slcN, wE_step, wE_bm, wE_rep, wE_lstRg, wB_none, wB_some, wA_nil, wA_cons, wA_slot,
  wT_tru, wT_truN, wT_not, wT_and, wT_or, wT_B, wT_yes, wS_nil, wS_pass, wS_break, wS_cont, wS_retN, thenS_nx, thenS_rt, thenS_bk, thenS_ct, wS_drop, wS_ret, wS_if, wS_set, wS_asg, wS_drp, wS_pre, dropE, wG_set, wG_tup, wG_cons, wG_nil, wG_T2, wI_seq, wI_rng1, wI_rng2, wI_zip, wS_for, wF_fn,
  rdV_frz, rdV_own, rdA_s, rdS_s, rdM_own, rdM_inn, seqQ_l, seqQ_t, zipQ_l, zipQ_t, wrQ_some, wpO_some, wpO_none, wpO_ite, wpO_map, ite_f, ite_t, Sl.d, Sl.put, isInn, truD, ads, arNd, arSls, arSl, outsOf, outsOf_f, outsOf_n, List.tail_cons, back, backG, backAt, arAt, Sl.cont, wipeE, unwipe, frzAt, isa_bool, isa_int, isa_tuple, isa_str, isa_list,
  o_add_int, o_add_list, o_add_tup, o_add_str, o_sub, o_mul_int, o_mul_str, o_mul_tup, o_fdiv, o_mod, o_pow, o_eq_int, o_eq_str, o_eq_bool, o_ne_int, o_ne_str, o_lt, o_le, o_gt, o_ge, o_isN, o_isntN, o_none1, o_none2, o_none3, o_none4, o_len_l, o_len_t, o_max2, o_min2, o_int_i, o_int_b, o_tup_l, o_tup_t, o_lst_l, o_lst_t, o_sl_l, o_sl_t, o_item, o_item_l, o_item_t, atI_n, atI_0, atI_1, atI_2, atI_3, atI_4, atI_5, atI_m1,
  List.getElem?_cons_zero, List.getElem?_cons_succ, List.set_cons_zero, List.set_cons_succ, List.map_cons, List.map_nil, List.append_nil, List.nil_append, List.cons_append, List.replicate_succ, List.replicate_zero, Nat.sub_self, Nat.reduceSub, Nat.reduceAdd, Option.map_some, Option.map_none, Option.bind_some, Option.getD_some, List.all_cons, List.all_nil, Bool.and_true, Bool.true_and, List.nodup_nil, List.nodup_cons, List.mem_nil_iff, List.not_mem_nil, not_false_eq_true, not_true_eq_false, List.length_cons, List.length_nil, Nat.zero_add,
  Bool.not_not, Bool.not_true, Bool.not_false, Bool.not_eq_true', decide_eq_false_iff_not, true_and, and_true, if_true, if_false, Bool.false_eq_true, if_false, reduceCtorEq, PyData.bool.injEq, PyData.int.injEq, PyData.tuple.injEq, PyData.list.injEq, Sl.own.injEq, Option.some.injEq, List.cons.injEq, exists_eq_left', exists_eq_left, Sl.flat, decide_eq_true_eq]))
theorem prevA_s {tss : List (List Int)} {k : Nat} : prevA tss (k + 1) = some (tb tss k) := by simp [prevA]
theorem prevA_0 {tss : List (List Int)} : prevA tss 0 = none := by simp [prevA]
theorem prevA_ok {n : Nat} {tss : List (List Int)} (h : ∀ ts ∈ tss, ts.length = n) {k : Nat} (hk : k ≤ tss.length) : okA n (prevA tss k) := by
  cases k with
  | zero => rw [prevA_0]; trivial
  | succ k => rw [prevA_s]; exact h _ (tb_mem (by omega))
theorem tabs_all {n : Nat} {ds : List D} (h : ds.all (isTab n) = true) : ∀ ts ∈ ds.map tabI, ts.length = n ∧ ∀ t ∈ ts, 0 ≤ t := by
  intro ts hts
  obtain ⟨d, hd, rfl⟩ := List.mem_map.mp hts
  exact (isTab_iff (List.all_eq_true.mp h d hd)).2
theorem fallB_f {b : List Stn} {start : Nat} {load bound : Int} {tss : List (List Int)} {k : Nat} (hb : ¬ bound < load) (hk : k < tss.length) (h : fallT b (prevA tss k) bound (tb tss k) = false) : fallB b start load bound tss = false := by
  have := range_all_f (p := fun k => fallT b (prevA tss k) bound (tb tss k)) hk h
  simp only [fallB, hb, this, decide_false, Bool.and_false, Bool.or_false]
theorem fallB_g {b : List Stn} {start : Nat} {load bound : Int} {tss : List (List Int)} (hb : ¬ bound < load) (h : load ≤ gt (tb tss (tss.length - 1)) start) : fallB b start load bound tss = false := by
  simp only [fallB, hb, Int.not_lt.mpr h, decide_false, Bool.and_false, Bool.false_and, Bool.or_false]
theorem z_is_falling (b : List Stn) (w : Wf b) (start : Nat) (hs : start < b.length) (load bound : Int) (d : D) (hz : ∀ ds, d = .tuple ds → ds.length ≤ 16000000) {Q : Sl → Ev → Prop}
    (h : Q (.frz (.bool (fallD b start load bound d))) [none, none, none, none, none]) : wpF fn_is_falling [.frz (encB b), .frz (.int start), .frz (.int load), .frz (.int bound), .frz d] Q := by
  unfold fn_is_falling body_is_falling
  have l1 := w.l1
  walk_at "ws"
  walk_at "st"
  cases d <;> simp only [is_tuple, Bool.not_false, Bool.not_true, Bool.false_eq_true, if_false, if_true] <;> first | exact h | skip
  rename_i ds
  have hz := hz ds rfl
  walk_at "ws"
  walk_at "st"
  have hb : ∀ (Q : D → Prop), rdA (some (some (Sl.frz (encB b)))) Q ↔ Q (.tuple (b.map encS)) := fun Q => Iff.rfl
  refine wC_pure (fun _ => true) (fun d => .bool (isTab b.length d)) (Nat.le_trans hz size_big) (fun i d hd => ?_) ?_
  · walk_at "ws"
    simp only [encB]
    walk_at "ws"
    rw [List.length_map]
    exact z_are_numbers d _ (by omega) (by walk_at "ws")
  · rw [List.filter_eq_self.mpr (fun _ _ => rfl), o_allf]
    walk_at "ws"
    cases hd : ds.all (isTab b.length) with
    | false =>
      walk_at "ws"
      simpa [fallD, hd] using h
    | true =>
      have ef : fallD b start load bound (.tuple ds) = fallB b start load bound (ds.map tabI) := by simp [fallD, hd]
      rw [ef] at h
      have hm := enT_map hd
      have ha := tabs_all hd
      have hl : ds.length = (ds.map tabI).length := by simp
      generalize ds.map tabI = tss at h hm ha hl
      subst hm
      walk_at "ws"
      walk_at "st"
      by_cases hb : bound < load
      · simp only [hb, if_true]
        simpa [fallB, hb] using h
      · simp only [hb, if_false]
        walk_at "st"
        have he : (tss.map enT).isEmpty = tss.isEmpty := by cases tss <;> rfl
        simp only [he]
        cases hne : tss.isEmpty with
        | true =>
          walk_at "ws"
          simpa [fallB, hb, hne] using h
        | false =>
          walk_at "ws"
          have hpos : 0 < tss.length := List.length_pos_iff.mpr (fun h => by rw [h] at hne; cases hne)
          rw [List.length_map, tb_at (by omega)]
          simp only [enT]
          walk_at "ws"
          have hlast := ha _ (tb_mem (show tss.length - 1 < tss.length by omega))
          rw [tI_at (by omega)]
          walk_at "ws"
          by_cases hge : load ≤ gt (tb tss (tss.length - 1)) start
          · simp only [hge, if_true]
            have : fallB b start load bound tss = false := fallB_g hb hge
            rw [this] at h
            exact h
          · simp only [hge, if_false]
            walk_at "st"
            walk_at "st"
            refine wL_inv (fun k ev => (∀ j, j < k → fallT b (prevA tss j) bound (tb tss j) = true) ∧ ev = [some (Sl.frz (encB b)), some (Sl.frz (.int start)), some (Sl.frz (.int load)), some (Sl.frz (.int bound)), some (Sl.frz (.tuple (tss.map enT))), some (Sl.frz (encA (prevA tss k))), none]) ⟨fun j hj => absurd hj (Nat.not_lt_zero j), by rw [prevA_0]; rfl⟩ (fun k d ev hd hP => ?_) (fun ev hP => ?_)
            · obtain ⟨hP, rfl⟩ := hP
              have hk : k < tss.length := by simpa using (List.getElem?_eq_some_iff.mp hd).1
              rw [tb_at hk] at hd
              cases hd
              have hk2 := ha _ (tb_mem hk)
              have ok := prevA_ok (fun ts h => (ha ts h).1) (Nat.le_of_lt hk)
              have hf := fallT_eq (b := b) (A := prevA tss k) (bound := bound) hk2.1 hk2.2
              walk_at "ws"
              walk_at "st"
              simp only [enT]
              refine z_holds_picks b w _ hk2.1 ?_
              walk_at "ws"
              cases hpk : pickB b (tb tss k) with
              | false =>
                walk_at "ws"
                rw [fallB_f hb hk (by rw [hf, hpk]; rfl)] at h
                exact h
              | true =>
                walk_at "ws"
                refine z_holds_pens b w _ hk2.1 _ ok bound ?_
                walk_at "ws"
                cases hpn : penB b (tb tss k) (prevA tss k) bound with
                | false =>
                  walk_at "ws"
                  rw [fallB_f hb hk (by rw [hf, hpk, hpn]; rfl)] at h
                  exact h
                | true =>
                  walk_at "ws"
                  refine ⟨fun j hj => ?_, by rw [prevA_s]; rfl⟩
                  by_cases hjk : j = k
                  · subst hjk
                    rw [hf, hpk, hpn]
                    rfl
                  · exact hP j (by omega)
            · obtain ⟨hP, rfl⟩ := hP
              rw [List.length_map] at hP
              walk_at "ws"
              have : fallB b start load bound tss = true := by
                simp only [fallB, hb, hne, decide_false, Bool.not_false, Bool.true_and, Bool.false_or, Bool.and_eq_true, decide_eq_true_eq]
                exact ⟨by omega, range_all_t hP⟩
              rw [this] at h
              exact h
end Law
end
section
set_option Elab.async false
set_option linter.all false
set_option maxRecDepth 100000
set_option maxHeartbeats 4000000
namespace Law
open PySem PySem.Spec L2 MM
local macro_rules | `(tactic| walk_at "ws") => `(tactic| try simp only [↓reduceIte, wE_C, wB_none, wA_nil, wT_yes, wS_nil, wS_pass, wS_break, wS_cont, wS_retN, thenS_nx, thenS_rt, thenS_bk, thenS_ct, wS_pre, dropE, wG_set, wG_tup, wG_nil, rdV_frz, rdV_own, rdA_s, rdS_s, rdM_own, rdM_inn,
  seqQ_l, seqQ_t, zipQ_l, zipQ_t, wrQ_some, wpO_some, wpO_none, wpO_ite, ite_f, ite_t, ads, arNd, arSls, arSl, outsOf, outsOf_f, outsOf_n, List.tail_cons, back, backG, backAt, arAt, Sl.cont, wipeE, unwipe, frzAt, isa_bool,
  isa_int, isa_tuple, isa_str, isa_list, o_add_int, o_add_list, o_add_tup, o_add_str, o_sub, o_mul_int, o_mul_str, o_mul_tup, o_fdiv, o_mod, o_pow, o_eq_int, o_eq_str, o_eq_bool, o_ne_int, o_ne_str, o_lt, o_le, o_gt, o_ge,
  o_isN, o_isntN, o_none1, o_none2, o_none3, o_none4, o_len_l, o_len_t, o_max2, o_min2, o_int_i, o_int_b, o_tup_l, o_tup_t, o_lst_l, o_lst_t, o_sl_l, o_sl_t, o_item_l, o_item_t, atI_n, atI_0, atI_1, atI_2, atI_3, atI_4,
  atI_5, atI_m1, List.getElem?_cons_zero, List.getElem?_cons_succ, List.set_cons_zero, List.set_cons_succ, List.map_cons, List.map_nil, List.append_nil, List.nil_append, List.cons_append, List.replicate_succ,
  List.replicate_zero, Nat.sub_self, Nat.reduceSub, Nat.reduceAdd, Nat.reduceEqDiff, Option.map_some, Option.map_none, Option.bind_some, Option.getD_some, List.all_cons, List.all_nil, Bool.and_true, Bool.true_and, List.nodup_nil,
  List.nodup_cons, List.mem_nil_iff, List.not_mem_nil, not_false_eq_true, not_true_eq_false, List.length_cons, List.length_nil, Nat.zero_add, Bool.not_not, Bool.not_true, Bool.not_false, Bool.not_eq_true',
  decide_eq_false_iff_not, true_and, and_true, if_true, if_false, Bool.false_eq_true, reduceCtorEq, PyData.bool.injEq, PyData.int.injEq, PyData.tuple.injEq, PyData.list.injEq, Sl.own.injEq, Option.some.injEq,
  List.cons.injEq, exists_eq_left', exists_eq_left, decide_eq_true_eq, e_kR, e_kF, e_kVf, e_kVo, e_kMo, q_var, q_move, e_kB2, e_kB1, q_bin, q_bm, e_kNeg, q_neg, e_kNotV, q_notV, e_kAndV, q_andV, e_kOrV, q_orV, e_kIf, q_if,
  e_kIsi, q_isi, e_kIx3, e_kIx2, e_kIx1, q_ixN, e_kRd2_0, e_kRd2_1, e_kRd2_2, e_kRd2_3, e_kRd, q_rd1, e_kTN2, e_kTN, q_tupN, e_kLN2, e_kLN, q_lstN, e_kAp3, e_kAp2, e_kAp1, q_app, e_kPo3, e_kPo2, e_kPo1, e_kCB2, e_kCB,
  q_callB, e_kTp2, e_kTp, q_tup, e_kLs2, e_kLs, q_lst, e_kCa3, e_kCa2, e_kCa, q_call, e_kLc2, e_kLc, q_lc, e_kSl3, e_kSl2, e_kSl1, q_slice, e_kSn4, e_kSn3, e_kSn2, e_kSn1, q_slcN, e_kSt2, e_kSt1, q_step, e_kRp2, e_kRp1,
  q_rep, e_kLr, q_lstRg, e_kBs, q_bsome, e_kAc2, e_kAc1, q_acons, e_kAs2, e_kAs1, q_aslot, e_kTr2, e_kTru, q_tru, e_kTn, q_truN, e_kNot, q_not, e_kAnd, q_and, e_kOr, q_or, e_kTB, q_B, e_kDr, q_drop, e_kRet, q_ret, e_kSi,
  q_sif, e_kSet, q_set, e_kNx, e_kAsg, q_asg, e_kGc, q_gcons, e_kG2, q_T2, e_kSub3, e_kSub2, e_kSub1, e_kSub0, e_kSq2, e_kSeq, q_seq, e_kRg1, q_rng1, e_kRg2, q_rng2, e_kZip, q_zip, e_kFor, q_for, e_kFn_0, e_kFn_1, q_fn,
  e_kDp, q_drp, e_kTurn_0, e_kTurn_1, e_kTurn_2, e_kTurn_3, e_kBody, e_kFind, e_kCi3, e_kCi2, e_kCi1, e_kCp3, e_kCp2, e_kCp1, e_kWh2, e_kWh1, d_frz, d_own, d_inn, put_own, put_inn, isInn_n, isInn_f, isInn_o, tru_l, tru_t,
  tru_b, tru_i, tru_n, e_kI, q_item, put_own, put_inn, lz0, lz1, lz2, lz3, lz4, lz5, lz6, lz7, lz8, lz9, lz10, lz11, lz12, lz13, lz14, lz15, lz16, lz17, lz18, lz19, lz20, lz21, lz22, lz23, lz24, not_true_eq_false, decide_true, decide_false])
local macro_rules | `(tactic| walk_at "st") => `(tactic| (refine wS_seq.mpr ?_; walk_at "ws"))
local macro_rules | `(tactic| walk_at "sb") => `(tactic| (refine q_sub ?_; walk_at "ws"))
local macro_rules | `(tactic| exists $ts,*) => `(tactic| simp only [$[$ts:term],*, ↓reduceIte, wE_C, wB_none, wA_nil, wT_yes, wS_nil, wS_pass, wS_break, wS_cont, wS_retN, thenS_nx, thenS_rt, thenS_bk, thenS_ct, wS_pre, dropE, wG_set, wG_tup, wG_nil, rdV_frz, rdV_own, rdA_s, rdS_s, rdM_own, rdM_inn,
  seqQ_l, seqQ_t, zipQ_l, zipQ_t, wrQ_some, wpO_some, wpO_none, wpO_ite, ite_f, ite_t, ads, arNd, arSls, arSl, outsOf, outsOf_f, outsOf_n, List.tail_cons, back, backG, backAt, arAt, Sl.cont, wipeE, unwipe, frzAt, isa_bool,
  isa_int, isa_tuple, isa_str, isa_list, o_add_int, o_add_list, o_add_tup, o_add_str, o_sub, o_mul_int, o_mul_str, o_mul_tup, o_fdiv, o_mod, o_pow, o_eq_int, o_eq_str, o_eq_bool, o_ne_int, o_ne_str, o_lt, o_le, o_gt, o_ge,
  o_isN, o_isntN, o_none1, o_none2, o_none3, o_none4, o_len_l, o_len_t, o_max2, o_min2, o_int_i, o_int_b, o_tup_l, o_tup_t, o_lst_l, o_lst_t, o_sl_l, o_sl_t, o_item_l, o_item_t, atI_n, atI_0, atI_1, atI_2, atI_3, atI_4,
  atI_5, atI_m1, List.getElem?_cons_zero, List.getElem?_cons_succ, List.set_cons_zero, List.set_cons_succ, List.map_cons, List.map_nil, List.append_nil, List.nil_append, List.cons_append, List.replicate_succ,
  List.replicate_zero, Nat.sub_self, Nat.reduceSub, Nat.reduceAdd, Nat.reduceEqDiff, Option.map_some, Option.map_none, Option.bind_some, Option.getD_some, List.all_cons, List.all_nil, Bool.and_true, Bool.true_and, List.nodup_nil,
  List.nodup_cons, List.mem_nil_iff, List.not_mem_nil, not_false_eq_true, not_true_eq_false, List.length_cons, List.length_nil, Nat.zero_add, Bool.not_not, Bool.not_true, Bool.not_false, Bool.not_eq_true',
  decide_eq_false_iff_not, true_and, and_true, if_true, if_false, Bool.false_eq_true, reduceCtorEq, PyData.bool.injEq, PyData.int.injEq, PyData.tuple.injEq, PyData.list.injEq, Sl.own.injEq, Option.some.injEq,
  List.cons.injEq, exists_eq_left', exists_eq_left, decide_eq_true_eq, e_kR, e_kF, e_kVf, e_kVo, e_kMo, q_var, q_move, e_kB2, e_kB1, q_bin, q_bm, e_kNeg, q_neg, e_kNotV, q_notV, e_kAndV, q_andV, e_kOrV, q_orV, e_kIf, q_if,
  e_kIsi, q_isi, e_kIx3, e_kIx2, e_kIx1, q_ixN, e_kRd2_0, e_kRd2_1, e_kRd2_2, e_kRd2_3, e_kRd, q_rd1, e_kTN2, e_kTN, q_tupN, e_kLN2, e_kLN, q_lstN, e_kAp3, e_kAp2, e_kAp1, q_app, e_kPo3, e_kPo2, e_kPo1, e_kCB2, e_kCB,
  q_callB, e_kTp2, e_kTp, q_tup, e_kLs2, e_kLs, q_lst, e_kCa3, e_kCa2, e_kCa, q_call, e_kLc2, e_kLc, q_lc, e_kSl3, e_kSl2, e_kSl1, q_slice, e_kSn4, e_kSn3, e_kSn2, e_kSn1, q_slcN, e_kSt2, e_kSt1, q_step, e_kRp2, e_kRp1,
  q_rep, e_kLr, q_lstRg, e_kBs, q_bsome, e_kAc2, e_kAc1, q_acons, e_kAs2, e_kAs1, q_aslot, e_kTr2, e_kTru, q_tru, e_kTn, q_truN, e_kNot, q_not, e_kAnd, q_and, e_kOr, q_or, e_kTB, q_B, e_kDr, q_drop, e_kRet, q_ret, e_kSi,
  q_sif, e_kSet, q_set, e_kNx, e_kAsg, q_asg, e_kGc, q_gcons, e_kG2, q_T2, e_kSub3, e_kSub2, e_kSub1, e_kSub0, e_kSq2, e_kSeq, q_seq, e_kRg1, q_rng1, e_kRg2, q_rng2, e_kZip, q_zip, e_kFor, q_for, e_kFn_0, e_kFn_1, q_fn,
  e_kDp, q_drp, e_kTurn_0, e_kTurn_1, e_kTurn_2, e_kTurn_3, e_kBody, e_kFind, e_kCi3, e_kCi2, e_kCi1, e_kCp3, e_kCp2, e_kCp1, e_kWh2, e_kWh1, d_frz, d_own, d_inn, put_own, put_inn, isInn_n, isInn_f, isInn_o, tru_l, tru_t,
  tru_b, tru_i, tru_n, e_kI, q_item, put_own, put_inn, lz0, lz1, lz2, lz3, lz4, lz5, lz6, lz7, lz8, lz9, lz10, lz11, lz12, lz13, lz14, lz15, lz16, lz17, lz18, lz19, lz20, lz21, lz22, lz23, lz24, not_true_eq_false, decide_true, decide_false])
theorem z__law_is_falling (b : List Stn) (w : Wf b) (start : Nat) (hs : start < b.length) (load bound : Int) (d : D) (hz : ∀ ds, d = .tuple ds → ds.length ≤ 16000000) {Q : Sl → Ev → Prop}
    (h : Q (.frz (.bool (fallD b start load bound d))) [none, none, none, none, none]) : wpF fn__law_is_falling [.frz (encB b), .frz (.int start), .frz (.int load), .frz (.int bound), .frz d] Q := by
  unfold fn__law_is_falling body__law_is_falling
  have l1 := w.l1
  walk_at "ws"
  walk_at "st"
  cases d <;> simp only [is_tuple, Bool.not_false, Bool.not_true, Bool.false_eq_true, if_false, if_true] <;> first | exact h | skip
  rename_i ds
  have hz := hz ds rfl
  walk_at "ws"
  refine qC_pure (fun d => !isTab b.length d) (fun d => d) (Nat.le_trans hz size_big) (fun i d hd => ?_) ?_
  · walk_at "ws"
    refine z__law_is_table b w d ?_
    walk_at "ws"
    cases isTab b.length d <;> simp
  · walk_at "ws"
    have e : ds.all (isTab b.length) = true ↔ ¬ (0 < ((List.map (fun d => d) (List.filter (fun d => !isTab b.length d) ds)).length : Int)) := by
      rw [List.map_id']
      simp only [List.all_eq_true]
      constructor
      · intro hh
        have : List.filter (fun d => !isTab b.length d) ds = [] := List.filter_eq_nil_iff.mpr fun x hx => by simp [hh x hx]
        rw [this]
        simp
      · intro hh x hx
        have := List.filter_eq_nil_iff.mp (List.eq_nil_of_length_eq_zero (by omega : (List.filter (fun d => !isTab b.length d) ds).length = 0)) x hx
        simpa using this
    cases hd : ds.all (isTab b.length) with
    | false =>
      rw [hd] at e
      have e := Classical.not_not.mp (fun h => Bool.false_ne_true (e.mpr h))
      simp only [e, if_true]
      simpa [fallD, hd] using h
    | true =>
      simp only [e.mp hd, if_false]
      have ef : fallD b start load bound (.tuple ds) = fallB b start load bound (ds.map tabI) := by simp [fallD, hd]
      rw [ef] at h
      have hm := enT_map hd
      have ha := tabs_all hd
      have hl : ds.length = (ds.map tabI).length := by simp
      clear e
      generalize ds.map tabI = tss at h hm ha hl
      subst hm
      walk_at "ws"
      walk_at "st"
      by_cases hb : bound < load
      · simp only [hb, if_true]
        simpa [fallB, hb] using h
      · simp only [hb, if_false]
        walk_at "st"
        simp only [List.length_map, Int.natCast_eq_zero]
        by_cases hne : tss.length = 0
        · simp only [hne, if_true]
          have : tss.isEmpty = true := List.isEmpty_iff.mpr (List.eq_nil_of_length_eq_zero hne)
          simpa [fallB, hb, this] using h
        · simp only [hne, if_false]
          walk_at "ws"
          have hpos : 0 < tss.length := by omega
          have hne' : tss.isEmpty = false := by rw [← Bool.not_eq_true, List.isEmpty_iff]; intro h; rw [h] at hpos; exact absurd hpos (by simp)
          rw [tb_at (by omega)]
          simp only [enT]
          walk_at "ws"
          have hlast := ha _ (tb_mem (show tss.length - 1 < tss.length by omega))
          rw [tI_at (by omega)]
          walk_at "ws"
          by_cases hge : load ≤ gt (tb tss (tss.length - 1)) start
          · simp only [hge, if_true]
            have : fallB b start load bound tss = false := fallB_g hb hge
            rw [this] at h
            exact h
          · simp only [hge, if_false]
            walk_at "st"
            try rw [List.length_map] at hz
            try rw [List.length_map]
            refine ⟨by omega, ?_⟩
            refine qL_inv (fun k ev => (∀ j, j < k → fallT b (prevA tss j) bound (tb tss j) = true) ∧ ev = [some (Sl.frz (encB b)), some (Sl.frz (.int start)), some (Sl.frz (.int load)), some (Sl.frz (.int bound)), some (Sl.frz (.tuple (tss.map enT))), none, none, none]) ⟨fun j hj => absurd hj (Nat.not_lt_zero j), rfl⟩ (fun k d ev hd hP => ?_) (fun ev hP => ?_)
            · obtain ⟨hP, rfl⟩ := hP
              obtain ⟨hk, rfl⟩ := intsD_at hd
              have hk : k < tss.length := by omega
              have hk2 := ha _ (tb_mem hk)
              have ok := prevA_ok (fun ts h => (ha ts h).1) (Nat.le_of_lt hk)
              rw [Int.zero_add]
              walk_at "ws"
              simp only [encB]
              walk_at "ws"
              rw [List.length_map]
              refine ⟨by omega, ?_⟩
              refine qL_find (fun i => !decide (least (st b i) (tb tss k) (prevA tss k) bound ≤ gt (tb tss k) i)) (.frz (.bool false)) (fun ev => ev = _) rfl (fun i d ev hd hev => ?_) (fun ev i hi hp => ?_) (fun ev hp hev => ?_)
              · subst hev
                obtain ⟨hi, rfl⟩ := intsD_at hd
                have hi : i < b.length := by omega
                rw [Int.zero_add]
                exists tb_at hk, enT, tI_at (show i < (tb tss k).length by omega)
                have call : ∀ (A : D) (Q : Sl → Ev → Prop), A = encA (prevA tss k) → Q (.frz (.int (least (st b i) (tb tss k) (prevA tss k) bound))) [none, none, none, none, none] → wpF fn__law_least [.frz (.tuple (b.map encS)), .frz (.int i), .frz (.tuple (tI (tb tss k))), .frz A, .frz (.int bound)] Q := by
                  intro A Q hA hq
                  subst hA
                  exact z__law_least b w i hi _ _ (.inl rfl) (tb tss k) (fun _ p hp => tI_at (by have := (w.s _ (st_mem hi)).m2 p hp; omega)) _ ok bound hq
                cases k with
                | zero =>
                  walk_at "ws"
                  refine call _ _ (by rw [prevA_0]; rfl) ?_
                  walk_at "ws"
                  split <;> omega
                | succ k =>
                  have h0 : (0 : Int) < ((k + 1 : Nat) : Int) := by omega
                  simp only [h0, if_true]
                  rw [show ((k + 1 : Nat) : Int) - 1 = (k : Int) by omega]
                  walk_at "ws"
                  rw [tb_at (by omega)]
                  walk_at "ws"
                  refine call _ _ (by rw [prevA_s]; rfl) ?_
                  walk_at "ws"
                  split <;> omega
              · walk_at "ws"
                rw [intsD_len] at hi
                rw [fallB_f hb hk (range_all_f (i := i) (by omega) (by simpa only [Bool.not_eq_true'] using hp))] at h
                exact h
              · subst hev
                walk_at "ws"
                refine fun j hj => ?_
                by_cases hjk : j = k
                · subst hjk
                  refine range_all_t fun i hi => ?_
                  have := hp i (by rw [intsD_len]; omega)
                  simpa only [Bool.not_eq_false'] using this
                · exact hP j (by omega)
            · obtain ⟨hP, rfl⟩ := hP
              rw [intsD_len] at hP
              walk_at "ws"
              have : fallB b start load bound tss = true := by
                simp only [fallB, hb, hne', decide_false, Bool.not_false, Bool.true_and, Bool.false_or, Bool.and_eq_true, decide_eq_true_eq]
                exact ⟨by omega, range_all_t fun i hi => hP i (by omega)⟩
              rw [this] at h
              exact h
end Law
end
section
set_option Elab.async false
set_option linter.all false
set_option maxRecDepth 100000
set_option maxHeartbeats 4000000
namespace Law
open PySem PySem.Spec L2 MM
local macro_rules | `(tactic| walk_at "ws") => `(tactic| try simp only [↓reduceIte, wE_C, wB_none, wA_nil, wT_yes, wS_nil, wS_pass, wS_break, wS_cont, wS_retN, thenS_nx, thenS_rt, thenS_bk, thenS_ct, wS_pre, dropE, wG_set, wG_tup, wG_nil, rdV_frz, rdV_own, rdA_s, rdS_s, rdM_own, rdM_inn,
  seqQ_l, seqQ_t, zipQ_l, zipQ_t, wrQ_some, wpO_some, wpO_none, wpO_ite, ite_f, ite_t, ads, arNd, arSls, arSl, outsOf, outsOf_f, outsOf_n, List.tail_cons, back, backG, backAt, arAt, Sl.cont, wipeE, unwipe, frzAt, isa_bool,
  isa_int, isa_tuple, isa_str, isa_list, o_add_int, o_add_list, o_add_tup, o_add_str, o_sub, o_mul_int, o_mul_str, o_mul_tup, o_fdiv, o_mod, o_pow, o_eq_int, o_eq_str, o_eq_bool, o_ne_int, o_ne_str, o_lt, o_le, o_gt, o_ge,
  o_isN, o_isntN, o_none1, o_none2, o_none3, o_none4, o_len_l, o_len_t, o_max2, o_min2, o_int_i, o_int_b, o_tup_l, o_tup_t, o_lst_l, o_lst_t, o_sl_l, o_sl_t, o_item_l, o_item_t, atI_n, atI_0, atI_1, atI_2, atI_3, atI_4,
  atI_5, atI_m1, List.getElem?_cons_zero, List.getElem?_cons_succ, List.set_cons_zero, List.set_cons_succ, List.map_cons, List.map_nil, List.append_nil, List.nil_append, List.cons_append, List.replicate_succ,
  List.replicate_zero, Nat.sub_self, Nat.reduceSub, Nat.reduceAdd, Nat.reduceEqDiff, Option.map_some, Option.map_none, Option.bind_some, Option.getD_some, List.all_cons, List.all_nil, Bool.and_true, Bool.true_and, List.nodup_nil,
  List.nodup_cons, List.mem_nil_iff, List.not_mem_nil, not_false_eq_true, not_true_eq_false, List.length_cons, List.length_nil, Nat.zero_add, Bool.not_not, Bool.not_true, Bool.not_false, Bool.not_eq_true',
  decide_eq_false_iff_not, true_and, and_true, if_true, if_false, Bool.false_eq_true, reduceCtorEq, PyData.bool.injEq, PyData.int.injEq, PyData.tuple.injEq, PyData.list.injEq, Sl.own.injEq, Option.some.injEq,
  List.cons.injEq, exists_eq_left', exists_eq_left, decide_eq_true_eq, e_kR, e_kF, e_kVf, e_kVo, e_kMo, q_var, q_move, e_kB2, e_kB1, q_bin, q_bm, e_kNeg, q_neg, e_kNotV, q_notV, e_kAndV, q_andV, e_kOrV, q_orV, e_kIf, q_if,
  e_kIsi, q_isi, e_kIx3, e_kIx2, e_kIx1, q_ixN, e_kRd2_0, e_kRd2_1, e_kRd2_2, e_kRd2_3, e_kRd, q_rd1, e_kTN2, e_kTN, q_tupN, e_kLN2, e_kLN, q_lstN, e_kAp3, e_kAp2, e_kAp1, q_app, e_kPo3, e_kPo2, e_kPo1, e_kCB2, e_kCB,
  q_callB, e_kTp2, e_kTp, q_tup, e_kLs2, e_kLs, q_lst, e_kCa3, e_kCa2, e_kCa, q_call, e_kLc2, e_kLc, q_lc, e_kSl3, e_kSl2, e_kSl1, q_slice, e_kSn4, e_kSn3, e_kSn2, e_kSn1, q_slcN, e_kSt2, e_kSt1, q_step, e_kRp2, e_kRp1,
  q_rep, e_kLr, q_lstRg, e_kBs, q_bsome, e_kAc2, e_kAc1, q_acons, e_kAs2, e_kAs1, q_aslot, e_kTr2, e_kTru, q_tru, e_kTn, q_truN, e_kNot, q_not, e_kAnd, q_and, e_kOr, q_or, e_kTB, q_B, e_kDr, q_drop, e_kRet, q_ret, e_kSi,
  q_sif, e_kSet, q_set, e_kNx, e_kAsg, q_asg, e_kGc, q_gcons, e_kG2, q_T2, e_kSub3, e_kSub2, e_kSub1, e_kSub0, e_kSq2, e_kSeq, q_seq, e_kRg1, q_rng1, e_kRg2, q_rng2, e_kZip, q_zip, e_kFor, q_for, e_kFn_0, e_kFn_1, q_fn,
  e_kDp, q_drp, e_kTurn_0, e_kTurn_1, e_kTurn_2, e_kTurn_3, e_kBody, e_kFind, e_kCi3, e_kCi2, e_kCi1, e_kCp3, e_kCp2, e_kCp1, e_kWh2, e_kWh1, d_frz, d_own, d_inn, put_own, put_inn, isInn_n, isInn_f, isInn_o, tru_l, tru_t,
  tru_b, tru_i, tru_n, e_kI, q_item, put_own, put_inn, lz0, lz1, lz2, lz3, lz4, lz5, lz6, lz7, lz8, lz9, lz10, lz11, lz12, lz13, lz14, lz15, lz16, lz17, lz18, lz19, lz20, lz21, lz22, lz23, lz24, not_true_eq_false, decide_true, decide_false])
local macro_rules | `(tactic| walk_at "st") => `(tactic| (refine wS_seq.mpr ?_; walk_at "ws"))
local macro_rules | `(tactic| walk_at "sb") => `(tactic| (refine q_sub ?_; walk_at "ws"))
local macro_rules | `(tactic| exists $ts,*) => `(tactic| simp only [$[$ts:term],*, ↓reduceIte, wE_C, wB_none, wA_nil, wT_yes, wS_nil, wS_pass, wS_break, wS_cont, wS_retN, thenS_nx, thenS_rt, thenS_bk, thenS_ct, wS_pre, dropE, wG_set, wG_tup, wG_nil, rdV_frz, rdV_own, rdA_s, rdS_s, rdM_own, rdM_inn,
  seqQ_l, seqQ_t, zipQ_l, zipQ_t, wrQ_some, wpO_some, wpO_none, wpO_ite, ite_f, ite_t, ads, arNd, arSls, arSl, outsOf, outsOf_f, outsOf_n, List.tail_cons, back, backG, backAt, arAt, Sl.cont, wipeE, unwipe, frzAt, isa_bool,
  isa_int, isa_tuple, isa_str, isa_list, o_add_int, o_add_list, o_add_tup, o_add_str, o_sub, o_mul_int, o_mul_str, o_mul_tup, o_fdiv, o_mod, o_pow, o_eq_int, o_eq_str, o_eq_bool, o_ne_int, o_ne_str, o_lt, o_le, o_gt, o_ge,
  o_isN, o_isntN, o_none1, o_none2, o_none3, o_none4, o_len_l, o_len_t, o_max2, o_min2, o_int_i, o_int_b, o_tup_l, o_tup_t, o_lst_l, o_lst_t, o_sl_l, o_sl_t, o_item_l, o_item_t, atI_n, atI_0, atI_1, atI_2, atI_3, atI_4,
  atI_5, atI_m1, List.getElem?_cons_zero, List.getElem?_cons_succ, List.set_cons_zero, List.set_cons_succ, List.map_cons, List.map_nil, List.append_nil, List.nil_append, List.cons_append, List.replicate_succ,
  List.replicate_zero, Nat.sub_self, Nat.reduceSub, Nat.reduceAdd, Nat.reduceEqDiff, Option.map_some, Option.map_none, Option.bind_some, Option.getD_some, List.all_cons, List.all_nil, Bool.and_true, Bool.true_and, List.nodup_nil,
  List.nodup_cons, List.mem_nil_iff, List.not_mem_nil, not_false_eq_true, not_true_eq_false, List.length_cons, List.length_nil, Nat.zero_add, Bool.not_not, Bool.not_true, Bool.not_false, Bool.not_eq_true',
  decide_eq_false_iff_not, true_and, and_true, if_true, if_false, Bool.false_eq_true, reduceCtorEq, PyData.bool.injEq, PyData.int.injEq, PyData.tuple.injEq, PyData.list.injEq, Sl.own.injEq, Option.some.injEq,
  List.cons.injEq, exists_eq_left', exists_eq_left, decide_eq_true_eq, e_kR, e_kF, e_kVf, e_kVo, e_kMo, q_var, q_move, e_kB2, e_kB1, q_bin, q_bm, e_kNeg, q_neg, e_kNotV, q_notV, e_kAndV, q_andV, e_kOrV, q_orV, e_kIf, q_if,
  e_kIsi, q_isi, e_kIx3, e_kIx2, e_kIx1, q_ixN, e_kRd2_0, e_kRd2_1, e_kRd2_2, e_kRd2_3, e_kRd, q_rd1, e_kTN2, e_kTN, q_tupN, e_kLN2, e_kLN, q_lstN, e_kAp3, e_kAp2, e_kAp1, q_app, e_kPo3, e_kPo2, e_kPo1, e_kCB2, e_kCB,
  q_callB, e_kTp2, e_kTp, q_tup, e_kLs2, e_kLs, q_lst, e_kCa3, e_kCa2, e_kCa, q_call, e_kLc2, e_kLc, q_lc, e_kSl3, e_kSl2, e_kSl1, q_slice, e_kSn4, e_kSn3, e_kSn2, e_kSn1, q_slcN, e_kSt2, e_kSt1, q_step, e_kRp2, e_kRp1,
  q_rep, e_kLr, q_lstRg, e_kBs, q_bsome, e_kAc2, e_kAc1, q_acons, e_kAs2, e_kAs1, q_aslot, e_kTr2, e_kTru, q_tru, e_kTn, q_truN, e_kNot, q_not, e_kAnd, q_and, e_kOr, q_or, e_kTB, q_B, e_kDr, q_drop, e_kRet, q_ret, e_kSi,
  q_sif, e_kSet, q_set, e_kNx, e_kAsg, q_asg, e_kGc, q_gcons, e_kG2, q_T2, e_kSub3, e_kSub2, e_kSub1, e_kSub0, e_kSq2, e_kSeq, q_seq, e_kRg1, q_rng1, e_kRg2, q_rng2, e_kZip, q_zip, e_kFor, q_for, e_kFn_0, e_kFn_1, q_fn,
  e_kDp, q_drp, e_kTurn_0, e_kTurn_1, e_kTurn_2, e_kTurn_3, e_kBody, e_kFind, e_kCi3, e_kCi2, e_kCi1, e_kCp3, e_kCp2, e_kCp1, e_kWh2, e_kWh1, d_frz, d_own, d_inn, put_own, put_inn, isInn_n, isInn_f, isInn_o, tru_l, tru_t,
  tru_b, tru_i, tru_n, e_kI, q_item, put_own, put_inn, lz0, lz1, lz2, lz3, lz4, lz5, lz6, lz7, lz8, lz9, lz10, lz11, lz12, lz13, lz14, lz15, lz16, lz17, lz18, lz19, lz20, lz21, lz22, lz23, lz24, not_true_eq_false, decide_true, decide_false])
def Pool (ds : List D) : Prop := ∃ f s : Int, ds = [.int f, .int s] ∧ 0 ≤ s ∧ s < 2147483647
theorem logm {a b : Int} (ha : a.natAbs < 2 ^ 200) (hb : b.natAbs < 2 ^ 200) : a.natAbs.log2 + b.natAbs.log2 < 1000000 := by
  have := log_lt ha
  have := log_lt hb
  omega
theorem logd {m : Int} (h : m.natAbs < 2 ^ 200) : m.natAbs.log2 < 9000 := Nat.lt_of_le_of_lt (log_lt h) (by decide)
theorem z__law_pool (ns : List Int) (hn : ns.length ≤ 63) {Q : Sl → Ev → Prop} (h : ∀ ds, Pool ds → Q (.own ds) [none]) : wpF fn__law_pool [.frz (.list (tI ns))] Q := by
  unfold fn__law_pool body__law_pool
  walk_at "ws"
  walk_at "st"
  walk_at "st"
  rw [List.length_map]
  have hk : min (ns.length : Int) 63 = ns.length := by omega
  rw [hk]
  refine ⟨by omega, ?_⟩
  refine qL_inv (fun i ev => ∃ s : Int, (0 ≤ s ∧ s < 2147483647) ∧ ev = [some (Sl.frz (.list (tI ns))), some (Sl.frz (.int s)), none, none]) ⟨52813, by decide, rfl⟩ (fun i d ev hd hP => ?_) (fun ev hP => ?_)
  · obtain ⟨s, hs, rfl⟩ := hP
    obtain ⟨hi, rfl⟩ := intsD_at hd
    have hi : i < ns.length := by omega
    rw [Int.zero_add]
    exists tI_at hi
    refine ⟨logm (by omega) (by decide), ?_⟩
    refine ⟨by decide, logm (by decide) (by omega), by decide, _, ⟨Int.emod_nonneg _ (by decide), Int.emod_lt_of_pos _ (by decide)⟩, rfl⟩
  · obtain ⟨s, hs, rfl⟩ := hP
    walk_at "ws"
    walk_at "st"
    walk_at "st"
    have two : 2 ≤ sizeLine := Nat.le_trans (by decide) size_big
    cases ns with
    | nil =>
      walk_at "ws"
      exact h _ ⟨0, s, rfl, hs⟩
    | cons n ns =>
      have h0 : (0 : Int) < ((tI (n :: ns)).length : Int) := by simp only [List.length_map, List.length_cons]; omega
      simp only [h0, if_true]
      walk_at "ws"
      have e10 : (10 : Int) ^ Int.toNat 18 = 1000000000000000000 := by decide
      have p : (0 ≤ (64 : Int) ∧ (64 : Int) ≤ 1000000 ∧ Int.natAbs 10 < 2 ^ 64) := by decide
      refine ⟨by decide, ?_⟩
      split
      · refine ⟨p, p, by decide, p, by decide, p, by decide, by decide, h _ ⟨_, s, rfl, hs⟩⟩
      · exact h _ ⟨0, s, rfl, hs⟩
theorem z__law_draw (ds : List D) (hp : Pool ds) (m : Nat) (h1 : 1 ≤ m) (h2 : m < 2 ^ 62) {Q : Sl → Ev → Prop} (h : ∀ (r : Nat) ds, r < m → Pool ds → Q (.frz (.int r)) [some (.inn ds), none]) : wpF fn__law_draw [.inn ds, .frz (.int m)] Q := by
  obtain ⟨f, s, rfl, hs⟩ := hp
  have hm : (0 : Int) < m := by omega
  have hlog := logd (m := (m : Int)) (by omega)
  have hmod : ∀ x : Int, ∃ r : Nat, x % (m : Int) = r ∧ r < m := fun x => ⟨(x % m).toNat, by have := Int.emod_nonneg x (by omega : (m : Int) ≠ 0); omega, by have := Int.emod_nonneg x (by omega : (m : Int) ≠ 0); have := Int.emod_lt_of_pos x hm; omega⟩
  unfold fn__law_draw body__law_draw
  walk_at "ws"
  walk_at "st"
  by_cases hf : 0 < f
  · simp only [hf, if_true]
    obtain ⟨r, hr, hrm⟩ := hmod f
    refine wS_seq.mpr ?_
    exists hm, hr
    refine wS_seq.mpr ?_
    walk_at "sb"
    exact ⟨⟨hm, hlog⟩, 0, rfl, by decide, h r _ hrm ⟨f / m, s, rfl, hs⟩⟩
  · simp only [hf, if_false]
    refine wS_seq.mpr ?_
    walk_at "sb"
    refine ⟨logm (by omega) (by decide), by decide, 1, rfl, by decide, ?_⟩
    walk_at "ws"
    obtain ⟨r, hr, hrm⟩ := hmod ((s * 30269 + 13) % 2147483647 / 128)
    rw [hr]
    refine ⟨⟨by decide, by decide⟩, hm, h r _ hrm ⟨f, _, rfl, Int.emod_nonneg _ (by decide), Int.emod_lt_of_pos _ (by decide)⟩⟩
end Law
end
section
set_option Elab.async false
set_option linter.all false
set_option maxRecDepth 100000
set_option maxHeartbeats 4000000
namespace Law
open PySem PySem.Spec L2 MM
local macro_rules | `(tactic| walk_at "ws") => `(tactic| try simp only [↓reduceIte, wE_C, wB_none, wA_nil, wT_yes, wS_nil, wS_pass, wS_break, wS_cont, wS_retN, thenS_nx, thenS_rt, thenS_bk, thenS_ct, wS_pre, dropE, wG_set, wG_tup, wG_nil, rdV_frz, rdV_own, rdA_s, rdS_s, rdM_own, rdM_inn,
  seqQ_l, seqQ_t, zipQ_l, zipQ_t, wrQ_some, wpO_some, wpO_none, wpO_ite, ite_f, ite_t, ads, arNd, arSls, arSl, outsOf, outsOf_f, outsOf_n, List.tail_cons, back, backG, backAt, arAt, Sl.cont, wipeE, unwipe, frzAt, isa_bool,
  isa_int, isa_tuple, isa_str, isa_list, o_add_int, o_add_list, o_add_tup, o_add_str, o_sub, o_mul_int, o_mul_str, o_mul_tup, o_fdiv, o_mod, o_pow, o_eq_int, o_eq_str, o_eq_bool, o_ne_int, o_ne_str, o_lt, o_le, o_gt, o_ge,
  o_isN, o_isntN, o_none1, o_none2, o_none3, o_none4, o_len_l, o_len_t, o_max2, o_min2, o_int_i, o_int_b, o_tup_l, o_tup_t, o_lst_l, o_lst_t, o_sl_l, o_sl_t, o_item_l, o_item_t, atI_n, atI_0, atI_1, atI_2, atI_3, atI_4,
  atI_5, atI_m1, List.getElem?_cons_zero, List.getElem?_cons_succ, List.set_cons_zero, List.set_cons_succ, List.map_cons, List.map_nil, List.append_nil, List.nil_append, List.cons_append, List.replicate_succ,
  List.replicate_zero, Nat.sub_self, Nat.reduceSub, Nat.reduceAdd, Nat.reduceEqDiff, Option.map_some, Option.map_none, Option.bind_some, Option.getD_some, List.all_cons, List.all_nil, Bool.and_true, Bool.true_and, List.nodup_nil,
  List.nodup_cons, List.mem_nil_iff, List.not_mem_nil, not_false_eq_true, not_true_eq_false, List.length_cons, List.length_nil, Nat.zero_add, Bool.not_not, Bool.not_true, Bool.not_false, Bool.not_eq_true',
  decide_eq_false_iff_not, true_and, and_true, if_true, if_false, Bool.false_eq_true, reduceCtorEq, PyData.bool.injEq, PyData.int.injEq, PyData.tuple.injEq, PyData.list.injEq, Sl.own.injEq, Option.some.injEq,
  List.cons.injEq, exists_eq_left', exists_eq_left, decide_eq_true_eq, e_kR, e_kF, e_kVf, e_kVo, e_kMo, q_var, q_move, e_kB2, e_kB1, q_bin, q_bm, e_kNeg, q_neg, e_kNotV, q_notV, e_kAndV, q_andV, e_kOrV, q_orV, e_kIf, q_if,
  e_kIsi, q_isi, e_kIx3, e_kIx2, e_kIx1, q_ixN, e_kRd2_0, e_kRd2_1, e_kRd2_2, e_kRd2_3, e_kRd, q_rd1, e_kTN2, e_kTN, q_tupN, e_kLN2, e_kLN, q_lstN, e_kAp3, e_kAp2, e_kAp1, q_app, e_kPo3, e_kPo2, e_kPo1, e_kCB2, e_kCB,
  q_callB, e_kTp2, e_kTp, q_tup, e_kLs2, e_kLs, q_lst, e_kCa3, e_kCa2, e_kCa, q_call, e_kLc2, e_kLc, q_lc, e_kSl3, e_kSl2, e_kSl1, q_slice, e_kSn4, e_kSn3, e_kSn2, e_kSn1, q_slcN, e_kSt2, e_kSt1, q_step, e_kRp2, e_kRp1,
  q_rep, e_kLr, q_lstRg, e_kBs, q_bsome, e_kAc2, e_kAc1, q_acons, e_kAs2, e_kAs1, q_aslot, e_kTr2, e_kTru, q_tru, e_kTn, q_truN, e_kNot, q_not, e_kAnd, q_and, e_kOr, q_or, e_kTB, q_B, e_kDr, q_drop, e_kRet, q_ret, e_kSi,
  q_sif, e_kSet, q_set, e_kNx, e_kAsg, q_asg, e_kGc, q_gcons, e_kG2, q_T2, e_kSub3, e_kSub2, e_kSub1, e_kSub0, e_kSq2, e_kSeq, q_seq, e_kRg1, q_rng1, e_kRg2, q_rng2, e_kZip, q_zip, e_kFor, q_for, e_kFn_0, e_kFn_1, q_fn,
  e_kDp, q_drp, e_kTurn_0, e_kTurn_1, e_kTurn_2, e_kTurn_3, e_kBody, e_kFind, e_kCi3, e_kCi2, e_kCi1, e_kCp3, e_kCp2, e_kCp1, e_kWh2, e_kWh1, d_frz, d_own, d_inn, put_own, put_inn, isInn_n, isInn_f, isInn_o, tru_l, tru_t,
  tru_b, tru_i, tru_n, e_kI, q_item, put_own, put_inn, lz0, lz1, lz2, lz3, lz4, lz5, lz6, lz7, lz8, lz9, lz10, lz11, lz12, lz13, lz14, lz15, lz16, lz17, lz18, lz19, lz20, lz21, lz22, lz23, lz24, not_true_eq_false, decide_true, decide_false])
local macro_rules | `(tactic| walk_at "st") => `(tactic| (refine wS_seq.mpr ?_; walk_at "ws"))
local macro_rules | `(tactic| walk_at "sb") => `(tactic| (refine q_sub ?_; walk_at "ws"))
local macro_rules | `(tactic| exists $ts,*) => `(tactic| simp only [$[$ts:term],*, ↓reduceIte, wE_C, wB_none, wA_nil, wT_yes, wS_nil, wS_pass, wS_break, wS_cont, wS_retN, thenS_nx, thenS_rt, thenS_bk, thenS_ct, wS_pre, dropE, wG_set, wG_tup, wG_nil, rdV_frz, rdV_own, rdA_s, rdS_s, rdM_own, rdM_inn,
  seqQ_l, seqQ_t, zipQ_l, zipQ_t, wrQ_some, wpO_some, wpO_none, wpO_ite, ite_f, ite_t, ads, arNd, arSls, arSl, outsOf, outsOf_f, outsOf_n, List.tail_cons, back, backG, backAt, arAt, Sl.cont, wipeE, unwipe, frzAt, isa_bool,
  isa_int, isa_tuple, isa_str, isa_list, o_add_int, o_add_list, o_add_tup, o_add_str, o_sub, o_mul_int, o_mul_str, o_mul_tup, o_fdiv, o_mod, o_pow, o_eq_int, o_eq_str, o_eq_bool, o_ne_int, o_ne_str, o_lt, o_le, o_gt, o_ge,
  o_isN, o_isntN, o_none1, o_none2, o_none3, o_none4, o_len_l, o_len_t, o_max2, o_min2, o_int_i, o_int_b, o_tup_l, o_tup_t, o_lst_l, o_lst_t, o_sl_l, o_sl_t, o_item_l, o_item_t, atI_n, atI_0, atI_1, atI_2, atI_3, atI_4,
  atI_5, atI_m1, List.getElem?_cons_zero, List.getElem?_cons_succ, List.set_cons_zero, List.set_cons_succ, List.map_cons, List.map_nil, List.append_nil, List.nil_append, List.cons_append, List.replicate_succ,
  List.replicate_zero, Nat.sub_self, Nat.reduceSub, Nat.reduceAdd, Nat.reduceEqDiff, Option.map_some, Option.map_none, Option.bind_some, Option.getD_some, List.all_cons, List.all_nil, Bool.and_true, Bool.true_and, List.nodup_nil,
  List.nodup_cons, List.mem_nil_iff, List.not_mem_nil, not_false_eq_true, not_true_eq_false, List.length_cons, List.length_nil, Nat.zero_add, Bool.not_not, Bool.not_true, Bool.not_false, Bool.not_eq_true',
  decide_eq_false_iff_not, true_and, and_true, if_true, if_false, Bool.false_eq_true, reduceCtorEq, PyData.bool.injEq, PyData.int.injEq, PyData.tuple.injEq, PyData.list.injEq, Sl.own.injEq, Option.some.injEq,
  List.cons.injEq, exists_eq_left', exists_eq_left, decide_eq_true_eq, e_kR, e_kF, e_kVf, e_kVo, e_kMo, q_var, q_move, e_kB2, e_kB1, q_bin, q_bm, e_kNeg, q_neg, e_kNotV, q_notV, e_kAndV, q_andV, e_kOrV, q_orV, e_kIf, q_if,
  e_kIsi, q_isi, e_kIx3, e_kIx2, e_kIx1, q_ixN, e_kRd2_0, e_kRd2_1, e_kRd2_2, e_kRd2_3, e_kRd, q_rd1, e_kTN2, e_kTN, q_tupN, e_kLN2, e_kLN, q_lstN, e_kAp3, e_kAp2, e_kAp1, q_app, e_kPo3, e_kPo2, e_kPo1, e_kCB2, e_kCB,
  q_callB, e_kTp2, e_kTp, q_tup, e_kLs2, e_kLs, q_lst, e_kCa3, e_kCa2, e_kCa, q_call, e_kLc2, e_kLc, q_lc, e_kSl3, e_kSl2, e_kSl1, q_slice, e_kSn4, e_kSn3, e_kSn2, e_kSn1, q_slcN, e_kSt2, e_kSt1, q_step, e_kRp2, e_kRp1,
  q_rep, e_kLr, q_lstRg, e_kBs, q_bsome, e_kAc2, e_kAc1, q_acons, e_kAs2, e_kAs1, q_aslot, e_kTr2, e_kTru, q_tru, e_kTn, q_truN, e_kNot, q_not, e_kAnd, q_and, e_kOr, q_or, e_kTB, q_B, e_kDr, q_drop, e_kRet, q_ret, e_kSi,
  q_sif, e_kSet, q_set, e_kNx, e_kAsg, q_asg, e_kGc, q_gcons, e_kG2, q_T2, e_kSub3, e_kSub2, e_kSub1, e_kSub0, e_kSq2, e_kSeq, q_seq, e_kRg1, q_rng1, e_kRg2, q_rng2, e_kZip, q_zip, e_kFor, q_for, e_kFn_0, e_kFn_1, q_fn,
  e_kDp, q_drp, e_kTurn_0, e_kTurn_1, e_kTurn_2, e_kTurn_3, e_kBody, e_kFind, e_kCi3, e_kCi2, e_kCi1, e_kCp3, e_kCp2, e_kCp1, e_kWh2, e_kWh1, d_frz, d_own, d_inn, put_own, put_inn, isInn_n, isInn_f, isInn_o, tru_l, tru_t,
  tru_b, tru_i, tru_n, e_kI, q_item, put_own, put_inn, lz0, lz1, lz2, lz3, lz4, lz5, lz6, lz7, lz8, lz9, lz10, lz11, lz12, lz13, lz14, lz15, lz16, lz17, lz18, lz19, lz20, lz21, lz22, lz23, lz24, not_true_eq_false, decide_true, decide_false])
def enN (ns : List Nat) : List D := ns.map fun (k : Nat) => PyData.int (k : Int)
theorem enN_at {ns : List Nat} {i : Nat} (h : i < ns.length) : (enN ns)[i]? = some (.int (ns[i] : Nat)) := by
  rw [enN, List.getElem?_map, List.getElem?_eq_getElem h]
  rfl
theorem enN_len {ns : List Nat} : (enN ns).length = ns.length := by simp [enN]
theorem intsD_range (n : Nat) : intsD 0 n = enN (List.range n) := by
  refine List.ext_getElem? fun i => ?_
  by_cases hi : i < n
  · rw [intsD_get n 0 i hi, enN_at (by simpa using hi), Int.zero_add]
    simp
  · rw [List.getElem?_eq_none (by rw [intsD_len]; omega), List.getElem?_eq_none (by rw [enN_len, List.length_range]; omega)]
theorem enN_erase {ns : List Nat} {i : Nat} : (enN ns).eraseIdx i = enN (ns.eraseIdx i) := by
  induction ns generalizing i with
  | nil => rfl
  | cons n ns ih =>
    cases i with
    | zero => rfl
    | succ i =>
      show _ :: (enN ns).eraseIdx i = _ :: enN (ns.eraseIdx i)
      rw [ih]
theorem erase_perm {left : List Nat} {r : Nat} (hr : r < left.length) : (left[r] :: left.eraseIdx r).Perm left := by
  rw [List.eraseIdx_eq_take_drop_succ]
  refine List.perm_middle.symm.trans (List.Perm.of_eq ?_)
  rw [List.getElem_cons_drop, List.take_append_drop]
theorem z__law_order (ds : List D) (hp : Pool ds) (n : Nat) (h2 : n ≤ 1000) {Q : Sl → Ev → Prop} (h : ∀ (o : List Nat) ds, o.Perm (List.range n) → Pool ds → Q (.own (enN o)) [some (.inn ds), none]) : wpF fn__law_order [.inn ds, .frz (.int n)] Q := by
  unfold fn__law_order body__law_order
  walk_at "ws"
  walk_at "st"
  refine ⟨by omega, by omega, ?_⟩
  rw [Int.toNat_natCast, intsD_range]
  refine qC_inv (fun i acc ev => ∃ (o left : List Nat) (ds : List D), acc = enN o ∧ o.length = i ∧ (o ++ left).Perm (List.range n) ∧ Pool ds ∧ ev = [some (.inn ds), some (.frz (.int n)), some (.own (enN left)), none]) ⟨[], List.range n, ds, rfl, rfl, by simp, hp, rfl⟩ (fun i d acc ev hd hP => ?_) (fun acc ev hP => ?_)
  · obtain ⟨o, left, ds, rfl, rfl, hperm, hp, rfl⟩ := hP
    have hi := (List.getElem?_eq_some_iff.mp hd).1
    rw [enN_len, List.length_range] at hi
    rw [enN_at (by simpa using hi)] at hd
    cases hd
    have hl := hperm.length_eq
    rw [List.length_append, List.length_range] at hl
    walk_at "ws"
    refine q_pop ?_
    walk_at "ws"
    rw [enN_len]
    refine z__law_draw ds hp left.length (by omega) (by omega) (fun r ds hr hp => ?_)
    walk_at "ws"
    refine ⟨r, rfl, by omega, _, enN_at hr, ?_⟩
    walk_at "ws"
    refine ⟨by rw [enN_len]; exact Nat.lt_of_lt_of_le (by omega) size_big, o ++ [left[r]], left.eraseIdx r, ds, by simp [enN], by simp, ?_, hp, by rw [enN_erase]; exact ⟨rfl, rfl⟩⟩
    rw [List.append_assoc, List.singleton_append]
    exact ((erase_perm hr).append_left o).trans hperm
  · obtain ⟨o, left, ds, rfl, ho, hperm, hp, rfl⟩ := hP
    rw [enN_len, List.length_range] at ho
    have hl := hperm.length_eq
    rw [List.length_append, List.length_range] at hl
    have : left = [] := List.eq_nil_of_length_eq_zero (by omega)
    subst this
    rw [List.append_nil] at hperm
    walk_at "ws"
    exact h o ds hperm hp
theorem cut_to {xs : List D} {n : Nat} (h : n ≤ xs.length) : cutD xs none (some (n : Int)) = xs.take n := by
  unfold cutD
  rw [HT.sIx_none, HT.sIx_nat, List.drop_zero, Nat.min_eq_left h, Nat.sub_zero]
theorem cut_from {xs : List D} {n : Nat} (h : n ≤ xs.length) : cutD xs (some (n : Int)) none = xs.drop n := by
  unfold cutD
  rw [HT.sIx_none, HT.sIx_nat, Nat.min_eq_left h]
  exact List.take_of_length_le (by rw [List.length_drop]; omega)
theorem z__law_put (xs : List D) (i : Nat) (d : D) (hi : i < xs.length) (hz : xs.length ≤ 16000000) {Q : Sl → Ev → Prop} (h : Q (.frz (.tuple (xs.set i d))) [none, none, none]) : wpF fn__law_put [.frz (.tuple xs), .frz (.int i), .frz d] Q := by
  unfold fn__law_put body__law_put
  walk_at "ws"
  have hsz := size_big
  rw [cut_to (by omega), show (i : Int) + 1 = ((i + 1 : Nat) : Int) by omega, cut_from (by omega)]
  refine ⟨by simp only [List.length_take]; omega, ?_, ?_⟩
  · simp only [List.length_append, List.length_take, List.length_drop, List.length_cons, List.length_nil]; omega
  · rw [List.set_eq_take_append_cons_drop, if_pos hi] at h
    simpa using h
def bump (ns : List Int) (i : Nat) : List Int := ns.set i (gt ns i + 1)
theorem tI_set {ns : List Int} {i : Nat} {v : Int} : (tI ns).set i (.int v) = tI (ns.set i v) := by
  simp [tI, List.map_set]
theorem z__law_says (t : Bool) (ns : List Int) (p : Nat) (hp : p + 1 < ns.length) {Q : Sl → Ev → Prop} (h : Q (.frz (.bool true)) [none, none, some (.inn (tI (bump ns (p + t.toNat)))), none]) : wpF fn__law_says [.frz (.bool t), .frz (.bool t), .inn (tI ns), .frz (.int p)] Q := by
  unfold fn__law_says body__law_says
  walk_at "ws"
  refine wS_seq.mpr ?_
  walk_at "sb"
  have e : (p : Int) + (if t = true then 1 else 0) = ((p + t.toNat : Nat) : Int) := by cases t <;> simp
  have ht : t.toNat ≤ 1 := by cases t <;> decide
  rw [e]
  exists tI_at (show p + t.toNat < ns.length by omega)
  refine ⟨p + t.toNat, e, by rw [List.length_map]; omega, ?_⟩
  rw [tI_set]
  exact h
theorem z__law_asks (b : List Stn) (w : Wf b) (start : Nat) (hs : start < b.length) (load bound : Int) (d : D) (hz : ∀ ds, d = .tuple ds → ds.length ≤ 16000000) (ns : List Int) (hn : ns.length = 4) {Q : Sl → Ev → Prop}
    (h : Q (.frz (.bool true)) [none, none, none, none, none, some (.inn (tI (bump ns (fallD b start load bound d).toNat)))]) : wpF fn__law_asks [.frz (encB b), .frz (.int start), .frz (.int load), .frz (.int bound), .frz d, .inn (tI ns)] Q := by
  unfold fn__law_asks body__law_asks
  walk_at "ws"
  walk_at "st"
  refine z__law_is_falling b w start hs load bound d hz ?_
  walk_at "ws"
  refine z_is_falling b w start hs load bound d hz ?_
  walk_at "ws"
  refine z__law_says _ ns 0 (by omega) ?_
  walk_at "ws"
  exact h
end Law
end
section
set_option Elab.async false
set_option linter.all false
set_option maxRecDepth 100000
set_option maxHeartbeats 4000000
namespace Law
open PySem PySem.Spec L2 MM
local macro_rules | `(tactic| walk_at "ws") => `(tactic| try simp only [↓reduceIte, wE_C, wB_none, wA_nil, wT_yes, wS_nil, wS_pass, wS_break, wS_cont, wS_retN, thenS_nx, thenS_rt, thenS_bk, thenS_ct, wS_pre, dropE, wG_set, wG_tup, wG_nil, rdV_frz, rdV_own, rdA_s, rdS_s, rdM_own, rdM_inn,
  seqQ_l, seqQ_t, zipQ_l, zipQ_t, wrQ_some, wpO_some, wpO_none, wpO_ite, ite_f, ite_t, ads, arNd, arSls, arSl, outsOf, outsOf_f, outsOf_n, List.tail_cons, back, backG, backAt, arAt, Sl.cont, wipeE, unwipe, frzAt, isa_bool,
  isa_int, isa_tuple, isa_str, isa_list, o_add_int, o_add_list, o_add_tup, o_add_str, o_sub, o_mul_int, o_mul_str, o_mul_tup, o_fdiv, o_mod, o_pow, o_eq_int, o_eq_str, o_eq_bool, o_ne_int, o_ne_str, o_lt, o_le, o_gt, o_ge,
  o_isN, o_isntN, o_none1, o_none2, o_none3, o_none4, o_len_l, o_len_t, o_max2, o_min2, o_int_i, o_int_b, o_tup_l, o_tup_t, o_lst_l, o_lst_t, o_sl_l, o_sl_t, o_item_l, o_item_t, atI_n, atI_0, atI_1, atI_2, atI_3, atI_4,
  atI_5, atI_m1, List.getElem?_cons_zero, List.getElem?_cons_succ, List.set_cons_zero, List.set_cons_succ, List.map_cons, List.map_nil, List.append_nil, List.nil_append, List.cons_append, List.replicate_succ,
  List.replicate_zero, Nat.sub_self, Nat.reduceSub, Nat.reduceAdd, Nat.reduceEqDiff, Option.map_some, Option.map_none, Option.bind_some, Option.getD_some, List.all_cons, List.all_nil, Bool.and_true, Bool.true_and, List.nodup_nil,
  List.nodup_cons, List.mem_nil_iff, List.not_mem_nil, not_false_eq_true, not_true_eq_false, List.length_cons, List.length_nil, Nat.zero_add, Bool.not_not, Bool.not_true, Bool.not_false, Bool.not_eq_true',
  decide_eq_false_iff_not, true_and, and_true, if_true, if_false, Bool.false_eq_true, reduceCtorEq, PyData.bool.injEq, PyData.int.injEq, PyData.tuple.injEq, PyData.list.injEq, Sl.own.injEq, Option.some.injEq,
  List.cons.injEq, exists_eq_left', exists_eq_left, decide_eq_true_eq, e_kR, e_kF, e_kVf, e_kVo, e_kMo, q_var, q_move, e_kB2, e_kB1, q_bin, q_bm, e_kNeg, q_neg, e_kNotV, q_notV, e_kAndV, q_andV, e_kOrV, q_orV, e_kIf, q_if,
  e_kIsi, q_isi, e_kIx3, e_kIx2, e_kIx1, q_ixN, e_kRd2_0, e_kRd2_1, e_kRd2_2, e_kRd2_3, e_kRd, q_rd1, e_kTN2, e_kTN, q_tupN, e_kLN2, e_kLN, q_lstN, e_kAp3, e_kAp2, e_kAp1, q_app, e_kPo3, e_kPo2, e_kPo1, e_kCB2, e_kCB,
  q_callB, e_kTp2, e_kTp, q_tup, e_kLs2, e_kLs, q_lst, e_kCa3, e_kCa2, e_kCa, q_call, e_kLc2, e_kLc, q_lc, e_kSl3, e_kSl2, e_kSl1, q_slice, e_kSn4, e_kSn3, e_kSn2, e_kSn1, q_slcN, e_kSt2, e_kSt1, q_step, e_kRp2, e_kRp1,
  q_rep, e_kLr, q_lstRg, e_kBs, q_bsome, e_kAc2, e_kAc1, q_acons, e_kAs2, e_kAs1, q_aslot, e_kTr2, e_kTru, q_tru, e_kTn, q_truN, e_kNot, q_not, e_kAnd, q_and, e_kOr, q_or, e_kTB, q_B, e_kDr, q_drop, e_kRet, q_ret, e_kSi,
  q_sif, e_kSet, q_set, e_kNx, e_kAsg, q_asg, e_kGc, q_gcons, e_kG2, q_T2, e_kSub3, e_kSub2, e_kSub1, e_kSub0, e_kSq2, e_kSeq, q_seq, e_kRg1, q_rng1, e_kRg2, q_rng2, e_kZip, q_zip, e_kFor, q_for, e_kFn_0, e_kFn_1, q_fn,
  e_kDp, q_drp, e_kTurn_0, e_kTurn_1, e_kTurn_2, e_kTurn_3, e_kBody, e_kFind, e_kCi3, e_kCi2, e_kCi1, e_kCp3, e_kCp2, e_kCp1, e_kWh2, e_kWh1, d_frz, d_own, d_inn, put_own, put_inn, isInn_n, isInn_f, isInn_o, tru_l, tru_t,
  tru_b, tru_i, tru_n, e_kI, q_item, put_own, put_inn, lz0, lz1, lz2, lz3, lz4, lz5, lz6, lz7, lz8, lz9, lz10, lz11, lz12, lz13, lz14, lz15, lz16, lz17, lz18, lz19, lz20, lz21, lz22, lz23, lz24, not_true_eq_false, decide_true, decide_false])
local macro_rules | `(tactic| walk_at "st") => `(tactic| (refine wS_seq.mpr ?_; walk_at "ws"))
local macro_rules | `(tactic| walk_at "sb") => `(tactic| (refine q_sub ?_; walk_at "ws"))
local macro_rules | `(tactic| exists $ts,*) => `(tactic| simp only [$[$ts:term],*, ↓reduceIte, wE_C, wB_none, wA_nil, wT_yes, wS_nil, wS_pass, wS_break, wS_cont, wS_retN, thenS_nx, thenS_rt, thenS_bk, thenS_ct, wS_pre, dropE, wG_set, wG_tup, wG_nil, rdV_frz, rdV_own, rdA_s, rdS_s, rdM_own, rdM_inn,
  seqQ_l, seqQ_t, zipQ_l, zipQ_t, wrQ_some, wpO_some, wpO_none, wpO_ite, ite_f, ite_t, ads, arNd, arSls, arSl, outsOf, outsOf_f, outsOf_n, List.tail_cons, back, backG, backAt, arAt, Sl.cont, wipeE, unwipe, frzAt, isa_bool,
  isa_int, isa_tuple, isa_str, isa_list, o_add_int, o_add_list, o_add_tup, o_add_str, o_sub, o_mul_int, o_mul_str, o_mul_tup, o_fdiv, o_mod, o_pow, o_eq_int, o_eq_str, o_eq_bool, o_ne_int, o_ne_str, o_lt, o_le, o_gt, o_ge,
  o_isN, o_isntN, o_none1, o_none2, o_none3, o_none4, o_len_l, o_len_t, o_max2, o_min2, o_int_i, o_int_b, o_tup_l, o_tup_t, o_lst_l, o_lst_t, o_sl_l, o_sl_t, o_item_l, o_item_t, atI_n, atI_0, atI_1, atI_2, atI_3, atI_4,
  atI_5, atI_m1, List.getElem?_cons_zero, List.getElem?_cons_succ, List.set_cons_zero, List.set_cons_succ, List.map_cons, List.map_nil, List.append_nil, List.nil_append, List.cons_append, List.replicate_succ,
  List.replicate_zero, Nat.sub_self, Nat.reduceSub, Nat.reduceAdd, Nat.reduceEqDiff, Option.map_some, Option.map_none, Option.bind_some, Option.getD_some, List.all_cons, List.all_nil, Bool.and_true, Bool.true_and, List.nodup_nil,
  List.nodup_cons, List.mem_nil_iff, List.not_mem_nil, not_false_eq_true, not_true_eq_false, List.length_cons, List.length_nil, Nat.zero_add, Bool.not_not, Bool.not_true, Bool.not_false, Bool.not_eq_true',
  decide_eq_false_iff_not, true_and, and_true, if_true, if_false, Bool.false_eq_true, reduceCtorEq, PyData.bool.injEq, PyData.int.injEq, PyData.tuple.injEq, PyData.list.injEq, Sl.own.injEq, Option.some.injEq,
  List.cons.injEq, exists_eq_left', exists_eq_left, decide_eq_true_eq, e_kR, e_kF, e_kVf, e_kVo, e_kMo, q_var, q_move, e_kB2, e_kB1, q_bin, q_bm, e_kNeg, q_neg, e_kNotV, q_notV, e_kAndV, q_andV, e_kOrV, q_orV, e_kIf, q_if,
  e_kIsi, q_isi, e_kIx3, e_kIx2, e_kIx1, q_ixN, e_kRd2_0, e_kRd2_1, e_kRd2_2, e_kRd2_3, e_kRd, q_rd1, e_kTN2, e_kTN, q_tupN, e_kLN2, e_kLN, q_lstN, e_kAp3, e_kAp2, e_kAp1, q_app, e_kPo3, e_kPo2, e_kPo1, e_kCB2, e_kCB,
  q_callB, e_kTp2, e_kTp, q_tup, e_kLs2, e_kLs, q_lst, e_kCa3, e_kCa2, e_kCa, q_call, e_kLc2, e_kLc, q_lc, e_kSl3, e_kSl2, e_kSl1, q_slice, e_kSn4, e_kSn3, e_kSn2, e_kSn1, q_slcN, e_kSt2, e_kSt1, q_step, e_kRp2, e_kRp1,
  q_rep, e_kLr, q_lstRg, e_kBs, q_bsome, e_kAc2, e_kAc1, q_acons, e_kAs2, e_kAs1, q_aslot, e_kTr2, e_kTru, q_tru, e_kTn, q_truN, e_kNot, q_not, e_kAnd, q_and, e_kOr, q_or, e_kTB, q_B, e_kDr, q_drop, e_kRet, q_ret, e_kSi,
  q_sif, e_kSet, q_set, e_kNx, e_kAsg, q_asg, e_kGc, q_gcons, e_kG2, q_T2, e_kSub3, e_kSub2, e_kSub1, e_kSub0, e_kSq2, e_kSeq, q_seq, e_kRg1, q_rng1, e_kRg2, q_rng2, e_kZip, q_zip, e_kFor, q_for, e_kFn_0, e_kFn_1, q_fn,
  e_kDp, q_drp, e_kTurn_0, e_kTurn_1, e_kTurn_2, e_kTurn_3, e_kBody, e_kFind, e_kCi3, e_kCi2, e_kCi1, e_kCp3, e_kCp2, e_kCp1, e_kWh2, e_kWh1, d_frz, d_own, d_inn, put_own, put_inn, isInn_n, isInn_f, isInn_o, tru_l, tru_t,
  tru_b, tru_i, tru_n, e_kI, q_item, put_own, put_inn, lz0, lz1, lz2, lz3, lz4, lz5, lz6, lz7, lz8, lz9, lz10, lz11, lz12, lz13, lz14, lz15, lz16, lz17, lz18, lz19, lz20, lz21, lz22, lz23, lz24, not_true_eq_false, decide_true, decide_false])
structure Row where
  o : Ow
  ask : Nat
  gs : List Nat
def encR (r : Row) : D := .tuple [.str r.o.s, .int r.ask, .list (enN r.gs)]
def encO (os : List Ow) : List D := os.map fun o => PyData.str o.s
instance : Inhabited Ow := ⟨.pen⟩
instance : Inhabited Row := ⟨⟨.pen, 1, []⟩⟩
def ow (os : List Ow) (i : Nat) : Ow := os.getD i default
theorem encO_at {os : List Ow} {i : Nat} (h : i < os.length) : (encO os)[i]? = some (.str (ow os i).s) := by
  rw [encO, List.getElem?_map, List.getElem?_eq_getElem h]
  simp [ow, List.getD_eq_getElem?_getD, List.getElem?_eq_getElem h]
theorem encO_len {os : List Ow} : (encO os).length = os.length := by simp [encO]
theorem encO_set {os : List Ow} {i : Nat} {o : Ow} : (encO os).set i (.str o.s) = encO (os.set i o) := by simp [encO, List.map_set]
theorem ow_set {os : List Ow} {i j : Nat} {o : Ow} (h : i < os.length) : ow (os.set i o) j = if i = j then o else ow os j := by
  simp only [ow, List.getD_eq_getElem?_getD, List.getElem?_set]
  split
  · subst_vars
    simp [h]
  · rfl
theorem five {r : Nat} (h : r < 5) : r = 0 ∨ r = 1 ∨ r = 2 ∨ r = 3 ∨ r = 4 := by omega
theorem own5 {r : Nat} (h : r < 5) : ∃ o : Ow, ([PyData.str (Str.ofString "pen"), .str (Str.ofString "pen"), .str (Str.ofString "pen"), .str (Str.ofString "outside"), .str (Str.ofString "house")] : List D)[r]? = some (.str o.s) := by
  rcases five h with rfl | rfl | rfl | rfl | rfl
  · exact ⟨.pen, rfl⟩
  · exact ⟨.pen, rfl⟩
  · exact ⟨.pen, rfl⟩
  · exact ⟨.out, rfl⟩
  · exact ⟨.hou, rfl⟩
theorem num5 {r : Nat} (h : r < 5) : ∃ k : Nat, k ≤ 3 ∧ ([PyData.int 3, .int 2, .int 1, .int 3, .int 0] : List D)[r]? = some (.int k) := by
  rcases five h with rfl | rfl | rfl | rfl | rfl
  · exact ⟨3, by decide, rfl⟩
  · exact ⟨2, by decide, rfl⟩
  · exact ⟨1, by decide, rfl⟩
  · exact ⟨3, by decide, rfl⟩
  · exact ⟨0, by decide, rfl⟩
theorem kind_ok {os : List Ow} {n : Nat} {x : Str} : ((encO os).take n).all (sameKind (.str x)) = true := by
  rw [List.all_eq_true]
  intro d hd
  obtain ⟨o, _, rfl⟩ := List.mem_map.mp (List.mem_of_mem_take hd)
  rfl
theorem cnt_ok {os : List Ow} {n : Nat} {x : Str} : ∃ c : Nat, cntD (.list ((encO os).take n)) (.str x) = some (.frz (.int c)) := ⟨_, by unfold cntD; simp only [kind_ok, if_true]; rfl⟩
structure RowOk (m : Nat) (os : List Ow) (i : Nat) (r : Row) : Prop where
  o : r.o = ow os i
  a1 : 1 ≤ r.ask
  a2 : r.ask ≤ 4
  a3 : r.o ≠ .pen → r.ask = 1
  g1 : r.gs.length ≤ 3
  g2 : ∀ k ∈ r.gs, k < m ∧ (r.o = .pen ∨ ow os k = .pen ∨ i < k)
theorem z__law_drawn (ds : List D) (hp : Pool ds) (m : Nat) (h1 : 1 ≤ m) (h2 : m ≤ 1000) {Q : Sl → Ev → Prop}
    (h : ∀ (rs : List Row) (os : List Ow) ds, rs.length = m → os.length = m → (∀ i, i < m → RowOk m os i (rs.getD i default)) → Pool ds → Q (.own (rs.map encR)) [some (.inn ds), none]) : wpF fn__law_drawn [.inn ds, .frz (.int m)] Q := by
  have hsz := size_big
  unfold fn__law_drawn body__law_drawn
  walk_at "ws"
  walk_at "st"
  refine ⟨by omega, ?_⟩
  rw [Int.toNat_natCast, intsD_range]
  refine qC_inv (fun i acc ev => ∃ (os : List Ow) (ds : List D), acc = encO os ∧ os.length = i ∧ Pool ds ∧ ev = [some (.inn ds), some (.frz (.int m)), none, none, none, none, none]) ⟨[], ds, rfl, rfl, hp, rfl⟩ (fun i d acc ev hd hP => ?_) (fun acc ev hP => ?_)
  · obtain ⟨os, ds, rfl, rfl, hp, rfl⟩ := hP
    have hi := (List.getElem?_eq_some_iff.mp hd).1
    rw [enN_len, List.length_range] at hi
    walk_at "ws"
    refine z__law_draw ds hp 5 (by decide) (by decide) (fun r ds hr hp => ?_)
    obtain ⟨o, ho⟩ := own5 hr
    exists ho
    exact ⟨by rw [encO_len]; omega, os ++ [o], ds, by simp [encO], by simp, hp, rfl⟩
  · obtain ⟨os, ds, rfl, hos, hp, rfl⟩ := hP
    rw [enN_len, List.length_range] at hos
    walk_at "ws"
    refine wS_seq.mpr ?_
    walk_at "sb"
    refine z__law_draw ds hp m h1 (by omega) (fun r ds hr hp => ?_)
    walk_at "ws"
    refine ⟨r, rfl, by rw [encO_len]; omega, ?_⟩
    rw [show (PyData.str (Str.ofString "pen")) = .str (Ow.pen).s from rfl, encO_set]
    have hos : (os.set r .pen).length = m := by simpa using hos
    have hpen : ∃ k, k < m ∧ ow (os.set r .pen) k = .pen := ⟨r, hr, by rw [ow_set (by simp only [List.length_set] at hos; omega)]; simp⟩
    generalize os.set r .pen = os at hos hpen
    walk_at "st"
    walk_at "st"
    refine ⟨by omega, ?_⟩
    rw [Int.toNat_natCast, intsD_range]
    refine qL_inv (fun i ev => ∃ (os : List Ow), os.length = m ∧ (∃ k, k < m ∧ ow os k = .pen) ∧ ev = [some (.inn ds), some (.frz (.int m)), some (.own (encO os)), some (.own []), none, none, none]) ⟨os, hos, hpen, rfl⟩ (fun i d ev hd hP => ?_) (fun ev hP => ?_)
    · obtain ⟨os, hos, hpen, rfl⟩ := hP
      have hi := (List.getElem?_eq_some_iff.mp hd).1
      rw [enN_len, List.length_range] at hi
      rw [enN_at (by simpa using hi)] at hd
      simp only [List.getElem_range] at hd
      cases hd
      exists encO_at (show i < os.length by omega)
      by_cases ho : (ow os i).s = Ow.pen.s
      · simp only [ho]
        walk_at "ws"
        exact ⟨os, hos, hpen, rfl⟩
      · simp only [ho]
        rw [cut_to (by rw [encO_len]; omega)]
        obtain ⟨c, hc⟩ := cnt_ok (os := os) (n := i) (x := (ow os i).s)
        exists hc
        split
        · walk_at "sb"
          refine ⟨i, rfl, by rw [encO_len]; omega, ?_⟩
          rw [encO_set]
          obtain ⟨k, hk, hkp⟩ := hpen
          refine ⟨os.set i .pen, by simpa using hos, ⟨k, hk, ?_⟩, rfl⟩
          rw [ow_set (by omega)]
          split
          · rfl
          · exact hkp
        · walk_at "ws"
          exact ⟨os, hos, hpen, rfl⟩
    · obtain ⟨os, hos, hpen, rfl⟩ := hP
      walk_at "ws"
      walk_at "st"
      refine ⟨by omega, ?_⟩
      rw [Int.toNat_natCast, intsD_range]
      refine qL_inv (fun i ev => ∃ (rs : List Row) (ds : List D), rs.length = i ∧ (∀ j, j < i → RowOk m os j (rs.getD j default)) ∧ Pool ds ∧ ev = [some (.inn ds), some (.frz (.int m)), some (.own (encO os)), some (.own (rs.map encR)), none, none, none]) ⟨[], ds, rfl, fun j hj => absurd hj (Nat.not_lt_zero j), hp, rfl⟩ (fun i d ev hd hP => ?_) (fun ev hP => ?_)
      · obtain ⟨rs, ds, rfl, hrs, hp, rfl⟩ := hP
        have hi := (List.getElem?_eq_some_iff.mp hd).1
        rw [enN_len, List.length_range] at hi
        rw [enN_at (by simpa using hi)] at hd
        simp only [List.getElem_range] at hd
        cases hd
        generalize hri : rs.length = i at hi hrs
        walk_at "ws"
        walk_at "st"
        refine ⟨by omega, ?_⟩
        rw [Int.toNat_natCast, intsD_range]
        have hpe : ∀ j : Nat, ((ow os j).s = Ow.pen.s) = (ow os j = .pen) := fun j => propext (ow_pen _)
        refine qC_pure (fun d => match d with | .int k => decide (ow os i = .pen ∨ ow os k.toNat = .pen ∨ i < k.toNat) | _ => false) (fun d => d) (by rw [enN_len, List.length_range]; omega) (fun k d hd => ?_) ?_
        · have hk := (List.getElem?_eq_some_iff.mp hd).1
          rw [enN_len, List.length_range] at hk
          rw [enN_at (by simpa using hk)] at hd
          simp only [List.getElem_range] at hd
          cases hd
          have ht : ((k : Nat) : Int).toNat = k := rfl
          have hlt : ((i : Int) < (k : Int)) = (i < k) := by simp
          exists encO_at (show i < os.length by omega), encO_at (show k < os.length by omega), hpe, hlt, ht
          by_cases e1 : ow os i = .pen <;> by_cases e2 : ow os k = .pen <;> by_cases e3 : i < k <;> simp [e1, e2, e3]
        · have hgs : ((enN (List.range m)).filter (fun d => match d with | .int k => decide (ow os i = .pen ∨ ow os k.toNat = .pen ∨ i < k.toNat) | _ => false)).map (fun d => d) = enN ((List.range m).filter fun k => decide (ow os i = .pen ∨ ow os k = .pen ∨ i < k)) := by
            rw [List.map_id', enN, List.filter_map]
            rfl
          rw [hgs]
          have hg1 : ∀ k ∈ (List.range m).filter (fun k => decide (ow os i = .pen ∨ ow os k = .pen ∨ i < k)), k < m ∧ (ow os i = .pen ∨ ow os k = .pen ∨ i < k) := fun k hk => by
            obtain ⟨a, b⟩ := List.mem_filter.mp hk
            exact ⟨List.mem_range.mp a, of_decide_eq_true b⟩
          have hg2 : 1 ≤ ((List.range m).filter (fun k => decide (ow os i = .pen ∨ ow os k = .pen ∨ i < k))).length := by
            obtain ⟨k, hk, hkp⟩ := hpen
            exact List.length_pos_of_mem (List.mem_filter.mpr ⟨List.mem_range.mpr hk, decide_eq_true (.inr (.inl hkp))⟩)
          have hg3 : ((List.range m).filter (fun k => decide (ow os i = .pen ∨ ow os k = .pen ∨ i < k))).length ≤ m := by
            have := List.length_filter_le (fun k => decide (ow os i = .pen ∨ ow os k = .pen ∨ i < k)) (List.range m)
            rw [List.length_range] at this
            exact this
          generalize (List.range m).filter (fun k => decide (ow os i = .pen ∨ ow os k = .pen ∨ i < k)) = gs at hg1 hg2 hg3
          walk_at "ws"
          walk_at "st"
          refine z__law_draw ds hp 5 (by decide) (by decide) (fun r ds hr hp => ?_)
          obtain ⟨c, hc, hcr⟩ := num5 hr
          exists hcr
          refine ⟨by omega, ?_⟩
          rw [Int.toNat_natCast, intsD_range]
          refine qC_inv (fun j acc ev => ∃ (g : List Nat) (ds : List D), acc = enN g ∧ g.length = j ∧ (∀ x ∈ g, x ∈ gs) ∧ Pool ds ∧ ev = [some (.inn ds), some (.frz (.int m)), some (.own (encO os)), some (.own (rs.map encR)), some (.frz (.int i)), some (.own (enN gs)), none]) ⟨[], ds, rfl, rfl, fun x hx => absurd hx (List.not_mem_nil), hp, rfl⟩ (fun j d acc ev hd hP => ?_) (fun acc ev hP => ?_)
          · obtain ⟨g, ds, rfl, rfl, hg, hp, rfl⟩ := hP
            have hj := (List.getElem?_eq_some_iff.mp hd).1
            rw [enN_len, List.length_range] at hj
            walk_at "ws"
            rw [enN_len]
            refine z__law_draw ds hp gs.length hg2 (by omega) (fun r ds hr hp => ?_)
            exists enN_at hr
            refine ⟨by rw [enN_len]; omega, g ++ [gs[r]], ds, by simp [enN], by simp, ?_, hp, rfl⟩
            intro x hx
            rcases List.mem_append.mp hx with hx | hx
            · exact hg x hx
            · rw [List.mem_singleton.mp hx]
              exact List.getElem_mem hr
          · obtain ⟨g, ds, rfl, hgl, hg, hp, rfl⟩ := hP
            rw [enN_len, List.length_range] at hgl
            have last : ∀ (a : Nat) (ds : List D), 1 ≤ a → a ≤ 4 → (ow os i ≠ .pen → a = 1) → Pool ds → ∃ (rs' : List Row) (ds' : List D), rs'.length = i + 1 ∧ (∀ j, j < i + 1 → RowOk m os j (rs'.getD j default)) ∧ Pool ds' ∧ Sl.inn ds = Sl.inn ds' ∧ rs.map encR ++ [.tuple [.str (ow os i).s, .int a, .list (enN g)]] = rs'.map encR := by
              intro a ds ha1 ha4 hao hp
              refine ⟨rs ++ [⟨ow os i, a, g⟩], ds, by simp [hri], fun j hj => ?_, hp, rfl, by simp [encR]⟩
              by_cases hji : j = i
              · subst hji
                have : (rs ++ [(⟨ow os j, a, g⟩ : Row)]).getD j default = ⟨ow os j, a, g⟩ := by
                  simp [List.getD_eq_getElem?_getD, ← hri]
                rw [this]
                exact ⟨rfl, ha1, ha4, hao, by rw [hgl]; exact hc, fun k hk => hg1 k (hg k hk)⟩
              · have : (rs ++ [(⟨ow os i, a, g⟩ : Row)]).getD j default = rs.getD j default := by
                  simp only [List.getD_eq_getElem?_getD]
                  rw [List.getElem?_append_left (by omega)]
                rw [this]
                exact hrs j (by omega)
            have hlen : (rs.map encR).length < sizeLine := by rw [List.length_map]; omega
            walk_at "ws"
            exists encO_at (show i < os.length by omega), hpe, hlen
            by_cases hpo : ow os i = .pen
            · simp only [hpo, if_true]
              refine z__law_draw ds hp 4 (by decide) (by decide) (fun r ds hr hp => ?_)
              exists hlen
              obtain ⟨rs', ds', c1, c2, c3, c4⟩ := last (1 + r) ds (by omega) (by omega) (fun h => absurd hpo h) hp
              rw [hpo, Int.natCast_add] at c4
              exact ⟨rs', ds', c1, c2, c3, c4⟩
            · simp only [hpo, if_false]
              exact last 1 ds (by decide) (by decide) (fun _ => rfl) hp
      · obtain ⟨rs, ds, hl, hrs, hp, rfl⟩ := hP
        rw [enN_len, List.length_range] at hl hrs
        walk_at "ws"
        exact h rs os ds hl hos hrs hp
end Law
end
section
set_option Elab.async false
set_option linter.all false
set_option maxRecDepth 100000
set_option maxHeartbeats 4000000
namespace Law
open PySem PySem.Spec L2 MM
local macro_rules | `(tactic| walk_at "ws") => `(tactic| try simp only [↓reduceIte, wE_C, wB_none, wA_nil, wT_yes, wS_nil, wS_pass, wS_break, wS_cont, wS_retN, thenS_nx, thenS_rt, thenS_bk, thenS_ct, wS_pre, dropE, wG_set, wG_tup, wG_nil, rdV_frz, rdV_own, rdA_s, rdS_s, rdM_own, rdM_inn,
  seqQ_l, seqQ_t, zipQ_l, zipQ_t, wrQ_some, wpO_some, wpO_none, wpO_ite, ite_f, ite_t, ads, arNd, arSls, arSl, outsOf, outsOf_f, outsOf_n, List.tail_cons, back, backG, backAt, arAt, Sl.cont, wipeE, unwipe, frzAt, isa_bool,
  isa_int, isa_tuple, isa_str, isa_list, o_add_int, o_add_list, o_add_tup, o_add_str, o_sub, o_mul_int, o_mul_str, o_mul_tup, o_fdiv, o_mod, o_pow, o_eq_int, o_eq_str, o_eq_bool, o_ne_int, o_ne_str, o_lt, o_le, o_gt, o_ge,
  o_isN, o_isntN, o_none1, o_none2, o_none3, o_none4, o_len_l, o_len_t, o_max2, o_min2, o_int_i, o_int_b, o_tup_l, o_tup_t, o_lst_l, o_lst_t, o_sl_l, o_sl_t, o_item_l, o_item_t, atI_n, atI_0, atI_1, atI_2, atI_3, atI_4,
  atI_5, atI_m1, List.getElem?_cons_zero, List.getElem?_cons_succ, List.set_cons_zero, List.set_cons_succ, List.map_cons, List.map_nil, List.append_nil, List.nil_append, List.cons_append, List.replicate_succ,
  List.replicate_zero, Nat.sub_self, Nat.reduceSub, Nat.reduceAdd, Nat.reduceEqDiff, Option.map_some, Option.map_none, Option.bind_some, Option.getD_some, List.all_cons, List.all_nil, Bool.and_true, Bool.true_and, List.nodup_nil,
  List.nodup_cons, List.mem_nil_iff, List.not_mem_nil, not_false_eq_true, not_true_eq_false, List.length_cons, List.length_nil, Nat.zero_add, Bool.not_not, Bool.not_true, Bool.not_false, Bool.not_eq_true',
  decide_eq_false_iff_not, true_and, and_true, if_true, if_false, Bool.false_eq_true, reduceCtorEq, PyData.bool.injEq, PyData.int.injEq, PyData.tuple.injEq, PyData.list.injEq, Sl.own.injEq, Option.some.injEq,
  List.cons.injEq, exists_eq_left', exists_eq_left, decide_eq_true_eq, e_kR, e_kF, e_kVf, e_kVo, e_kMo, q_var, q_move, e_kB2, e_kB1, q_bin, q_bm, e_kNeg, q_neg, e_kNotV, q_notV, e_kAndV, q_andV, e_kOrV, q_orV, e_kIf, q_if,
  e_kIsi, q_isi, e_kIx3, e_kIx2, e_kIx1, q_ixN, e_kRd2_0, e_kRd2_1, e_kRd2_2, e_kRd2_3, e_kRd, q_rd1, e_kTN2, e_kTN, q_tupN, e_kLN2, e_kLN, q_lstN, e_kAp3, e_kAp2, e_kAp1, q_app, e_kPo3, e_kPo2, e_kPo1, e_kCB2, e_kCB,
  q_callB, e_kTp2, e_kTp, q_tup, e_kLs2, e_kLs, q_lst, e_kCa3, e_kCa2, e_kCa, q_call, e_kLc2, e_kLc, q_lc, e_kSl3, e_kSl2, e_kSl1, q_slice, e_kSn4, e_kSn3, e_kSn2, e_kSn1, q_slcN, e_kSt2, e_kSt1, q_step, e_kRp2, e_kRp1,
  q_rep, e_kLr, q_lstRg, e_kBs, q_bsome, e_kAc2, e_kAc1, q_acons, e_kAs2, e_kAs1, q_aslot, e_kTr2, e_kTru, q_tru, e_kTn, q_truN, e_kNot, q_not, e_kAnd, q_and, e_kOr, q_or, e_kTB, q_B, e_kDr, q_drop, e_kRet, q_ret, e_kSi,
  q_sif, e_kSet, q_set, e_kNx, e_kAsg, q_asg, e_kGc, q_gcons, e_kG2, q_T2, e_kSub3, e_kSub2, e_kSub1, e_kSub0, e_kSq2, e_kSeq, q_seq, e_kRg1, q_rng1, e_kRg2, q_rng2, e_kZip, q_zip, e_kFor, q_for, e_kFn_0, e_kFn_1, q_fn,
  e_kDp, q_drp, e_kTurn_0, e_kTurn_1, e_kTurn_2, e_kTurn_3, e_kBody, e_kFind, e_kCi3, e_kCi2, e_kCi1, e_kCp3, e_kCp2, e_kCp1, e_kWh2, e_kWh1, d_frz, d_own, d_inn, put_own, put_inn, isInn_n, isInn_f, isInn_o, tru_l, tru_t,
  tru_b, tru_i, tru_n, e_kI, q_item, put_own, put_inn, lz0, lz1, lz2, lz3, lz4, lz5, lz6, lz7, lz8, lz9, lz10, lz11, lz12, lz13, lz14, lz15, lz16, lz17, lz18, lz19, lz20, lz21, lz22, lz23, lz24, not_true_eq_false, decide_true, decide_false])
local macro_rules | `(tactic| walk_at "st") => `(tactic| (refine wS_seq.mpr ?_; walk_at "ws"))
local macro_rules | `(tactic| walk_at "sb") => `(tactic| (refine q_sub ?_; walk_at "ws"))
local macro_rules | `(tactic| exists $ts,*) => `(tactic| simp only [$[$ts:term],*, ↓reduceIte, wE_C, wB_none, wA_nil, wT_yes, wS_nil, wS_pass, wS_break, wS_cont, wS_retN, thenS_nx, thenS_rt, thenS_bk, thenS_ct, wS_pre, dropE, wG_set, wG_tup, wG_nil, rdV_frz, rdV_own, rdA_s, rdS_s, rdM_own, rdM_inn,
  seqQ_l, seqQ_t, zipQ_l, zipQ_t, wrQ_some, wpO_some, wpO_none, wpO_ite, ite_f, ite_t, ads, arNd, arSls, arSl, outsOf, outsOf_f, outsOf_n, List.tail_cons, back, backG, backAt, arAt, Sl.cont, wipeE, unwipe, frzAt, isa_bool,
  isa_int, isa_tuple, isa_str, isa_list, o_add_int, o_add_list, o_add_tup, o_add_str, o_sub, o_mul_int, o_mul_str, o_mul_tup, o_fdiv, o_mod, o_pow, o_eq_int, o_eq_str, o_eq_bool, o_ne_int, o_ne_str, o_lt, o_le, o_gt, o_ge,
  o_isN, o_isntN, o_none1, o_none2, o_none3, o_none4, o_len_l, o_len_t, o_max2, o_min2, o_int_i, o_int_b, o_tup_l, o_tup_t, o_lst_l, o_lst_t, o_sl_l, o_sl_t, o_item_l, o_item_t, atI_n, atI_0, atI_1, atI_2, atI_3, atI_4,
  atI_5, atI_m1, List.getElem?_cons_zero, List.getElem?_cons_succ, List.set_cons_zero, List.set_cons_succ, List.map_cons, List.map_nil, List.append_nil, List.nil_append, List.cons_append, List.replicate_succ,
  List.replicate_zero, Nat.sub_self, Nat.reduceSub, Nat.reduceAdd, Nat.reduceEqDiff, Option.map_some, Option.map_none, Option.bind_some, Option.getD_some, List.all_cons, List.all_nil, Bool.and_true, Bool.true_and, List.nodup_nil,
  List.nodup_cons, List.mem_nil_iff, List.not_mem_nil, not_false_eq_true, not_true_eq_false, List.length_cons, List.length_nil, Nat.zero_add, Bool.not_not, Bool.not_true, Bool.not_false, Bool.not_eq_true',
  decide_eq_false_iff_not, true_and, and_true, if_true, if_false, Bool.false_eq_true, reduceCtorEq, PyData.bool.injEq, PyData.int.injEq, PyData.tuple.injEq, PyData.list.injEq, Sl.own.injEq, Option.some.injEq,
  List.cons.injEq, exists_eq_left', exists_eq_left, decide_eq_true_eq, e_kR, e_kF, e_kVf, e_kVo, e_kMo, q_var, q_move, e_kB2, e_kB1, q_bin, q_bm, e_kNeg, q_neg, e_kNotV, q_notV, e_kAndV, q_andV, e_kOrV, q_orV, e_kIf, q_if,
  e_kIsi, q_isi, e_kIx3, e_kIx2, e_kIx1, q_ixN, e_kRd2_0, e_kRd2_1, e_kRd2_2, e_kRd2_3, e_kRd, q_rd1, e_kTN2, e_kTN, q_tupN, e_kLN2, e_kLN, q_lstN, e_kAp3, e_kAp2, e_kAp1, q_app, e_kPo3, e_kPo2, e_kPo1, e_kCB2, e_kCB,
  q_callB, e_kTp2, e_kTp, q_tup, e_kLs2, e_kLs, q_lst, e_kCa3, e_kCa2, e_kCa, q_call, e_kLc2, e_kLc, q_lc, e_kSl3, e_kSl2, e_kSl1, q_slice, e_kSn4, e_kSn3, e_kSn2, e_kSn1, q_slcN, e_kSt2, e_kSt1, q_step, e_kRp2, e_kRp1,
  q_rep, e_kLr, q_lstRg, e_kBs, q_bsome, e_kAc2, e_kAc1, q_acons, e_kAs2, e_kAs1, q_aslot, e_kTr2, e_kTru, q_tru, e_kTn, q_truN, e_kNot, q_not, e_kAnd, q_and, e_kOr, q_or, e_kTB, q_B, e_kDr, q_drop, e_kRet, q_ret, e_kSi,
  q_sif, e_kSet, q_set, e_kNx, e_kAsg, q_asg, e_kGc, q_gcons, e_kG2, q_T2, e_kSub3, e_kSub2, e_kSub1, e_kSub0, e_kSq2, e_kSeq, q_seq, e_kRg1, q_rng1, e_kRg2, q_rng2, e_kZip, q_zip, e_kFor, q_for, e_kFn_0, e_kFn_1, q_fn,
  e_kDp, q_drp, e_kTurn_0, e_kTurn_1, e_kTurn_2, e_kTurn_3, e_kBody, e_kFind, e_kCi3, e_kCi2, e_kCi1, e_kCp3, e_kCp2, e_kCp1, e_kWh2, e_kWh1, d_frz, d_own, d_inn, put_own, put_inn, isInn_n, isInn_f, isInn_o, tru_l, tru_t,
  tru_b, tru_i, tru_n, e_kI, q_item, put_own, put_inn, lz0, lz1, lz2, lz3, lz4, lz5, lz6, lz7, lz8, lz9, lz10, lz11, lz12, lz13, lz14, lz15, lz16, lz17, lz18, lz19, lz20, lz21, lz22, lz23, lz24, not_true_eq_false, decide_true, decide_false])
structure MadeOk (m : Nat) (rs : List Row) (l0 l1 a more : Nat) : Prop where
  l0p : 1 ≤ l0
  l0q : l0 ≤ 4
  l1p : 1 ≤ l1
  l1q : l1 ≤ 4
  a1 : 1 ≤ a
  a2 : a ≤ 16
  m1 : 1 ≤ more
  m2 : a * more ≤ l0 * l1
  rs : ∃ (l2 l3 b c a8 : Nat) (o8 : Ow) (g4 g5 g6 g7 : List Nat), rs = [⟨.pen, a, List.replicate l0 (m + 1)⟩, ⟨.pen, more, List.replicate l1 m⟩, ⟨.pen, b, List.replicate l2 (m + 3)⟩, ⟨.pen, c, List.replicate l3 (m + 2)⟩, ⟨.out, 1, g4⟩, ⟨.hou, 1, g5⟩, ⟨.out, 1, g6⟩, ⟨.hou, 1, g7⟩, ⟨o8, a8, []⟩]
    ∧ l2 ≤ 4 ∧ l3 ≤ 4 ∧ 1 ≤ b ∧ b ≤ 12 ∧ 1 ≤ c ∧ c ≤ 20 ∧ 1 ≤ a8 ∧ a8 ≤ 5 ∧ (o8 ≠ .pen → a8 = 1) ∧ ∀ g ∈ [g4, g5, g6, g7], g.length = 2 ∧ ∀ x ∈ g, m ≤ x ∧ x < m + 4
theorem rep_one {d : D} {n : Nat} : (List.replicate n [d]).flatten = List.replicate n d := by
  induction n with
  | zero => rfl
  | succ n ih => simp [List.replicate_succ, ih]
theorem enN_rep {n x : Nat} : enN (List.replicate n x) = List.replicate n (.int (x : Int)) := by simp [enN]
theorem z__law_made (ds : List D) (hp : Pool ds) (m : Nat) (h2 : m ≤ 1000) {Q : Sl → Ev → Prop}
    (h : ∀ (rs : List Row) (l0 l1 a more : Nat) ds x1 x2 x3 x4, MadeOk m rs l0 l1 a more → Pool ds → Q (.own [.list (rs.map encR), .tuple [.int l0, .int a], x1, x2, x3, x4]) [some (.inn ds), none, none]) : wpF fn__law_made [.inn ds, .frz (.int m), .frz (.bool false)] Q := by
  have hsz := size_big
  unfold fn__law_made body__law_made
  walk_at "ws"
  walk_at "st"
  walk_at "st"
  refine ⟨by decide, ?_⟩
  refine qC_inv (fun i acc ev => ∃ (ls : List Nat) (ds : List D), acc = enN ls ∧ ls.length = i ∧ (∀ x ∈ ls, 1 ≤ x ∧ x ≤ 4) ∧ Pool ds ∧ ev = [some (.inn ds), some (.frz (.int m)), some (.frz (.bool false)), some (.frz (.int 4)), none, none, none, none, none, none, none, none, none, none, none]) ⟨[], ds, rfl, rfl, fun x hx => absurd hx (List.not_mem_nil), hp, rfl⟩ (fun j d acc ev hd hP => ?_) (fun acc ev hP => ?_)
  · obtain ⟨g, ds, rfl, rfl, hg, hp, rfl⟩ := hP
    have hj := (List.getElem?_eq_some_iff.mp hd).1
    rw [intsD_len] at hj
    have hj : g.length < 4 := hj
    walk_at "ws"
    refine z__law_draw ds hp 4 (by decide) (by decide) (fun r ds hr hp => ?_)
    walk_at "ws"
    refine ⟨by rw [enN_len]; omega, g ++ [1 + r], ds, by simp [enN], by simp, ?_, hp, rfl⟩
    intro x hx
    rcases List.mem_append.mp hx with hx | hx
    · exact hg x hx
    · rw [List.mem_singleton.mp hx]
      omega
  · obtain ⟨g, ds, rfl, hgl, hg, hp, rfl⟩ := hP
    rw [intsD_len] at hgl
    have hgl : g.length = 4 := hgl
    obtain ⟨l0, l1, l2, l3, rfl⟩ : ∃ a b c d, g = [a, b, c, d] := by
      match g, hgl with
      | [a, b, c, d], _ => exact ⟨a, b, c, d, rfl⟩
    have b0 := hg l0 (by simp)
    have b1 := hg l1 (by simp)
    have b2 := hg l2 (by simp)
    have b3 := hg l3 (by simp)
    have hen : enN [l0, l1, l2, l3] = [.int l0, .int l1, .int l2, .int l3] := rfl
    rw [hen]
    have mlog : ∀ x y : Nat, x ≤ 1000 → y ≤ 1000 → (x : Int).natAbs.log2 + (y : Int).natAbs.log2 < 1000000 := fun x y hx hy => logm (by omega) (by omega)
    have hmu : ∀ x y : Nat, (x : Int) * (y : Int) = ((x * y : Nat) : Int) := fun x y => (Int.natCast_mul x y).symm
    have hdi : ∀ x y : Nat, (x : Int) / (y : Int) = ((x / y : Nat) : Int) := fun x y => (Int.natCast_ediv x y).symm
    have m01 := Nat.mul_le_mul b0.2 b1.2
    have p01 := Nat.mul_pos b0.1 b1.1
    have m23 := Nat.mul_le_mul b2.2 b3.2
    walk_at "ws"
    walk_at "st"
    exists mlog l0 l1 (by omega) (by omega), hmu
    refine z__law_draw ds hp (l0 * l1) (by omega) (by omega) (fun r ds hr hp => ?_)
    walk_at "ws"
    rw [show (1 : Int) + (r : Int) = ((1 + r : Nat) : Int) by omega]
    have ha : 1 + r ≤ l0 * l1 := by omega
    have ha1 : 1 ≤ 1 + r := by omega
    generalize 1 + r = a at ha ha1
    walk_at "st"
    exists mlog l0 l1 (by omega) (by omega), hmu, hdi
    refine ⟨⟨by omega, logd (by omega)⟩, ?_⟩
    have hdp : 1 ≤ l0 * l1 / a := Nat.div_pos ha ha1
    have hdl : l0 * l1 / a ≤ l0 * l1 := Nat.div_le_self _ _
    refine z__law_draw ds hp (l0 * l1 / a) hdp (by omega) (fun r ds hr hp => ?_)
    walk_at "ws"
    rw [show (1 : Int) + (r : Int) = ((1 + r : Nat) : Int) by omega]
    have hm2 : a * (1 + r) ≤ l0 * l1 := Nat.le_trans (Nat.mul_le_mul_left a (by omega : 1 + r ≤ l0 * l1 / a)) (Nat.mul_div_le _ _)
    have hm1 : 1 ≤ 1 + r := by omega
    generalize 1 + r = more at hm1 hm2
    walk_at "st"
    refine z__law_draw ds hp 12 (by decide) (by omega) (fun r ds hr hp => ?_)
    walk_at "ws"
    rw [show (1 : Int) + (r : Int) = ((1 + r : Nat) : Int) by omega]
    have hb1 : 1 ≤ 1 + r := by omega
    have hb2 : 1 + r ≤ 12 := by omega
    generalize 1 + r = bb at hb1 hb2
    walk_at "st"
    exists mlog l2 l3 (by omega) (by omega), hmu, hdi
    refine ⟨⟨by omega, logd (by omega)⟩, ?_⟩
    refine z__law_draw ds hp 3 (by decide) (by omega) (fun r ds hr hp => ?_)
    walk_at "ws"
    have hcl : l2 * l3 / bb ≤ l2 * l3 := Nat.div_le_self _ _
    generalize l2 * l3 / bb = q at hcl ⊢
    rw [show (q : Int) + 1 + (r : Int) = ((q + 1 + r : Nat) : Int) by omega]
    have hc1 : 1 ≤ q + 1 + r := by omega
    have hc2 : q + 1 + r ≤ 20 := by omega
    generalize q + 1 + r = cc at hc1 hc2
    walk_at "st"
    walk_at "st"
    walk_at "st"
    have hX : ∀ (i : Nat) (d : D), ([PyData.list [.int m, .int (m + 1)], .list [.int m, .int (m + 2)], .list [.int (m + 2), .int m], .list [.int (m + 2), .int (m + 3)]] : List D)[i]? = some d → ∃ g : List Nat, d = .list (enN g) ∧ g.length = 2 ∧ ∀ x ∈ g, m ≤ x ∧ x < m + 4 := by
      intro i d hd
      match i, hd with
      | 0, hd => cases hd; exact ⟨[m, m + 1], rfl, rfl, by simp⟩
      | 1, hd => cases hd; exact ⟨[m, m + 2], rfl, rfl, by simp⟩
      | 2, hd => cases hd; exact ⟨[m + 2, m], rfl, rfl, by simp⟩
      | 3, hd => cases hd; exact ⟨[m + 2, m + 3], rfl, rfl, by simp⟩
      | i + 4, hd => cases hd
    have hXl : ([PyData.list [.int m, .int (m + 1)], .list [.int m, .int (m + 2)], .list [.int (m + 2), .int m], .list [.int (m + 2), .int (m + 3)]] : List D).length = 4 := rfl
    generalize ([PyData.list [.int m, .int (m + 1)], .list [.int m, .int (m + 2)], .list [.int (m + 2), .int m], .list [.int (m + 2), .int (m + 3)]] : List D) = X at hX hXl
    refine qC_inv (fun i acc ev => ∃ (gs : List (List Nat)) (ds : List D), acc = gs.map (fun g => .list (enN g)) ∧ gs.length = i ∧ (∀ g ∈ gs, g.length = 2 ∧ ∀ x ∈ g, m ≤ x ∧ x < m + 4) ∧ Pool ds ∧ ev = [some (.inn ds), some (.frz (.int m)), some (.frz (.bool false)), some (.frz (.int 4)), some (.own [.int l0, .int l1, .int l2, .int l3]), some (.frz (.int a)), some (.frz (.int more)), some (.frz (.int bb)), some (.frz (.int cc)), some (.frz (.int m)), some (.frz (.list X)), none, none, none, none]) ⟨[], ds, rfl, rfl, fun x hx => absurd hx (List.not_mem_nil), hp, rfl⟩ (fun j d acc ev hd hP => ?_) (fun acc ev hP => ?_)
    · obtain ⟨gs, ds, rfl, rfl, hgs, hp, rfl⟩ := hP
      have hj := (List.getElem?_eq_some_iff.mp hd).1
      rw [hXl] at hj
      obtain ⟨g, rfl, hg2, hgx⟩ := hX _ d hd
      walk_at "ws"
      refine z__law_draw ds hp 2 (by decide) (by decide) (fun r ds hr hp => ?_)
      have key : ∀ g' : List Nat, g'.length = 2 → (∀ x ∈ g', m ≤ x ∧ x < m + 4) → ∃ (gs' : List (List Nat)), gs.map (fun g => PyData.list (enN g)) ++ [.list (enN g')] = gs'.map (fun g => .list (enN g)) ∧ gs'.length = gs.length + 1 ∧ ∀ g ∈ gs', g.length = 2 ∧ ∀ x ∈ g, m ≤ x ∧ x < m + 4 := by
        intro g' e1 e2
        refine ⟨gs ++ [g'], by simp, by simp, fun g hg => ?_⟩
        rcases List.mem_append.mp hg with hg | hg
        · exact hgs g hg
        · rw [List.mem_singleton.mp hg]
          exact ⟨e1, e2⟩
      have hlen : (gs.map fun g => PyData.list (enN g)).length < sizeLine := by rw [List.length_map]; omega
      have hr01 : r = 0 ∨ r = 1 := by omega
      rcases hr01 with rfl | rfl
      · have s1 : stepD (.list (enN g)) (.int (1 - 2 * ((0 : Nat) : Int))) = some (.own (enN g)) := rfl
        exists s1
        obtain ⟨gs', c1, c2, c3⟩ := key g hg2 hgx
        exact ⟨by decide, hlen, gs', ds, c1, c2, c3, hp, rfl⟩
      · have s1 : stepD (.list (enN g)) (.int (1 - 2 * ((1 : Nat) : Int))) = some (.own (enN g.reverse)) := by
          show some (Sl.own (enN g).reverse) = _
          rw [enN, enN, List.map_reverse]
        exists s1
        obtain ⟨gs', c1, c2, c3⟩ := key g.reverse (by simpa using hg2) (fun x hx => hgx x (List.mem_reverse.mp hx))
        exact ⟨by decide, hlen, gs', ds, c1, c2, c3, hp, rfl⟩
    · obtain ⟨gs, ds, rfl, hgl, hgs, hp, rfl⟩ := hP
      rw [hXl] at hgl
      obtain ⟨g4, g5, g6, g7, rfl⟩ : ∃ a b c d, gs = [a, b, c, d] := by
        match gs, hgl with
        | [a, b, c, d], _ => exact ⟨a, b, c, d, rfl⟩
      walk_at "ws"
      walk_at "st"
      refine z__law_draw ds hp 3 (by decide) (by decide) (fun r ds hr hp => ?_)
      have own3 : ∃ o : Ow, ([PyData.str (Str.ofString "pen"), .str (Str.ofString "outside"), .str (Str.ofString "house")] : List D)[r]? = some (.str o.s) := by
        have hr012 : r = 0 ∨ r = 1 ∨ r = 2 := by omega
        rcases hr012 with rfl | rfl | rfl
        · exact ⟨.pen, rfl⟩
        · exact ⟨.out, rfl⟩
        · exact ⟨.hou, rfl⟩
      obtain ⟨o8, ho8⟩ := own3
      exists ho8
      refine wS_seq.mpr ?_
      walk_at "ws"
      have hrep : ∀ x : Nat, x ≤ 4 → ((-2 ^ 63 ≤ (x : Int) ∧ (x : Int) < 2 ^ 63 ∧ 1 * (x : Int).toNat ≤ sizeLine)) := fun x hx => ⟨by omega, by omega, by omega⟩
      refine ⟨hrep l0 b0.2, hrep l1 b1.2, hrep l2 b2.2, hrep l3 b3.2, ?_⟩
      have fin : ∀ (a8 : Nat) (ds : List D), 1 ≤ a8 → a8 ≤ 5 → (o8 ≠ .pen → a8 = 1) → Pool ds → Q (.own [.list [.tuple [.str (Str.ofString "pen"), .int a, .list (List.replicate (l0 : Int).toNat [PyData.int ((m : Int) + 1)]).flatten], .tuple [.str (Str.ofString "pen"), .int more, .list (List.replicate (l1 : Int).toNat [PyData.int (m : Int)]).flatten],
          .tuple [.str (Str.ofString "pen"), .int bb, .list (List.replicate (l2 : Int).toNat [PyData.int ((m : Int) + 3)]).flatten], .tuple [.str (Str.ofString "pen"), .int cc, .list (List.replicate (l3 : Int).toNat [PyData.int ((m : Int) + 2)]).flatten],
          .tuple [.str (Str.ofString "outside"), .int 1, .list (enN g4)], .tuple [.str (Str.ofString "house"), .int 1, .list (enN g5)], .tuple [.str (Str.ofString "outside"), .int 1, .list (enN g6)], .tuple [.str (Str.ofString "house"), .int 1, .list (enN g7)], .tuple [.str o8.s, .int a8, .list []]],
          .tuple [.int l0, .int a], .tuple [.int ((cc : Int) + l2), .int ((l3 : Int) + bb)], .int l2, .int bb, .list [.list (enN g4), .list (enN g5), .list (enN g6), .list (enN g7)]]) [some (.inn ds), none, none] := by
        intro a8 ds h81 h82 h83 hp
        have := h [⟨.pen, a, List.replicate l0 (m + 1)⟩, ⟨.pen, more, List.replicate l1 m⟩, ⟨.pen, bb, List.replicate l2 (m + 3)⟩, ⟨.pen, cc, List.replicate l3 (m + 2)⟩, ⟨.out, 1, g4⟩, ⟨.hou, 1, g5⟩, ⟨.out, 1, g6⟩, ⟨.hou, 1, g7⟩, ⟨o8, a8, []⟩] l0 l1 a more ds (.tuple [.int ((cc : Int) + l2), .int ((l3 : Int) + bb)]) (.int l2) (.int bb) (.list [.list (enN g4), .list (enN g5), .list (enN g6), .list (enN g7)])
          ⟨b0.1, b0.2, b1.1, b1.2, ha1, by omega, hm1, hm2, l2, l3, bb, cc, a8, o8, g4, g5, g6, g7, rfl, b2.2, b3.2, hb1, hb2, hc1, hc2, h81, h82, h83, hgs⟩ hp
        simp only [List.map_cons, List.map_nil, encR, enN_rep] at this
        simp only [rep_one, Int.toNat_natCast]
        exact this
      by_cases hpo : o8 = .pen
      · have hps : o8.s = Str.ofString "pen" := (ow_pen _).mpr hpo
        simp only [hps, if_true]
        refine z__law_draw ds hp 5 (by decide) (by decide) (fun r ds hr hp => ?_)
        have := fin (1 + r) ds (by omega) (by omega) (fun h => absurd hpo h) hp
        rw [hps, Int.natCast_add] at this
        walk_at "ws"
        exact this
      · have hps : ¬ o8.s = Str.ofString "pen" := fun h => hpo ((ow_pen _).mp h)
        simp only [hps, if_false]
        exact fin 1 ds (by decide) (by decide) (fun _ => rfl) hp
end Law
end
section
set_option Elab.async false
set_option linter.all false
set_option maxRecDepth 100000
set_option maxHeartbeats 4000000
namespace Law
open PySem PySem.Spec L2 MM
local macro_rules | `(tactic| walk_at "ws") => `(tactic| try simp only [↓reduceIte, wE_C, wB_none, wA_nil, wT_yes, wS_nil, wS_pass, wS_break, wS_cont, wS_retN, thenS_nx, thenS_rt, thenS_bk, thenS_ct, wS_pre, dropE, wG_set, wG_tup, wG_nil, rdV_frz, rdV_own, rdA_s, rdS_s, rdM_own, rdM_inn,
  seqQ_l, seqQ_t, zipQ_l, zipQ_t, wrQ_some, wpO_some, wpO_none, wpO_ite, ite_f, ite_t, ads, arNd, arSls, arSl, outsOf, outsOf_f, outsOf_n, List.tail_cons, back, backG, backAt, arAt, Sl.cont, wipeE, unwipe, frzAt, isa_bool,
  isa_int, isa_tuple, isa_str, isa_list, o_add_int, o_add_list, o_add_tup, o_add_str, o_sub, o_mul_int, o_mul_str, o_mul_tup, o_fdiv, o_mod, o_pow, o_eq_int, o_eq_str, o_eq_bool, o_ne_int, o_ne_str, o_lt, o_le, o_gt, o_ge,
  o_isN, o_isntN, o_none1, o_none2, o_none3, o_none4, o_len_l, o_len_t, o_max2, o_min2, o_int_i, o_int_b, o_tup_l, o_tup_t, o_lst_l, o_lst_t, o_sl_l, o_sl_t, o_item_l, o_item_t, atI_n, atI_0, atI_1, atI_2, atI_3, atI_4,
  atI_5, atI_m1, List.getElem?_cons_zero, List.getElem?_cons_succ, List.set_cons_zero, List.set_cons_succ, List.map_cons, List.map_nil, List.append_nil, List.nil_append, List.cons_append, List.replicate_succ,
  List.replicate_zero, Nat.sub_self, Nat.reduceSub, Nat.reduceAdd, Nat.reduceEqDiff, Option.map_some, Option.map_none, Option.bind_some, Option.getD_some, List.all_cons, List.all_nil, Bool.and_true, Bool.true_and, List.nodup_nil,
  List.nodup_cons, List.mem_nil_iff, List.not_mem_nil, not_false_eq_true, not_true_eq_false, List.length_cons, List.length_nil, Nat.zero_add, Bool.not_not, Bool.not_true, Bool.not_false, Bool.not_eq_true',
  decide_eq_false_iff_not, true_and, and_true, if_true, if_false, Bool.false_eq_true, reduceCtorEq, PyData.bool.injEq, PyData.int.injEq, PyData.tuple.injEq, PyData.list.injEq, Sl.own.injEq, Option.some.injEq,
  List.cons.injEq, exists_eq_left', exists_eq_left, decide_eq_true_eq, e_kR, e_kF, e_kVf, e_kVo, e_kMo, q_var, q_move, e_kB2, e_kB1, q_bin, q_bm, e_kNeg, q_neg, e_kNotV, q_notV, e_kAndV, q_andV, e_kOrV, q_orV, e_kIf, q_if,
  e_kIsi, q_isi, e_kIx3, e_kIx2, e_kIx1, q_ixN, e_kRd2_0, e_kRd2_1, e_kRd2_2, e_kRd2_3, e_kRd, q_rd1, e_kTN2, e_kTN, q_tupN, e_kLN2, e_kLN, q_lstN, e_kAp3, e_kAp2, e_kAp1, q_app, e_kPo3, e_kPo2, e_kPo1, e_kCB2, e_kCB,
  q_callB, e_kTp2, e_kTp, q_tup, e_kLs2, e_kLs, q_lst, e_kCa3, e_kCa2, e_kCa, q_call, e_kLc2, e_kLc, q_lc, e_kSl3, e_kSl2, e_kSl1, q_slice, e_kSn4, e_kSn3, e_kSn2, e_kSn1, q_slcN, e_kSt2, e_kSt1, q_step, e_kRp2, e_kRp1,
  q_rep, e_kLr, q_lstRg, e_kBs, q_bsome, e_kAc2, e_kAc1, q_acons, e_kAs2, e_kAs1, q_aslot, e_kTr2, e_kTru, q_tru, e_kTn, q_truN, e_kNot, q_not, e_kAnd, q_and, e_kOr, q_or, e_kTB, q_B, e_kDr, q_drop, e_kRet, q_ret, e_kSi,
  q_sif, e_kSet, q_set, e_kNx, e_kAsg, q_asg, e_kGc, q_gcons, e_kG2, q_T2, e_kSub3, e_kSub2, e_kSub1, e_kSub0, e_kSq2, e_kSeq, q_seq, e_kRg1, q_rng1, e_kRg2, q_rng2, e_kZip, q_zip, e_kFor, q_for, e_kFn_0, e_kFn_1, q_fn,
  e_kDp, q_drp, e_kTurn_0, e_kTurn_1, e_kTurn_2, e_kTurn_3, e_kBody, e_kFind, e_kCi3, e_kCi2, e_kCi1, e_kCp3, e_kCp2, e_kCp1, e_kWh2, e_kWh1, d_frz, d_own, d_inn, put_own, put_inn, isInn_n, isInn_f, isInn_o, tru_l, tru_t,
  tru_b, tru_i, tru_n, e_kI, q_item, put_own, put_inn, lz0, lz1, lz2, lz3, lz4, lz5, lz6, lz7, lz8, lz9, lz10, lz11, lz12, lz13, lz14, lz15, lz16, lz17, lz18, lz19, lz20, lz21, lz22, lz23, lz24, not_true_eq_false, decide_true, decide_false])
local macro_rules | `(tactic| walk_at "st") => `(tactic| (refine wS_seq.mpr ?_; walk_at "ws"))
local macro_rules | `(tactic| walk_at "sb") => `(tactic| (refine q_sub ?_; walk_at "ws"))
local macro_rules | `(tactic| exists $ts,*) => `(tactic| simp only [$[$ts:term],*, ↓reduceIte, wE_C, wB_none, wA_nil, wT_yes, wS_nil, wS_pass, wS_break, wS_cont, wS_retN, thenS_nx, thenS_rt, thenS_bk, thenS_ct, wS_pre, dropE, wG_set, wG_tup, wG_nil, rdV_frz, rdV_own, rdA_s, rdS_s, rdM_own, rdM_inn,
  seqQ_l, seqQ_t, zipQ_l, zipQ_t, wrQ_some, wpO_some, wpO_none, wpO_ite, ite_f, ite_t, ads, arNd, arSls, arSl, outsOf, outsOf_f, outsOf_n, List.tail_cons, back, backG, backAt, arAt, Sl.cont, wipeE, unwipe, frzAt, isa_bool,
  isa_int, isa_tuple, isa_str, isa_list, o_add_int, o_add_list, o_add_tup, o_add_str, o_sub, o_mul_int, o_mul_str, o_mul_tup, o_fdiv, o_mod, o_pow, o_eq_int, o_eq_str, o_eq_bool, o_ne_int, o_ne_str, o_lt, o_le, o_gt, o_ge,
  o_isN, o_isntN, o_none1, o_none2, o_none3, o_none4, o_len_l, o_len_t, o_max2, o_min2, o_int_i, o_int_b, o_tup_l, o_tup_t, o_lst_l, o_lst_t, o_sl_l, o_sl_t, o_item_l, o_item_t, atI_n, atI_0, atI_1, atI_2, atI_3, atI_4,
  atI_5, atI_m1, List.getElem?_cons_zero, List.getElem?_cons_succ, List.set_cons_zero, List.set_cons_succ, List.map_cons, List.map_nil, List.append_nil, List.nil_append, List.cons_append, List.replicate_succ,
  List.replicate_zero, Nat.sub_self, Nat.reduceSub, Nat.reduceAdd, Nat.reduceEqDiff, Option.map_some, Option.map_none, Option.bind_some, Option.getD_some, List.all_cons, List.all_nil, Bool.and_true, Bool.true_and, List.nodup_nil,
  List.nodup_cons, List.mem_nil_iff, List.not_mem_nil, not_false_eq_true, not_true_eq_false, List.length_cons, List.length_nil, Nat.zero_add, Bool.not_not, Bool.not_true, Bool.not_false, Bool.not_eq_true',
  decide_eq_false_iff_not, true_and, and_true, if_true, if_false, Bool.false_eq_true, reduceCtorEq, PyData.bool.injEq, PyData.int.injEq, PyData.tuple.injEq, PyData.list.injEq, Sl.own.injEq, Option.some.injEq,
  List.cons.injEq, exists_eq_left', exists_eq_left, decide_eq_true_eq, e_kR, e_kF, e_kVf, e_kVo, e_kMo, q_var, q_move, e_kB2, e_kB1, q_bin, q_bm, e_kNeg, q_neg, e_kNotV, q_notV, e_kAndV, q_andV, e_kOrV, q_orV, e_kIf, q_if,
  e_kIsi, q_isi, e_kIx3, e_kIx2, e_kIx1, q_ixN, e_kRd2_0, e_kRd2_1, e_kRd2_2, e_kRd2_3, e_kRd, q_rd1, e_kTN2, e_kTN, q_tupN, e_kLN2, e_kLN, q_lstN, e_kAp3, e_kAp2, e_kAp1, q_app, e_kPo3, e_kPo2, e_kPo1, e_kCB2, e_kCB,
  q_callB, e_kTp2, e_kTp, q_tup, e_kLs2, e_kLs, q_lst, e_kCa3, e_kCa2, e_kCa, q_call, e_kLc2, e_kLc, q_lc, e_kSl3, e_kSl2, e_kSl1, q_slice, e_kSn4, e_kSn3, e_kSn2, e_kSn1, q_slcN, e_kSt2, e_kSt1, q_step, e_kRp2, e_kRp1,
  q_rep, e_kLr, q_lstRg, e_kBs, q_bsome, e_kAc2, e_kAc1, q_acons, e_kAs2, e_kAs1, q_aslot, e_kTr2, e_kTru, q_tru, e_kTn, q_truN, e_kNot, q_not, e_kAnd, q_and, e_kOr, q_or, e_kTB, q_B, e_kDr, q_drop, e_kRet, q_ret, e_kSi,
  q_sif, e_kSet, q_set, e_kNx, e_kAsg, q_asg, e_kGc, q_gcons, e_kG2, q_T2, e_kSub3, e_kSub2, e_kSub1, e_kSub0, e_kSq2, e_kSeq, q_seq, e_kRg1, q_rng1, e_kRg2, q_rng2, e_kZip, q_zip, e_kFor, q_for, e_kFn_0, e_kFn_1, q_fn,
  e_kDp, q_drp, e_kTurn_0, e_kTurn_1, e_kTurn_2, e_kTurn_3, e_kBody, e_kFind, e_kCi3, e_kCi2, e_kCi1, e_kCp3, e_kCp2, e_kCp1, e_kWh2, e_kWh1, d_frz, d_own, d_inn, put_own, put_inn, isInn_n, isInn_f, isInn_o, tru_l, tru_t,
  tru_b, tru_i, tru_n, e_kI, q_item, put_own, put_inn, lz0, lz1, lz2, lz3, lz4, lz5, lz6, lz7, lz8, lz9, lz10, lz11, lz12, lz13, lz14, lz15, lz16, lz17, lz18, lz19, lz20, lz21, lz22, lz23, lz24, not_true_eq_false, decide_true, decide_false])
theorem rep_len (x : Str) (n : Nat) : (repStr x n).length = n * x.length := by
  show (List.replicate n x.cps.toList).flatten.toArray.size = n * x.cps.size
  induction n with
  | zero => simp
  | succ n ih =>
    simp only [List.size_toArray] at ih ⊢
    rw [List.replicate_succ, List.flatten_cons, List.length_append, ih, Array.length_toList, Nat.succ_mul]
    omega
def abc : Str := Str.ofString "abcdefghijklmnopqrstuvwxyz"
theorem abc_len : abc.length = 26 := by decide
theorem letter {r : Nat} (h : r < 26) : ∃ x : Str, itemD (.str abc) (.int r) = some (.str x) ∧ x.length = 1 := by
  have hl : abc.cps.toList.length = 26 := by rw [Array.length_toList]; exact abc_len
  refine ⟨⟨#[abc.cps.toList[r]'(by omega)]⟩, ?_, rfl⟩
  show (if abc.length ≤ sizeLine then (atI abc.cps.toList (r : Int)).map fun c => PyData.str ⟨#[c]⟩ else none) = _
  rw [if_pos (by rw [abc_len]; exact Nat.le_trans (by decide) size_big), atI_n, List.getElem?_eq_getElem (by omega)]
  rfl
theorem num_str {i : Nat} (h : i < 4) : ∃ x : Str, strD [.int i] = some (.frz (.str x)) ∧ x.length = 1 := by
  match i, h with
  | 0, _ => exact ⟨_, rfl, by decide⟩
  | 1, _ => exact ⟨_, rfl, by decide⟩
  | 2, _ => exact ⟨_, rfl, by decide⟩
  | 3, _ => exact ⟨_, rfl, by decide⟩
def og (o : List Nat) (g : Nat) : Nat := o.getD g 0
theorem og_at {o : List Nat} {g : Nat} (h : g < o.length) : (enN o)[g]? = some (.int (og o g : Nat)) := by
  rw [enN_at h]
  simp [og, List.getD_eq_getElem?_getD, List.getElem?_eq_getElem h]
def encI : Option Stn → D
  | none => .none
  | some s => encS s
structure StOk (o : List Nat) (r : Row) (s : Stn) : Prop where
  h : s.o = r.o
  a : s.ask = r.ask
  m : s.mv.map (fun p => p.2) = r.gs.map (og o)
def rw' (rs : List Row) (i : Nat) : Row := rs.getD i default
theorem row_at {rs : List Row} {i : Nat} (h : i < rs.length) : (rs.map encR)[i]? = some (encR (rw' rs i)) := by
  rw [List.getElem?_map, List.getElem?_eq_getElem h]
  simp [rw', List.getD_eq_getElem?_getD, List.getElem?_eq_getElem h]
theorem z__law_book (ds : List D) (hp : Pool ds) (rs : List Row) (o : List Nat) (hrl : rs.length ≤ 1000) (ho : o.Perm (List.range rs.length)) (hg : ∀ i, i < rs.length → (rw' rs i).gs.length ≤ 4 ∧ ∀ g ∈ (rw' rs i).gs, g < rs.length) {Q : Sl → Ev → Prop}
    (h : ∀ (b : List Stn) ds, b.length = rs.length → (∀ i, i < rs.length → StOk o (rw' rs i) (st b (og o i))) → Pool ds → Q (.frz (encB b)) [some (.inn ds), none, none]) : wpF fn__law_book [.inn ds, .frz (.list (rs.map encR)), .frz (.list (enN o))] Q := by
  have hsz := size_big
  have hol : o.length = rs.length := by rw [ho.length_eq, List.length_range]
  have holt : ∀ i, i < rs.length → og o i < rs.length := fun i hi => by
    have : o[i]'(by omega) ∈ List.range rs.length := ho.mem_iff.mp (List.getElem_mem _)
    have e : og o i = o[i]'(by omega) := by simp [og, List.getD_eq_getElem?_getD, List.getElem?_eq_getElem (show i < o.length by omega)]
    rw [e]
    exact List.mem_range.mp this
  have honj : ∀ i j, i < rs.length → j < rs.length → og o i = og o j → i = j := fun i j hi hj e => by
    have hn : o.Nodup := ho.nodup_iff.mpr List.nodup_range
    have e1 : og o i = o[i]'(by omega) := by simp [og, List.getD_eq_getElem?_getD, List.getElem?_eq_getElem (show i < o.length by omega)]
    have e2 : og o j = o[j]'(by omega) := by simp [og, List.getD_eq_getElem?_getD, List.getElem?_eq_getElem (show j < o.length by omega)]
    rw [e1, e2] at e
    exact (List.getElem_inj hn).mp e
  unfold fn__law_book body__law_book
  walk_at "ws"
  walk_at "st"
  rw [List.length_map]
  refine ⟨⟨by omega, by omega, by omega⟩, ?_⟩
  rw [rep_one, Int.toNat_natCast]
  walk_at "st"
  rw [List.length_map]
  refine ⟨by omega, ?_⟩
  rw [Int.toNat_natCast, intsD_range]
  refine qL_inv (fun i ev => ∃ (bs : List (Option Stn)) (ds : List D), bs.length = rs.length ∧ (∀ j, j < i → ∃ s, bs[og o j]? = some (some s) ∧ StOk o (rw' rs j) s) ∧ Pool ds ∧ ev = [some (.inn ds), some (.frz (.list (rs.map encR))), some (.frz (.list (enN o))), some (.own (bs.map encI)), none, none, none, none]) ⟨List.replicate rs.length none, ds, by simp, fun j hj => absurd hj (Nat.not_lt_zero j), hp, by simp [encI]⟩ (fun i d ev hd hP => ?_) (fun ev hP => ?_)
  · obtain ⟨bs, ds, hbl, hbs, hp, rfl⟩ := hP
    have hi := (List.getElem?_eq_some_iff.mp hd).1
    rw [enN_len, List.length_range] at hi
    rw [enN_at (by simpa using hi)] at hd
    simp only [List.getElem_range] at hd
    cases hd
    have hgi := hg i hi
    walk_at "ws"
    walk_at "st"
    walk_at "st"
    exists row_at hi, encR
    refine qL_inv (fun j ev => ∃ (mv : List (Str × Nat)) (ds : List D), mv.length = j ∧ mv.map (fun p => p.2) = ((rw' rs i).gs.take j).map (og o) ∧ Pool ds ∧ ev = [some (.inn ds), some (.frz (.list (rs.map encR))), some (.frz (.list (enN o))), some (.own (bs.map encI)), some (.frz (.int i)), some (.own (mv.map encM)), none, none]) ⟨[], ds, rfl, by simp, hp, rfl⟩ (fun j d ev hd hP => ?_) (fun ev hP => ?_)
    · obtain ⟨mv, ds, rfl, hmv, hp, rfl⟩ := hP
      have hj := (List.getElem?_eq_some_iff.mp hd).1
      rw [enN_len] at hj
      rw [enN_at hj] at hd
      cases hd
      have hgl := hgi.2 _ (List.getElem_mem hj)
      walk_at "ws"
      walk_at "st"
      refine z__law_draw ds hp 26 (by decide) (by decide) (fun r ds hr hp => ?_)
      obtain ⟨x, hx, hx1⟩ := letter hr
      unfold abc at hx
      exists hx
      refine z__law_draw ds hp 3 (by decide) (by decide) (fun r ds hr hp => ?_)
      have h1r : (1 : Int) + (r : Int) = ((1 + r : Nat) : Int) := by omega
      obtain ⟨y, hy, hy1⟩ := num_str (show mv.length < 4 by omega)
      have hlm : (mv.map encM).length = mv.length := by simp
      exists h1r, hlm, hy, og_at (show (rw' rs i).gs[mv.length] < o.length by omega)
      rw [rep_len, hx1, hy1]
      refine ⟨⟨by omega, by omega, by omega⟩, ?_⟩
      have hlen : mv.length < sizeLine := by omega
      refine ⟨by rw [Int.toNat_natCast]; omega, hlen, mv ++ [((repStr x ((1 + r : Nat) : Int).toNat) ++ y, og o ((rw' rs i).gs[mv.length]))], ds, by simp, ?_, hp, ⟨rfl, by simp [encM]⟩⟩
      rw [List.map_append, hmv, List.take_succ_eq_append_getElem hj, List.map_append]
      rfl
    · obtain ⟨mv, ds, hml, hmv, hp, rfl⟩ := hP
      rw [enN_len] at hml hmv
      rw [List.take_length] at hmv
      walk_at "ws"
      walk_at "sb"
      exists row_at hi, encR, og_at (show i < o.length by omega)
      refine ⟨og o i, rfl, by rw [List.length_map, hbl]; exact holt i hi, bs.set (og o i) (some ⟨(rw' rs i).o, (rw' rs i).ask, mv⟩), ds, by simpa using hbl, fun j hj => ?_, hp, ⟨rfl, by rw [List.map_set]; rfl⟩⟩
      by_cases hji : j = i
      · subst hji
        exact ⟨_, by rw [List.getElem?_set_self (by rw [hbl]; exact holt j hi)], rfl, rfl, hmv⟩
      · obtain ⟨s, h1, h2⟩ := hbs j (by omega)
        refine ⟨s, ?_, h2⟩
        rw [List.getElem?_set_ne (fun e => hji (honj i j hi (by omega) e).symm)]
        exact h1
  · obtain ⟨bs, ds, hbl, hbs, hp, rfl⟩ := hP
    rw [enN_len, List.length_range] at hbs
    walk_at "ws"
    have all : ∀ k, k < rs.length → ∃ s, bs[k]? = some (some s) := fun k hk => by
      have : k ∈ o := ho.mem_iff.mpr (List.mem_range.mpr hk)
      obtain ⟨j, hj, rfl⟩ := List.getElem_of_mem this
      obtain ⟨s, hs, _⟩ := hbs j (by omega)
      refine ⟨s, ?_⟩
      rw [← hs]
      simp [og, List.getD_eq_getElem?_getD, List.getElem?_eq_getElem hj]
    have eb : bs.map encI = (bs.map fun x => x.getD default).map encS := by
      rw [List.map_map]
      refine List.map_congr_left fun x hx => ?_
      obtain ⟨k, hk, rfl⟩ := List.getElem_of_mem hx
      obtain ⟨s, hs⟩ := all k (by omega)
      rw [List.getElem?_eq_getElem hk] at hs
      cases hs' : bs[k] with
      | none => rw [hs'] at hs; cases hs
      | some s => rfl
    rw [eb]
    refine h (bs.map fun x => x.getD default) ds (by simpa using hbl) (fun i hi => ?_) hp
    obtain ⟨s, hs, hk⟩ := hbs i hi
    have : st (bs.map fun x => x.getD default) (og o i) = s := by
      simp only [st, List.getD_eq_getElem?_getD, List.getElem?_map, hs]
      rfl
    rw [this]
    exact hk
end Law
end
section
set_option Elab.async false
set_option linter.all false
set_option maxRecDepth 100000
set_option maxHeartbeats 4000000
namespace Law
open PySem PySem.Spec L2 MM
local macro_rules | `(tactic| walk_at "ws") => `(tactic| try simp only [↓reduceIte, wE_C, wB_none, wA_nil, wT_yes, wS_nil, wS_pass, wS_break, wS_cont, wS_retN, thenS_nx, thenS_rt, thenS_bk, thenS_ct, wS_pre, dropE, wG_set, wG_tup, wG_nil, rdV_frz, rdV_own, rdA_s, rdS_s, rdM_own, rdM_inn,
  seqQ_l, seqQ_t, zipQ_l, zipQ_t, wrQ_some, wpO_some, wpO_none, wpO_ite, ite_f, ite_t, ads, arNd, arSls, arSl, outsOf, outsOf_f, outsOf_n, List.tail_cons, back, backG, backAt, arAt, Sl.cont, wipeE, unwipe, frzAt, isa_bool,
  isa_int, isa_tuple, isa_str, isa_list, o_add_int, o_add_list, o_add_tup, o_add_str, o_sub, o_mul_int, o_mul_str, o_mul_tup, o_fdiv, o_mod, o_pow, o_eq_int, o_eq_str, o_eq_bool, o_ne_int, o_ne_str, o_lt, o_le, o_gt, o_ge,
  o_isN, o_isntN, o_none1, o_none2, o_none3, o_none4, o_len_l, o_len_t, o_max2, o_min2, o_int_i, o_int_b, o_tup_l, o_tup_t, o_lst_l, o_lst_t, o_sl_l, o_sl_t, o_item_l, o_item_t, atI_n, atI_0, atI_1, atI_2, atI_3, atI_4,
  atI_5, atI_m1, List.getElem?_cons_zero, List.getElem?_cons_succ, List.set_cons_zero, List.set_cons_succ, List.map_cons, List.map_nil, List.append_nil, List.nil_append, List.cons_append, List.replicate_succ,
  List.replicate_zero, Nat.sub_self, Nat.reduceSub, Nat.reduceAdd, Nat.reduceEqDiff, Option.map_some, Option.map_none, Option.bind_some, Option.getD_some, List.all_cons, List.all_nil, Bool.and_true, Bool.true_and, List.nodup_nil,
  List.nodup_cons, List.mem_nil_iff, List.not_mem_nil, not_false_eq_true, not_true_eq_false, List.length_cons, List.length_nil, Nat.zero_add, Bool.not_not, Bool.not_true, Bool.not_false, Bool.not_eq_true',
  decide_eq_false_iff_not, true_and, and_true, if_true, if_false, Bool.false_eq_true, reduceCtorEq, PyData.bool.injEq, PyData.int.injEq, PyData.tuple.injEq, PyData.list.injEq, Sl.own.injEq, Option.some.injEq,
  List.cons.injEq, exists_eq_left', exists_eq_left, decide_eq_true_eq, e_kR, e_kF, e_kVf, e_kVo, e_kMo, q_var, q_move, e_kB2, e_kB1, q_bin, q_bm, e_kNeg, q_neg, e_kNotV, q_notV, e_kAndV, q_andV, e_kOrV, q_orV, e_kIf, q_if,
  e_kIsi, q_isi, e_kIx3, e_kIx2, e_kIx1, q_ixN, e_kRd2_0, e_kRd2_1, e_kRd2_2, e_kRd2_3, e_kRd, q_rd1, e_kTN2, e_kTN, q_tupN, e_kLN2, e_kLN, q_lstN, e_kAp3, e_kAp2, e_kAp1, q_app, e_kPo3, e_kPo2, e_kPo1, e_kCB2, e_kCB,
  q_callB, e_kTp2, e_kTp, q_tup, e_kLs2, e_kLs, q_lst, e_kCa3, e_kCa2, e_kCa, q_call, e_kLc2, e_kLc, q_lc, e_kSl3, e_kSl2, e_kSl1, q_slice, e_kSn4, e_kSn3, e_kSn2, e_kSn1, q_slcN, e_kSt2, e_kSt1, q_step, e_kRp2, e_kRp1,
  q_rep, e_kLr, q_lstRg, e_kBs, q_bsome, e_kAc2, e_kAc1, q_acons, e_kAs2, e_kAs1, q_aslot, e_kTr2, e_kTru, q_tru, e_kTn, q_truN, e_kNot, q_not, e_kAnd, q_and, e_kOr, q_or, e_kTB, q_B, e_kDr, q_drop, e_kRet, q_ret, e_kSi,
  q_sif, e_kSet, q_set, e_kNx, e_kAsg, q_asg, e_kGc, q_gcons, e_kG2, q_T2, e_kSub3, e_kSub2, e_kSub1, e_kSub0, e_kSq2, e_kSeq, q_seq, e_kRg1, q_rng1, e_kRg2, q_rng2, e_kZip, q_zip, e_kFor, q_for, e_kFn_0, e_kFn_1, q_fn,
  e_kDp, q_drp, e_kTurn_0, e_kTurn_1, e_kTurn_2, e_kTurn_3, e_kBody, e_kFind, e_kCi3, e_kCi2, e_kCi1, e_kCp3, e_kCp2, e_kCp1, e_kWh2, e_kWh1, d_frz, d_own, d_inn, put_own, put_inn, isInn_n, isInn_f, isInn_o, tru_l, tru_t,
  tru_b, tru_i, tru_n, e_kI, q_item, put_own, put_inn, lz0, lz1, lz2, lz3, lz4, lz5, lz6, lz7, lz8, lz9, lz10, lz11, lz12, lz13, lz14, lz15, lz16, lz17, lz18, lz19, lz20, lz21, lz22, lz23, lz24, not_true_eq_false, decide_true, decide_false])
local macro_rules | `(tactic| walk_at "st") => `(tactic| (refine wS_seq.mpr ?_; walk_at "ws"))
local macro_rules | `(tactic| walk_at "sb") => `(tactic| (refine q_sub ?_; walk_at "ws"))
local macro_rules | `(tactic| exists $ts,*) => `(tactic| simp only [$[$ts:term],*, ↓reduceIte, wE_C, wB_none, wA_nil, wT_yes, wS_nil, wS_pass, wS_break, wS_cont, wS_retN, thenS_nx, thenS_rt, thenS_bk, thenS_ct, wS_pre, dropE, wG_set, wG_tup, wG_nil, rdV_frz, rdV_own, rdA_s, rdS_s, rdM_own, rdM_inn,
  seqQ_l, seqQ_t, zipQ_l, zipQ_t, wrQ_some, wpO_some, wpO_none, wpO_ite, ite_f, ite_t, ads, arNd, arSls, arSl, outsOf, outsOf_f, outsOf_n, List.tail_cons, back, backG, backAt, arAt, Sl.cont, wipeE, unwipe, frzAt, isa_bool,
  isa_int, isa_tuple, isa_str, isa_list, o_add_int, o_add_list, o_add_tup, o_add_str, o_sub, o_mul_int, o_mul_str, o_mul_tup, o_fdiv, o_mod, o_pow, o_eq_int, o_eq_str, o_eq_bool, o_ne_int, o_ne_str, o_lt, o_le, o_gt, o_ge,
  o_isN, o_isntN, o_none1, o_none2, o_none3, o_none4, o_len_l, o_len_t, o_max2, o_min2, o_int_i, o_int_b, o_tup_l, o_tup_t, o_lst_l, o_lst_t, o_sl_l, o_sl_t, o_item_l, o_item_t, atI_n, atI_0, atI_1, atI_2, atI_3, atI_4,
  atI_5, atI_m1, List.getElem?_cons_zero, List.getElem?_cons_succ, List.set_cons_zero, List.set_cons_succ, List.map_cons, List.map_nil, List.append_nil, List.nil_append, List.cons_append, List.replicate_succ,
  List.replicate_zero, Nat.sub_self, Nat.reduceSub, Nat.reduceAdd, Nat.reduceEqDiff, Option.map_some, Option.map_none, Option.bind_some, Option.getD_some, List.all_cons, List.all_nil, Bool.and_true, Bool.true_and, List.nodup_nil,
  List.nodup_cons, List.mem_nil_iff, List.not_mem_nil, not_false_eq_true, not_true_eq_false, List.length_cons, List.length_nil, Nat.zero_add, Bool.not_not, Bool.not_true, Bool.not_false, Bool.not_eq_true',
  decide_eq_false_iff_not, true_and, and_true, if_true, if_false, Bool.false_eq_true, reduceCtorEq, PyData.bool.injEq, PyData.int.injEq, PyData.tuple.injEq, PyData.list.injEq, Sl.own.injEq, Option.some.injEq,
  List.cons.injEq, exists_eq_left', exists_eq_left, decide_eq_true_eq, e_kR, e_kF, e_kVf, e_kVo, e_kMo, q_var, q_move, e_kB2, e_kB1, q_bin, q_bm, e_kNeg, q_neg, e_kNotV, q_notV, e_kAndV, q_andV, e_kOrV, q_orV, e_kIf, q_if,
  e_kIsi, q_isi, e_kIx3, e_kIx2, e_kIx1, q_ixN, e_kRd2_0, e_kRd2_1, e_kRd2_2, e_kRd2_3, e_kRd, q_rd1, e_kTN2, e_kTN, q_tupN, e_kLN2, e_kLN, q_lstN, e_kAp3, e_kAp2, e_kAp1, q_app, e_kPo3, e_kPo2, e_kPo1, e_kCB2, e_kCB,
  q_callB, e_kTp2, e_kTp, q_tup, e_kLs2, e_kLs, q_lst, e_kCa3, e_kCa2, e_kCa, q_call, e_kLc2, e_kLc, q_lc, e_kSl3, e_kSl2, e_kSl1, q_slice, e_kSn4, e_kSn3, e_kSn2, e_kSn1, q_slcN, e_kSt2, e_kSt1, q_step, e_kRp2, e_kRp1,
  q_rep, e_kLr, q_lstRg, e_kBs, q_bsome, e_kAc2, e_kAc1, q_acons, e_kAs2, e_kAs1, q_aslot, e_kTr2, e_kTru, q_tru, e_kTn, q_truN, e_kNot, q_not, e_kAnd, q_and, e_kOr, q_or, e_kTB, q_B, e_kDr, q_drop, e_kRet, q_ret, e_kSi,
  q_sif, e_kSet, q_set, e_kNx, e_kAsg, q_asg, e_kGc, q_gcons, e_kG2, q_T2, e_kSub3, e_kSub2, e_kSub1, e_kSub0, e_kSq2, e_kSeq, q_seq, e_kRg1, q_rng1, e_kRg2, q_rng2, e_kZip, q_zip, e_kFor, q_for, e_kFn_0, e_kFn_1, q_fn,
  e_kDp, q_drp, e_kTurn_0, e_kTurn_1, e_kTurn_2, e_kTurn_3, e_kBody, e_kFind, e_kCi3, e_kCi2, e_kCi1, e_kCp3, e_kCp2, e_kCp1, e_kWh2, e_kWh1, d_frz, d_own, d_inn, put_own, put_inn, isInn_n, isInn_f, isInn_o, tru_l, tru_t,
  tru_b, tru_i, tru_n, e_kI, q_item, put_own, put_inn, lz0, lz1, lz2, lz3, lz4, lz5, lz6, lz7, lz8, lz9, lz10, lz11, lz12, lz13, lz14, lz15, lz16, lz17, lz18, lz19, lz20, lz21, lz22, lz23, lz24, not_true_eq_false, decide_true, decide_false])
theorem minI_mono {α : Type} (f g : α → Int) : ∀ (l : List α), (∀ p ∈ l, f p ≤ g p) → minI (l.map f) ≤ minI (l.map g)
  | [], _ => Int.le_refl _
  | [x], h => h x (by simp)
  | x :: y :: r, h => by
    have ih := minI_mono f g (y :: r) (fun p hp => h p (List.mem_cons_of_mem _ hp))
    have hx := h x (by simp)
    show min (f x) (minI ((y :: r).map f)) ≤ min (g x) (minI ((y :: r).map g))
    omega
theorem maxI_mono {α : Type} (f g : α → Int) : ∀ (l : List α), (∀ p ∈ l, f p ≤ g p) → maxI (l.map f) ≤ maxI (l.map g)
  | [], _ => Int.le_refl _
  | [x], h => h x (by simp)
  | x :: y :: r, h => by
    have ih := maxI_mono f g (y :: r) (fun p hp => h p (List.mem_cons_of_mem _ hp))
    have hx := h x (by simp)
    show max (f x) (maxI ((y :: r).map f)) ≤ max (g x) (maxI ((y :: r).map g))
    omega
theorem sum_mono {α : Type} (f g : α → Int) : ∀ (l : List α), (∀ p ∈ l, f p ≤ g p) → (l.map f).sum ≤ (l.map g).sum
  | [], _ => Int.le_refl _
  | x :: r, h => by
    have ih := sum_mono f g r (fun p hp => h p (List.mem_cons_of_mem _ hp))
    have hx := h x (by simp)
    simp only [List.map_cons, List.sum_cons]
    omega
theorem pick_mono {α : Type} {o : Ow} {f g : α → Int} {l : List α} (h : ∀ p ∈ l, f p ≤ g p) : pick o (l.map f) ≤ pick o (l.map g) := by
  cases o
  · exact sum_mono f g l h
  · exact minI_mono f g l h
  · exact maxI_mono f g l h
theorem minI_const {α : Type} (c : Int) : ∀ (l : List α), l ≠ [] → minI (l.map fun _ => c) = c
  | [], h => absurd rfl h
  | [x], _ => rfl
  | x :: y :: r, _ => by
    have ih := minI_const c (y :: r) (by simp)
    show min c (minI ((y :: r).map fun _ => c)) = c
    omega
theorem maxI_const {α : Type} (c : Int) : ∀ (l : List α), l ≠ [] → maxI (l.map fun _ => c) = c
  | [], h => absurd rfl h
  | [x], _ => rfl
  | x :: y :: r, _ => by
    have ih := maxI_const c (y :: r) (by simp)
    show max c (maxI ((y :: r).map fun _ => c)) = c
    omega
theorem sum_zero {α : Type} : ∀ (l : List α), (l.map fun _ => (0 : Int)).sum = 0
  | [] => rfl
  | x :: r => by simp only [List.map_cons, List.sum_cons, sum_zero r]; rfl
theorem pick_nonneg {α : Type} {o : Ow} {f : α → Int} {l : List α} (hl : l ≠ []) (h : ∀ p ∈ l, 0 ≤ f p) : 0 ≤ pick o (l.map f) := by
  have := pick_mono (o := o) (f := fun _ => 0) (g := f) h
  cases o
  · simp only [pick, sum_zero] at this
    exact this
  · simp only [pick, minI_const 0 l hl] at this
    exact this
  · simp only [pick, maxI_const 0 l hl] at this
    exact this
theorem pick_le {α : Type} {o : Ow} (ho : o ≠ .pen) {f : α → Int} {l : List α} {c : Int} (hl : l ≠ []) (h : ∀ p ∈ l, f p ≤ c) : pick o (l.map f) ≤ c := by
  have := pick_mono (o := o) (f := f) (g := fun _ => c) h
  cases o
  · exact absurd rfl ho
  · simp only [pick, minI_const c l hl] at this
    exact this
  · simp only [pick, maxI_const c l hl] at this
    exact this
theorem ediv_mono {a b : Int} {k : Nat} (hk : 1 ≤ k) (h : a ≤ b) : a / k ≤ b / k := Int.ediv_le_ediv (by omega) h
theorem most_mono {n : Nat} {s : Stn} (w : WfS n s) {x y : List Int} (h : ∀ i, i < n → gt x i ≤ gt y i) : most s x ≤ most s y := by
  unfold most
  split
  · exact Int.le_refl _
  · exact ediv_mono w.a1 (pick_mono fun p hp => h _ (w.m2 p hp))
theorem most_nonneg {n : Nat} {s : Stn} (w : WfS n s) {x : List Int} (h : ∀ i, i < n → 0 ≤ gt x i) : 0 ≤ most s x := by
  unfold most
  split
  · exact Int.le_refl _
  · exact Int.ediv_nonneg (pick_nonneg ‹_› fun p hp => h _ (w.m2 p hp)) (by omega)
def postF (b : List Stn) (bound : Int) (x : List Int) : Prop := ∀ i, i < b.length → gt x i ≤ bound ∧ gt x i ≤ most (st b i) x
structure Cnt (b : List Stn) (bound : Int) (cs : List Int) : Prop where
  l : cs.length = b.length
  lo : ∀ i, i < b.length → 0 ≤ gt cs i
  hi : ∀ i, i < b.length → gt cs i ≤ bound
  top : ∀ x, postF b bound x → ∀ i, i < b.length → gt x i ≤ gt cs i
theorem gt_set {ts : List Int} {i j : Nat} {v : Int} (h : i < ts.length) : gt (ts.set i v) j = if i = j then v else gt ts j := by
  simp only [gt, List.getD_eq_getElem?_getD, List.getElem?_set]
  split
  · subst_vars
    simp [h]
  · rfl
theorem Cnt.set {b : List Stn} (w : Wf b) {bound : Int} {cs : List Int} (c : Cnt b bound cs) {i : Nat} (hi : i < b.length) (hm : most (st b i) cs < gt cs i) : Cnt b bound (cs.set i (most (st b i) cs)) := by
  have hl : i < cs.length := by rw [c.l]; exact hi
  refine ⟨by rw [List.length_set, c.l], fun j hj => ?_, fun j hj => ?_, fun x hx j hj => ?_⟩
  · rw [gt_set hl]
    split
    · exact most_nonneg (w.s _ (st_mem hi)) c.lo
    · exact c.lo j hj
  · rw [gt_set hl]
    split
    · have := c.hi i hi
      omega
    · exact c.hi j hj
  · rw [gt_set hl]
    split
    · subst_vars
      exact Int.le_trans (hx _ hj).2 (most_mono (w.s _ (st_mem hj)) (c.top x hx))
    · exact c.top x hx j hj
theorem sum_set_lt {ts : List Int} {i : Nat} {v : Int} (h : i < ts.length) (hv : v < gt ts i) : (ts.set i v).sum < ts.sum := by
  induction ts generalizing i with
  | nil => exact absurd h (Nat.not_lt_zero i)
  | cons t ts ih =>
    cases i with
    | zero =>
      simp only [List.set_cons_zero, List.sum_cons]
      have : v < t := hv
      omega
    | succ i =>
      simp only [List.set_cons_succ, List.sum_cons]
      have := ih (i := i) (by simpa using h) hv
      omega
theorem sum_nonneg' {ts : List Int} (h : ∀ i, i < ts.length → 0 ≤ gt ts i) : 0 ≤ ts.sum := by
  induction ts with
  | nil => exact Int.le_refl _
  | cons t ts ih =>
    have h0 : 0 ≤ t := h 0 (by simp)
    have := ih fun i hi => h (i + 1) (by simpa using hi)
    simp only [List.sum_cons]
    omega
theorem Cnt.start {b : List Stn} {bound : Int} (h : 0 ≤ bound) : Cnt b bound (List.replicate b.length bound) := by
  have e : ∀ i, i < b.length → gt (List.replicate b.length bound) i = bound := fun i hi => by simp [gt, List.getD_eq_getElem?_getD, hi]
  exact ⟨by simp, fun i hi => by rw [e i hi]; exact h, fun i hi => by rw [e i hi]; exact Int.le_refl _, fun x hx i hi => by rw [e i hi]; exact (hx i hi).1⟩
def exact' (b : List Stn) (A : Option (List Int)) (bound : Int) (t : List Int) : Prop := t.length = b.length ∧ ∀ i, i < b.length → gt t i = least (st b i) t A bound
structure Wb (b : List Stn) : Prop extends Wf b where
  rk : ∃ rk : Nat → Nat, ∀ i, i < b.length → rk i < b.length ∧ ((st b i).o ≠ .pen → ∀ p ∈ (st b i).mv, (st b p.2).o = .pen ∨ rk i < rk p.2)
theorem Wb.ind {b : List Stn} (w : Wb b) (P : Nat → Prop) (h0 : ∀ i, i < b.length → (st b i).o = .pen ∨ (st b i).mv = [] → P i) (h1 : ∀ i, i < b.length → (st b i).o ≠ .pen → (st b i).mv ≠ [] → (∀ p ∈ (st b i).mv, P p.2) → P i) : ∀ i, i < b.length → P i := by
  obtain ⟨rk, hrk⟩ := w.rk
  have go : ∀ (k i : Nat), i < b.length → b.length - rk i ≤ k → P i := by
    intro k
    induction k with
    | zero =>
      intro i hi hk
      have := (hrk i hi).1
      omega
    | succ k ih =>
      intro i hi hk
      by_cases ho : (st b i).o = .pen
      · exact h0 i hi (.inl ho)
      · by_cases hn : (st b i).mv = []
        · exact h0 i hi (.inr hn)
        · refine h1 i hi ho hn fun p hp => ?_
          have hp2 := (w.s _ (st_mem hi)).m2 p hp
          rcases (hrk i hi).2 ho p hp with h | h
          · exact h0 _ hp2 (.inl h)
          · have := (hrk _ hp2).1
            exact ih _ hp2 (by omega)
  exact fun i hi => go (b.length - rk i) i hi (Nat.le_refl _)
def leA (n : Nat) : Option (List Int) → Option (List Int) → Prop
  | _, none => True
  | none, some _ => False
  | some a, some c => ∀ i, i < n → gt a i ≤ gt c i
theorem exact_mono {b : List Stn} (w : Wb b) {A A' : Option (List Int)} {bound : Int} {t t' : List Int} (h : exact' b A bound t) (h' : exact' b A' bound t') (hA : leA b.length A A') : ∀ i, i < b.length → gt t i ≤ gt t' i := by
  refine w.ind _ (fun i hi hc => ?_) (fun i hi ho hn ih => ?_)
  · rw [h.2 i hi, h'.2 i hi]
    by_cases hn : (st b i).mv = []
    · rw [least_nil hn, least_nil hn]
      exact Int.le_refl _
    · have ho : (st b i).o = .pen := hc.resolve_right hn
      have ws := w.s _ (st_mem hi)
      cases A' with
      | none =>
        rw [least_pen0 hn ho]
        cases A with
        | none => rw [least_pen0 hn ho]; exact Int.le_refl _
        | some a => rw [least_pen1 hn ho]; exact Int.min_le_left _ _
      | some c =>
        cases A with
        | none => exact absurd hA id
        | some a =>
          rw [least_pen1 hn ho, least_pen1 hn ho]
          have := ediv_mono ws.a1 (sum_mono (fun p : Str × Nat => gt a p.2) (fun p => gt c p.2) (st b i).mv fun p hp => hA _ (ws.m2 p hp))
          simp only [told]
          omega
  · rw [h.2 i hi, h'.2 i hi, least_pick hn ho, least_pick hn ho]
    exact pick_mono ih
theorem exact_range {b : List Stn} (w : Wb b) {A : Option (List Int)} {bound : Int} (hb : 0 ≤ bound) {t : List Int} (h : exact' b A bound t) (hA : ∀ a, A = some a → ∀ i, i < b.length → 0 ≤ gt a i) : ∀ i, i < b.length → 0 ≤ gt t i ∧ gt t i ≤ bound := by
  refine w.ind _ (fun i hi hc => ?_) (fun i hi ho hn ih => ?_)
  · rw [h.2 i hi]
    by_cases hn : (st b i).mv = []
    · rw [least_nil hn]
      exact ⟨Int.le_refl _, hb⟩
    · have ho : (st b i).o = .pen := hc.resolve_right hn
      have ws := w.s _ (st_mem hi)
      cases A with
      | none => rw [least_pen0 hn ho]; exact ⟨hb, Int.le_refl _⟩
      | some a =>
        rw [least_pen1 hn ho]
        have : 0 ≤ (told (st b i) a).sum / ((st b i).ask : Int) := Int.ediv_nonneg (pick_nonneg (o := .pen) hn fun p hp => hA a rfl _ (ws.m2 p hp)) (by omega)
        exact ⟨by omega, Int.min_le_left _ _⟩
  · rw [h.2 i hi, least_pick hn ho]
    exact ⟨pick_nonneg hn fun p hp => (ih p hp).1, pick_le ho hn fun p hp => (ih p hp).2⟩
theorem exact_post {b : List Stn} (w : Wb b) {bound : Int} (hb : 0 ≤ bound) {t : List Int} (h : exact' b (some t) bound t) (h0 : ∀ i, i < b.length → 0 ≤ gt t i) : postF b bound t := by
  have hr := exact_range w hb h (fun a e => by cases e; exact h0)
  intro i hi
  refine ⟨(hr i hi).2, ?_⟩
  have ws := w.s _ (st_mem hi)
  rw [h.2 i hi]
  by_cases hn : (st b i).mv = []
  · rw [least_nil hn, most_nil hn]
    exact Int.le_refl _
  · rw [most_cons hn]
    by_cases ho : (st b i).o = .pen
    · rw [least_pen1 hn ho, ho]
      exact Int.min_le_right _ _
    · rw [least_pick hn ho, ws.a3 ho]
      simp
end Law
end
section
set_option Elab.async false
set_option linter.all false
set_option maxRecDepth 100000
set_option maxHeartbeats 4000000
namespace Law
open PySem PySem.Spec L2 MM
local macro_rules | `(tactic| walk_at "ws") => `(tactic| try simp only [↓reduceIte, wE_C, wB_none, wA_nil, wT_yes, wS_nil, wS_pass, wS_break, wS_cont, wS_retN, thenS_nx, thenS_rt, thenS_bk, thenS_ct, wS_pre, dropE, wG_set, wG_tup, wG_nil, rdV_frz, rdV_own, rdA_s, rdS_s, rdM_own, rdM_inn,
  seqQ_l, seqQ_t, zipQ_l, zipQ_t, wrQ_some, wpO_some, wpO_none, wpO_ite, ite_f, ite_t, ads, arNd, arSls, arSl, outsOf, outsOf_f, outsOf_n, List.tail_cons, back, backG, backAt, arAt, Sl.cont, wipeE, unwipe, frzAt, isa_bool,
  isa_int, isa_tuple, isa_str, isa_list, o_add_int, o_add_list, o_add_tup, o_add_str, o_sub, o_mul_int, o_mul_str, o_mul_tup, o_fdiv, o_mod, o_pow, o_eq_int, o_eq_str, o_eq_bool, o_ne_int, o_ne_str, o_lt, o_le, o_gt, o_ge,
  o_isN, o_isntN, o_none1, o_none2, o_none3, o_none4, o_len_l, o_len_t, o_max2, o_min2, o_int_i, o_int_b, o_tup_l, o_tup_t, o_lst_l, o_lst_t, o_sl_l, o_sl_t, o_item_l, o_item_t, atI_n, atI_0, atI_1, atI_2, atI_3, atI_4,
  atI_5, atI_m1, List.getElem?_cons_zero, List.getElem?_cons_succ, List.set_cons_zero, List.set_cons_succ, List.map_cons, List.map_nil, List.append_nil, List.nil_append, List.cons_append, List.replicate_succ,
  List.replicate_zero, Nat.sub_self, Nat.reduceSub, Nat.reduceAdd, Nat.reduceEqDiff, Option.map_some, Option.map_none, Option.bind_some, Option.getD_some, List.all_cons, List.all_nil, Bool.and_true, Bool.true_and, List.nodup_nil,
  List.nodup_cons, List.mem_nil_iff, List.not_mem_nil, not_false_eq_true, not_true_eq_false, List.length_cons, List.length_nil, Nat.zero_add, Bool.not_not, Bool.not_true, Bool.not_false, Bool.not_eq_true',
  decide_eq_false_iff_not, true_and, and_true, if_true, if_false, Bool.false_eq_true, reduceCtorEq, PyData.bool.injEq, PyData.int.injEq, PyData.tuple.injEq, PyData.list.injEq, Sl.own.injEq, Option.some.injEq,
  List.cons.injEq, exists_eq_left', exists_eq_left, decide_eq_true_eq, e_kR, e_kF, e_kVf, e_kVo, e_kMo, q_var, q_move, e_kB2, e_kB1, q_bin, q_bm, e_kNeg, q_neg, e_kNotV, q_notV, e_kAndV, q_andV, e_kOrV, q_orV, e_kIf, q_if,
  e_kIsi, q_isi, e_kIx3, e_kIx2, e_kIx1, q_ixN, e_kRd2_0, e_kRd2_1, e_kRd2_2, e_kRd2_3, e_kRd, q_rd1, e_kTN2, e_kTN, q_tupN, e_kLN2, e_kLN, q_lstN, e_kAp3, e_kAp2, e_kAp1, q_app, e_kPo3, e_kPo2, e_kPo1, e_kCB2, e_kCB,
  q_callB, e_kTp2, e_kTp, q_tup, e_kLs2, e_kLs, q_lst, e_kCa3, e_kCa2, e_kCa, q_call, e_kLc2, e_kLc, q_lc, e_kSl3, e_kSl2, e_kSl1, q_slice, e_kSn4, e_kSn3, e_kSn2, e_kSn1, q_slcN, e_kSt2, e_kSt1, q_step, e_kRp2, e_kRp1,
  q_rep, e_kLr, q_lstRg, e_kBs, q_bsome, e_kAc2, e_kAc1, q_acons, e_kAs2, e_kAs1, q_aslot, e_kTr2, e_kTru, q_tru, e_kTn, q_truN, e_kNot, q_not, e_kAnd, q_and, e_kOr, q_or, e_kTB, q_B, e_kDr, q_drop, e_kRet, q_ret, e_kSi,
  q_sif, e_kSet, q_set, e_kNx, e_kAsg, q_asg, e_kGc, q_gcons, e_kG2, q_T2, e_kSub3, e_kSub2, e_kSub1, e_kSub0, e_kSq2, e_kSeq, q_seq, e_kRg1, q_rng1, e_kRg2, q_rng2, e_kZip, q_zip, e_kFor, q_for, e_kFn_0, e_kFn_1, q_fn,
  e_kDp, q_drp, e_kTurn_0, e_kTurn_1, e_kTurn_2, e_kTurn_3, e_kBody, e_kFind, e_kCi3, e_kCi2, e_kCi1, e_kCp3, e_kCp2, e_kCp1, e_kWh2, e_kWh1, d_frz, d_own, d_inn, put_own, put_inn, isInn_n, isInn_f, isInn_o, tru_l, tru_t,
  tru_b, tru_i, tru_n, e_kI, q_item, put_own, put_inn, lz0, lz1, lz2, lz3, lz4, lz5, lz6, lz7, lz8, lz9, lz10, lz11, lz12, lz13, lz14, lz15, lz16, lz17, lz18, lz19, lz20, lz21, lz22, lz23, lz24, not_true_eq_false, decide_true, decide_false])
local macro_rules | `(tactic| walk_at "st") => `(tactic| (refine wS_seq.mpr ?_; walk_at "ws"))
local macro_rules | `(tactic| walk_at "sb") => `(tactic| (refine q_sub ?_; walk_at "ws"))
local macro_rules | `(tactic| exists $ts,*) => `(tactic| simp only [$[$ts:term],*, ↓reduceIte, wE_C, wB_none, wA_nil, wT_yes, wS_nil, wS_pass, wS_break, wS_cont, wS_retN, thenS_nx, thenS_rt, thenS_bk, thenS_ct, wS_pre, dropE, wG_set, wG_tup, wG_nil, rdV_frz, rdV_own, rdA_s, rdS_s, rdM_own, rdM_inn,
  seqQ_l, seqQ_t, zipQ_l, zipQ_t, wrQ_some, wpO_some, wpO_none, wpO_ite, ite_f, ite_t, ads, arNd, arSls, arSl, outsOf, outsOf_f, outsOf_n, List.tail_cons, back, backG, backAt, arAt, Sl.cont, wipeE, unwipe, frzAt, isa_bool,
  isa_int, isa_tuple, isa_str, isa_list, o_add_int, o_add_list, o_add_tup, o_add_str, o_sub, o_mul_int, o_mul_str, o_mul_tup, o_fdiv, o_mod, o_pow, o_eq_int, o_eq_str, o_eq_bool, o_ne_int, o_ne_str, o_lt, o_le, o_gt, o_ge,
  o_isN, o_isntN, o_none1, o_none2, o_none3, o_none4, o_len_l, o_len_t, o_max2, o_min2, o_int_i, o_int_b, o_tup_l, o_tup_t, o_lst_l, o_lst_t, o_sl_l, o_sl_t, o_item_l, o_item_t, atI_n, atI_0, atI_1, atI_2, atI_3, atI_4,
  atI_5, atI_m1, List.getElem?_cons_zero, List.getElem?_cons_succ, List.set_cons_zero, List.set_cons_succ, List.map_cons, List.map_nil, List.append_nil, List.nil_append, List.cons_append, List.replicate_succ,
  List.replicate_zero, Nat.sub_self, Nat.reduceSub, Nat.reduceAdd, Nat.reduceEqDiff, Option.map_some, Option.map_none, Option.bind_some, Option.getD_some, List.all_cons, List.all_nil, Bool.and_true, Bool.true_and, List.nodup_nil,
  List.nodup_cons, List.mem_nil_iff, List.not_mem_nil, not_false_eq_true, not_true_eq_false, List.length_cons, List.length_nil, Nat.zero_add, Bool.not_not, Bool.not_true, Bool.not_false, Bool.not_eq_true',
  decide_eq_false_iff_not, true_and, and_true, if_true, if_false, Bool.false_eq_true, reduceCtorEq, PyData.bool.injEq, PyData.int.injEq, PyData.tuple.injEq, PyData.list.injEq, Sl.own.injEq, Option.some.injEq,
  List.cons.injEq, exists_eq_left', exists_eq_left, decide_eq_true_eq, e_kR, e_kF, e_kVf, e_kVo, e_kMo, q_var, q_move, e_kB2, e_kB1, q_bin, q_bm, e_kNeg, q_neg, e_kNotV, q_notV, e_kAndV, q_andV, e_kOrV, q_orV, e_kIf, q_if,
  e_kIsi, q_isi, e_kIx3, e_kIx2, e_kIx1, q_ixN, e_kRd2_0, e_kRd2_1, e_kRd2_2, e_kRd2_3, e_kRd, q_rd1, e_kTN2, e_kTN, q_tupN, e_kLN2, e_kLN, q_lstN, e_kAp3, e_kAp2, e_kAp1, q_app, e_kPo3, e_kPo2, e_kPo1, e_kCB2, e_kCB,
  q_callB, e_kTp2, e_kTp, q_tup, e_kLs2, e_kLs, q_lst, e_kCa3, e_kCa2, e_kCa, q_call, e_kLc2, e_kLc, q_lc, e_kSl3, e_kSl2, e_kSl1, q_slice, e_kSn4, e_kSn3, e_kSn2, e_kSn1, q_slcN, e_kSt2, e_kSt1, q_step, e_kRp2, e_kRp1,
  q_rep, e_kLr, q_lstRg, e_kBs, q_bsome, e_kAc2, e_kAc1, q_acons, e_kAs2, e_kAs1, q_aslot, e_kTr2, e_kTru, q_tru, e_kTn, q_truN, e_kNot, q_not, e_kAnd, q_and, e_kOr, q_or, e_kTB, q_B, e_kDr, q_drop, e_kRet, q_ret, e_kSi,
  q_sif, e_kSet, q_set, e_kNx, e_kAsg, q_asg, e_kGc, q_gcons, e_kG2, q_T2, e_kSub3, e_kSub2, e_kSub1, e_kSub0, e_kSq2, e_kSeq, q_seq, e_kRg1, q_rng1, e_kRg2, q_rng2, e_kZip, q_zip, e_kFor, q_for, e_kFn_0, e_kFn_1, q_fn,
  e_kDp, q_drp, e_kTurn_0, e_kTurn_1, e_kTurn_2, e_kTurn_3, e_kBody, e_kFind, e_kCi3, e_kCi2, e_kCi1, e_kCp3, e_kCp2, e_kCp1, e_kWh2, e_kWh1, d_frz, d_own, d_inn, put_own, put_inn, isInn_n, isInn_f, isInn_o, tru_l, tru_t,
  tru_b, tru_i, tru_n, e_kI, q_item, put_own, put_inn, lz0, lz1, lz2, lz3, lz4, lz5, lz6, lz7, lz8, lz9, lz10, lz11, lz12, lz13, lz14, lz15, lz16, lz17, lz18, lz19, lz20, lz21, lz22, lz23, lz24, not_true_eq_false, decide_true, decide_false])
theorem z__law_falling (b : List Stn) (w : Wf b) (bound : Int) (hb : 0 ≤ bound) {Q : Sl → Ev → Prop} (h : ∀ cs, Cnt b bound cs → Q (.frz (enT cs)) [none, none]) : wpF fn__law_falling [.frz (encB b), .frz (.int bound)] Q := by
  have hsz := size_big
  have l1 := w.l1
  unfold fn__law_falling body__law_falling encB
  walk_at "ws"
  walk_at "st"
  rw [List.length_map]
  refine ⟨⟨by omega, by omega, by omega⟩, ?_⟩
  rw [rep_one, Int.toNat_natCast, show List.replicate b.length (PyData.int bound) = tI (List.replicate b.length bound) by simp [tI]]
  have c0 := Cnt.start (b := b) hb
  generalize List.replicate b.length bound = cs at c0
  walk_at "st"
  walk_at "st"
  have sn : ∀ cs, Cnt b bound cs → 0 ≤ cs.sum := fun cs c => sum_nonneg' fun i hi => c.lo i (by rw [← c.l]; exact hi)
  refine qS_while (fun n ev => ∃ (cs : List Int) (ch : Bool), Cnt b bound cs ∧ n = 2 * cs.sum.toNat + ch.toNat ∧ ev = [some (.frz (.tuple (b.map encS))), some (.frz (.int bound)), some (.own (tI cs)), some (.frz (.bool ch)), none, none, none, none]) (2 * cs.sum.toNat + 1) ⟨cs, true, c0, rfl, rfl⟩ (fun n ev hP => ?_)
  obtain ⟨cs, ch, c, rfl, rfl⟩ := hP
  walk_at "ws"
  cases ch with
  | false =>
    walk_at "ws"
    exact h cs c
  | true =>
    walk_at "ws"
    walk_at "st"
    rw [List.length_map]
    refine ⟨by omega, ?_⟩
    rw [Int.toNat_natCast, intsD_range]
    refine qL_inv (fun i ev => ∃ (cs' : List Int) (ch : Bool), Cnt b bound cs' ∧ (ch = false → cs' = cs) ∧ (ch = true → cs'.sum < cs.sum) ∧ ev = [some (.frz (.tuple (b.map encS))), some (.frz (.int bound)), some (.own (tI cs')), some (.frz (.bool ch)), none, none, none, none]) ⟨cs, false, c, fun _ => rfl, (fun e => by cases e), rfl⟩ (fun i d ev hd hP => ?_) (fun ev hP => ?_)
    · obtain ⟨cs', ch, c', h1, h2, rfl⟩ := hP
      have hi := (List.getElem?_eq_some_iff.mp hd).1
      rw [enN_len, List.length_range] at hi
      rw [enN_at (by simpa using hi)] at hd
      simp only [List.getElem_range] at hd
      cases hd
      have ws := w.s _ (st_mem hi)
      have a1 := ws.a1
      have a2 := ws.a2
      have cl := c'.l
      walk_at "ws"
      refine wS_seq.mpr ?_
      exists b_at hi, encS
      refine qC_pure (fun _ => true) (gf cs') ?_ (fun i d hd => ?_) ?_
      · rw [List.length_map]
        exact Nat.le_trans ws.m1 (Nat.le_trans (by omega) size_big)
      · obtain ⟨p, hp, rfl, hp2⟩ := mv_at ws hd
        exists encM, tI_at (show p.2 < cs'.length by omega)
        rfl
      · rw [gf_map (fun _ _ => rfl)]
        walk_at "ws"
        walk_at "st"
        have hl0 : (0 < ((tI (told (st b i) cs')).length : Int)) ↔ (st b i).mv ≠ [] := by
          rw [List.length_map, show ((told (st b i) cs').length : Int) = ((st b i).mv.length : Int) by simp [told], ← List.length_pos_iff]
          omega
        have fin : ∀ (m : Int) (Z : Fl → Ev → Prop), m = most (st b i) cs' → wpS (mifS (mtB (mbin ltD (mvar 6) (mixN 2 (mvar 4)))) (mseq (msub 2 (mvar 6) (mvar 4)) (mset 3 (mC (.bool true)))) (mnil)) [some (.frz (.tuple (b.map encS))), some (.frz (.int bound)), some (.own (tI cs')), some (.frz (.bool ch)), some (.frz (.int i)), some (.own (tI (told (st b i) cs'))), some (.frz (.int m)), none] (kDp [4, 5, 6] (kTurn (fun ev => ∃ (cs' : List Int) (ch : Bool), Cnt b bound cs' ∧ (ch = false → cs' = cs) ∧ (ch = true → cs'.sum < cs.sum) ∧ ev = [some (.frz (.tuple (b.map encS))), some (.frz (.int bound)), some (.own (tI cs')), some (.frz (.bool ch)), none, none, none, none]) Z)) := by
          intro m Z hm
          have hii : i < cs'.length := by omega
          exists tI_at hii
          by_cases hlt : m < gt cs' i
          · simp only [hlt, if_true]
            refine wS_seq.mpr ?_
            walk_at "sb"
            refine ⟨i, rfl, by rw [List.length_map]; exact hii, ?_⟩
            rw [tI_set]
            walk_at "ws"
            refine ⟨cs'.set i m, true, ?_, fun e => by (cases e), fun _ => ?_, ⟨rfl, rfl⟩⟩
            · rw [hm] at hlt ⊢
              exact c'.set w hi hlt
            · have := sum_set_lt hii hlt
              cases ch with
              | false => rw [← h1 rfl]; exact this
              | true => have := h2 rfl; omega
          · simp only [hlt, if_false]
            walk_at "ws"
            exact ⟨cs', ch, c', h1, h2, ⟨rfl, rfl⟩⟩
        refine wS_seq.mpr ?_
        generalize (mifS (mtB (mbin ltD (mvar 6) (mixN 2 (mvar 4)))) (mseq (msub 2 (mvar 6) (mvar 4)) (mset 3 (mC (.bool true)))) (mnil)) = F at fin
        exists hl0, b_at hi, encS
        by_cases hn : (st b i).mv = []
        · simp only [hn, ne_eq, not_true_eq_false, if_false]
          exact fin 0 _ (most_nil hn).symm
        · have hn' : told (st b i) cs' ≠ [] := fun h => hn (told_nil.mp h)
          have hlog : (0 < ((st b i).ask : Int) ∧ ((st b i).ask : Int).natAbs.log2 < 9000) := ⟨by omega, logd (by omega)⟩
          cases ho : (st b i).o with
          | pen =>
            exists hn, ne_eq, b_at hi, encS, ho, ow_pen, ow_out, ow_hou, o_sum, hlog
            exact fin _ _ (by rw [most_cons hn, ho]; simp only [pick])
          | out =>
            exists hn, ne_eq, b_at hi, encS, ho, ow_pen, ow_out, ow_hou, o_min hn'
            exact fin _ _ (by rw [most_cons hn, ho, ws.a3 (by rw [ho]; decide)]; simp [pick])
          | hou =>
            exists hn, ne_eq, b_at hi, encS, ho, ow_pen, ow_out, ow_hou, o_max hn'
            exact fin _ _ (by rw [most_cons hn, ho, ws.a3 (by rw [ho]; decide)]; simp [pick])
    · obtain ⟨cs', ch, c', h1, h2, rfl⟩ := hP
      walk_at "ws"
      have n1 := sn _ c
      have n2 := sn _ c'
      refine ⟨2 * cs'.sum.toNat + ch.toNat, ?_, cs', ch, c', rfl, rfl, rfl⟩
      cases ch with
      | false => rw [h1 rfl]; simp only [Bool.toNat_true, Bool.toNat_false]; omega
      | true => have := h2 rfl; simp only [Bool.toNat_true]; omega
end Law
end
section
set_option Elab.async false
set_option linter.all false
set_option maxRecDepth 100000
set_option maxHeartbeats 4000000
namespace Law
open PySem PySem.Spec L2 MM
local macro_rules | `(tactic| walk_at "ws") => `(tactic| try simp only [↓reduceIte, wE_C, wB_none, wA_nil, wT_yes, wS_nil, wS_pass, wS_break, wS_cont, wS_retN, thenS_nx, thenS_rt, thenS_bk, thenS_ct, wS_pre, dropE, wG_set, wG_tup, wG_nil, rdV_frz, rdV_own, rdA_s, rdS_s, rdM_own, rdM_inn,
  seqQ_l, seqQ_t, zipQ_l, zipQ_t, wrQ_some, wpO_some, wpO_none, wpO_ite, ite_f, ite_t, ads, arNd, arSls, arSl, outsOf, outsOf_f, outsOf_n, List.tail_cons, back, backG, backAt, arAt, Sl.cont, wipeE, unwipe, frzAt, isa_bool,
  isa_int, isa_tuple, isa_str, isa_list, o_add_int, o_add_list, o_add_tup, o_add_str, o_sub, o_mul_int, o_mul_str, o_mul_tup, o_fdiv, o_mod, o_pow, o_eq_int, o_eq_str, o_eq_bool, o_ne_int, o_ne_str, o_lt, o_le, o_gt, o_ge,
  o_isN, o_isntN, o_none1, o_none2, o_none3, o_none4, o_len_l, o_len_t, o_max2, o_min2, o_int_i, o_int_b, o_tup_l, o_tup_t, o_lst_l, o_lst_t, o_sl_l, o_sl_t, o_item_l, o_item_t, atI_n, atI_0, atI_1, atI_2, atI_3, atI_4,
  atI_5, atI_m1, List.getElem?_cons_zero, List.getElem?_cons_succ, List.set_cons_zero, List.set_cons_succ, List.map_cons, List.map_nil, List.append_nil, List.nil_append, List.cons_append, List.replicate_succ,
  List.replicate_zero, Nat.sub_self, Nat.reduceSub, Nat.reduceAdd, Nat.reduceEqDiff, Option.map_some, Option.map_none, Option.bind_some, Option.getD_some, List.all_cons, List.all_nil, Bool.and_true, Bool.true_and, List.nodup_nil,
  List.nodup_cons, List.mem_nil_iff, List.not_mem_nil, not_false_eq_true, not_true_eq_false, List.length_cons, List.length_nil, Nat.zero_add, Bool.not_not, Bool.not_true, Bool.not_false, Bool.not_eq_true',
  decide_eq_false_iff_not, true_and, and_true, if_true, if_false, Bool.false_eq_true, reduceCtorEq, PyData.bool.injEq, PyData.int.injEq, PyData.tuple.injEq, PyData.list.injEq, Sl.own.injEq, Option.some.injEq,
  List.cons.injEq, exists_eq_left', exists_eq_left, decide_eq_true_eq, e_kR, e_kF, e_kVf, e_kVo, e_kMo, q_var, q_move, e_kB2, e_kB1, q_bin, q_bm, e_kNeg, q_neg, e_kNotV, q_notV, e_kAndV, q_andV, e_kOrV, q_orV, e_kIf, q_if,
  e_kIsi, q_isi, e_kIx3, e_kIx2, e_kIx1, q_ixN, e_kRd2_0, e_kRd2_1, e_kRd2_2, e_kRd2_3, e_kRd, q_rd1, e_kTN2, e_kTN, q_tupN, e_kLN2, e_kLN, q_lstN, e_kAp3, e_kAp2, e_kAp1, q_app, e_kPo3, e_kPo2, e_kPo1, e_kCB2, e_kCB,
  q_callB, e_kTp2, e_kTp, q_tup, e_kLs2, e_kLs, q_lst, e_kCa3, e_kCa2, e_kCa, q_call, e_kLc2, e_kLc, q_lc, e_kSl3, e_kSl2, e_kSl1, q_slice, e_kSn4, e_kSn3, e_kSn2, e_kSn1, q_slcN, e_kSt2, e_kSt1, q_step, e_kRp2, e_kRp1,
  q_rep, e_kLr, q_lstRg, e_kBs, q_bsome, e_kAc2, e_kAc1, q_acons, e_kAs2, e_kAs1, q_aslot, e_kTr2, e_kTru, q_tru, e_kTn, q_truN, e_kNot, q_not, e_kAnd, q_and, e_kOr, q_or, e_kTB, q_B, e_kDr, q_drop, e_kRet, q_ret, e_kSi,
  q_sif, e_kSet, q_set, e_kNx, e_kAsg, q_asg, e_kGc, q_gcons, e_kG2, q_T2, e_kSub3, e_kSub2, e_kSub1, e_kSub0, e_kSq2, e_kSeq, q_seq, e_kRg1, q_rng1, e_kRg2, q_rng2, e_kZip, q_zip, e_kFor, q_for, e_kFn_0, e_kFn_1, q_fn,
  e_kDp, q_drp, e_kTurn_0, e_kTurn_1, e_kTurn_2, e_kTurn_3, e_kBody, e_kFind, e_kCi3, e_kCi2, e_kCi1, e_kCp3, e_kCp2, e_kCp1, e_kWh2, e_kWh1, d_frz, d_own, d_inn, put_own, put_inn, isInn_n, isInn_f, isInn_o, tru_l, tru_t,
  tru_b, tru_i, tru_n, e_kI, q_item, put_own, put_inn, lz0, lz1, lz2, lz3, lz4, lz5, lz6, lz7, lz8, lz9, lz10, lz11, lz12, lz13, lz14, lz15, lz16, lz17, lz18, lz19, lz20, lz21, lz22, lz23, lz24, not_true_eq_false, decide_true, decide_false])
local macro_rules | `(tactic| walk_at "st") => `(tactic| (refine wS_seq.mpr ?_; walk_at "ws"))
local macro_rules | `(tactic| walk_at "sb") => `(tactic| (refine q_sub ?_; walk_at "ws"))
local macro_rules | `(tactic| exists $ts,*) => `(tactic| simp only [$[$ts:term],*, ↓reduceIte, wE_C, wB_none, wA_nil, wT_yes, wS_nil, wS_pass, wS_break, wS_cont, wS_retN, thenS_nx, thenS_rt, thenS_bk, thenS_ct, wS_pre, dropE, wG_set, wG_tup, wG_nil, rdV_frz, rdV_own, rdA_s, rdS_s, rdM_own, rdM_inn,
  seqQ_l, seqQ_t, zipQ_l, zipQ_t, wrQ_some, wpO_some, wpO_none, wpO_ite, ite_f, ite_t, ads, arNd, arSls, arSl, outsOf, outsOf_f, outsOf_n, List.tail_cons, back, backG, backAt, arAt, Sl.cont, wipeE, unwipe, frzAt, isa_bool,
  isa_int, isa_tuple, isa_str, isa_list, o_add_int, o_add_list, o_add_tup, o_add_str, o_sub, o_mul_int, o_mul_str, o_mul_tup, o_fdiv, o_mod, o_pow, o_eq_int, o_eq_str, o_eq_bool, o_ne_int, o_ne_str, o_lt, o_le, o_gt, o_ge,
  o_isN, o_isntN, o_none1, o_none2, o_none3, o_none4, o_len_l, o_len_t, o_max2, o_min2, o_int_i, o_int_b, o_tup_l, o_tup_t, o_lst_l, o_lst_t, o_sl_l, o_sl_t, o_item_l, o_item_t, atI_n, atI_0, atI_1, atI_2, atI_3, atI_4,
  atI_5, atI_m1, List.getElem?_cons_zero, List.getElem?_cons_succ, List.set_cons_zero, List.set_cons_succ, List.map_cons, List.map_nil, List.append_nil, List.nil_append, List.cons_append, List.replicate_succ,
  List.replicate_zero, Nat.sub_self, Nat.reduceSub, Nat.reduceAdd, Nat.reduceEqDiff, Option.map_some, Option.map_none, Option.bind_some, Option.getD_some, List.all_cons, List.all_nil, Bool.and_true, Bool.true_and, List.nodup_nil,
  List.nodup_cons, List.mem_nil_iff, List.not_mem_nil, not_false_eq_true, not_true_eq_false, List.length_cons, List.length_nil, Nat.zero_add, Bool.not_not, Bool.not_true, Bool.not_false, Bool.not_eq_true',
  decide_eq_false_iff_not, true_and, and_true, if_true, if_false, Bool.false_eq_true, reduceCtorEq, PyData.bool.injEq, PyData.int.injEq, PyData.tuple.injEq, PyData.list.injEq, Sl.own.injEq, Option.some.injEq,
  List.cons.injEq, exists_eq_left', exists_eq_left, decide_eq_true_eq, e_kR, e_kF, e_kVf, e_kVo, e_kMo, q_var, q_move, e_kB2, e_kB1, q_bin, q_bm, e_kNeg, q_neg, e_kNotV, q_notV, e_kAndV, q_andV, e_kOrV, q_orV, e_kIf, q_if,
  e_kIsi, q_isi, e_kIx3, e_kIx2, e_kIx1, q_ixN, e_kRd2_0, e_kRd2_1, e_kRd2_2, e_kRd2_3, e_kRd, q_rd1, e_kTN2, e_kTN, q_tupN, e_kLN2, e_kLN, q_lstN, e_kAp3, e_kAp2, e_kAp1, q_app, e_kPo3, e_kPo2, e_kPo1, e_kCB2, e_kCB,
  q_callB, e_kTp2, e_kTp, q_tup, e_kLs2, e_kLs, q_lst, e_kCa3, e_kCa2, e_kCa, q_call, e_kLc2, e_kLc, q_lc, e_kSl3, e_kSl2, e_kSl1, q_slice, e_kSn4, e_kSn3, e_kSn2, e_kSn1, q_slcN, e_kSt2, e_kSt1, q_step, e_kRp2, e_kRp1,
  q_rep, e_kLr, q_lstRg, e_kBs, q_bsome, e_kAc2, e_kAc1, q_acons, e_kAs2, e_kAs1, q_aslot, e_kTr2, e_kTru, q_tru, e_kTn, q_truN, e_kNot, q_not, e_kAnd, q_and, e_kOr, q_or, e_kTB, q_B, e_kDr, q_drop, e_kRet, q_ret, e_kSi,
  q_sif, e_kSet, q_set, e_kNx, e_kAsg, q_asg, e_kGc, q_gcons, e_kG2, q_T2, e_kSub3, e_kSub2, e_kSub1, e_kSub0, e_kSq2, e_kSeq, q_seq, e_kRg1, q_rng1, e_kRg2, q_rng2, e_kZip, q_zip, e_kFor, q_for, e_kFn_0, e_kFn_1, q_fn,
  e_kDp, q_drp, e_kTurn_0, e_kTurn_1, e_kTurn_2, e_kTurn_3, e_kBody, e_kFind, e_kCi3, e_kCi2, e_kCi1, e_kCp3, e_kCp2, e_kCp1, e_kWh2, e_kWh1, d_frz, d_own, d_inn, put_own, put_inn, isInn_n, isInn_f, isInn_o, tru_l, tru_t,
  tru_b, tru_i, tru_n, e_kI, q_item, put_own, put_inn, lz0, lz1, lz2, lz3, lz4, lz5, lz6, lz7, lz8, lz9, lz10, lz11, lz12, lz13, lz14, lz15, lz16, lz17, lz18, lz19, lz20, lz21, lz22, lz23, lz24, not_true_eq_false, decide_true, decide_false])
def encP : Option Int → D
  | none => .none
  | some v => .int v
def vals (ps : List (Option Int)) : List Int := ps.map fun x => x.getD 0
theorem encP_at {ps : List (Option Int)} {i : Nat} {v : Int} (h : ps[i]? = some (some v)) : (ps.map encP)[i]? = some (.int v) := by
  rw [List.getElem?_map, h]
  rfl
theorem encP_none {ps : List (Option Int)} {i : Nat} (h : ps[i]? = some none) : (ps.map encP)[i]? = some .none := by
  rw [List.getElem?_map, h]
  rfl
theorem vals_at {ps : List (Option Int)} {i : Nat} {v : Int} (h : ps[i]? = some (some v)) : gt (vals ps) i = v := by
  simp only [gt, vals, List.getD_eq_getElem?_getD, List.getElem?_map, h]
  rfl
structure Part (b : List Stn) (A : Option (List Int)) (bound : Int) (rise : Nat) (ps : List (Option Int)) : Prop where
  l : ps.length = b.length
  s : ∀ i, i < b.length → ∀ v, ps[i]? = some (some v) → ((st b i).o ≠ .pen → ∀ p ∈ (st b i).mv, ∃ u, ps[p.2]? = some (some u)) ∧ least (st b i) (vals ps) A bound ≤ v ∧ v ≤ least (st b i) (vals ps) A bound + rise
theorem least_same {s : Stn} {x y : List Int} {A : Option (List Int)} {bound : Int} (h : s.o ≠ .pen → ∀ p ∈ s.mv, gt x p.2 = gt y p.2) : least s x A bound = least s y A bound := by
  by_cases hn : s.mv = []
  · rw [least_nil hn, least_nil hn]
  · by_cases ho : s.o = .pen
    · cases A with
      | none => rw [least_pen0 hn ho, least_pen0 hn ho]
      | some a => rw [least_pen1 hn ho, least_pen1 hn ho]
    · rw [least_pick hn ho, least_pick hn ho]
      have : told s x = told s y := List.map_congr_left fun p hp => h ho p hp
      rw [this]
theorem Part.set {b : List Stn} {A : Option (List Int)} {bound : Int} {rise : Nat} {ps : List (Option Int)} (c : Part b A bound rise ps) {i : Nat} (hi : i < b.length) (hn : ps[i]? = some none) (r : Int) (h0 : 0 ≤ r) (hr : r ≤ (rise : Int))
    (hg : (st b i).o ≠ .pen → ∀ p ∈ (st b i).mv, ∃ u, ps[p.2]? = some (some u)) : Part b A bound rise (ps.set i (some (least (st b i) (vals ps) A bound + r))) := by
  have hil : i < ps.length := by rw [c.l]; exact hi
  have keep : ∀ (j : Nat) (u : Int) (v : Option Int), ps[j]? = some (some u) → (ps.set i v)[j]? = some (some u) := fun j u v h => by
    rw [List.getElem?_set]
    split
    · subst_vars
      rw [hn] at h
      cases h
    · exact h
  have same : ∀ (j : Nat) (v : Option Int), ((st b j).o ≠ .pen → ∀ p ∈ (st b j).mv, ∃ u, ps[p.2]? = some (some u)) → least (st b j) (vals (ps.set i v)) A bound = least (st b j) (vals ps) A bound := fun j v h => least_same fun ho p hp => by
    obtain ⟨u, hu⟩ := h ho p hp
    rw [vals_at (keep _ u v hu), vals_at hu]
  refine ⟨by rw [List.length_set, c.l], fun j hj v hv => ?_⟩
  rw [List.getElem?_set] at hv
  split at hv
  · rename_i hij
    subst hij
    simp only [hil, if_true, Option.some.injEq] at hv
    subst hv
    rw [same i _ hg]
    refine ⟨fun ho p hp => ?_, by omega, by omega⟩
    obtain ⟨u, hu⟩ := hg ho p hp
    exact ⟨u, keep _ u _ hu⟩
  · obtain ⟨h1, h2, h3⟩ := c.s j hj v hv
    rw [same j _ h1]
    refine ⟨fun ho p hp => ?_, h2, h3⟩
    obtain ⟨u, hu⟩ := h1 ho p hp
    exact ⟨u, keep _ u _ hu⟩
structure TabOk (b : List Stn) (A : Option (List Int)) (bound : Int) (rise : Nat) (t : List Int) : Prop where
  l : t.length = b.length
  g : ∀ i, i < b.length → least (st b i) t A bound ≤ gt t i
  u : ∀ i, i < b.length → gt t i ≤ least (st b i) t A bound + rise
  e : rise = 0 → exact' b A bound t
theorem part_done {b : List Stn} {A : Option (List Int)} {bound : Int} {rise : Nat} {ps : List (Option Int)} (c : Part b A bound rise ps) (h : ∀ i, i < b.length → ∃ v, ps[i]? = some (some v)) : ps.map encP = tI (vals ps) ∧ TabOk b A bound rise (vals ps) := by
  have hl : (vals ps).length = b.length := by simp [vals, c.l]
  have hg : ∀ i, i < b.length → least (st b i) (vals ps) A bound ≤ gt (vals ps) i := fun i hi => by
    obtain ⟨v, hv⟩ := h i hi
    rw [vals_at hv]
    exact (c.s i hi v hv).2.1
  have hu : ∀ i, i < b.length → gt (vals ps) i ≤ least (st b i) (vals ps) A bound + rise := fun i hi => by
    obtain ⟨v, hv⟩ := h i hi
    rw [vals_at hv]
    exact (c.s i hi v hv).2.2
  have he : rise = 0 → ∀ i, i < b.length → gt (vals ps) i = least (st b i) (vals ps) A bound := fun hr i hi => by
    have h1 := hg i hi
    have h2 := hu i hi
    rw [hr] at h2
    simp only [Int.natCast_zero, Int.add_zero] at h2
    omega
  refine ⟨?_, hl, hg, hu, fun hr => ⟨hl, he hr⟩⟩
  unfold vals tI
  rw [List.map_map]
  refine List.map_congr_left fun x hx => ?_
  obtain ⟨k, hk, rfl⟩ := List.getElem_of_mem hx
  obtain ⟨s, hs⟩ := h k (by rw [← c.l]; exact hk)
  rw [List.getElem?_eq_getElem hk] at hs
  cases hs' : ps[k] with
  | none => rw [hs'] at hs; cases hs
  | some s => rfl
theorem z__law_table (b : List Stn) (w : Wb b) (ds : List D) (hp : Pool ds) (A : Option (List Int)) (hA : okA b.length A) (bound : Int) (rise : Nat) (hri : rise ≤ 1000) {Q : Sl → Ev → Prop}
    (h : ∀ t ds, TabOk b A bound rise t → Pool ds → Q (.frz (enT t)) [some (.inn ds), none, none, none, none]) : wpF fn__law_table [.inn ds, .frz (encB b), .frz (encA A), .frz (.int bound), .frz (.int rise)] Q := by
  have hsz := size_big
  have l1 := w.l1
  obtain ⟨rk, hrk⟩ := w.rk
  have hbl : lenD [encB b] = some (.frz (.int b.length)) := by
    show some (Sl.frz (.int ((b.map encS).length : Nat))) = _
    rw [List.length_map]
  have hbi : ∀ i : Nat, i < b.length → itemD (encB b) (.int i) = some (.tuple [.str (st b i).o.s, .int (st b i).ask, .tuple ((st b i).mv.map encM)]) := fun i hi => by
    show atI (b.map encS) i = _
    rw [atI_n, b_at hi]
    rfl
  unfold fn__law_table body__law_table
  walk_at "ws"
  refine wS_seq.mpr ?_
  exists hbl
  refine ⟨⟨by omega, by omega, by omega⟩, ?_⟩
  rw [rep_one, Int.toNat_natCast, show List.replicate b.length PyData.none = (List.replicate b.length (none : Option Int)).map encP by simp [encP]]
  have one : ∀ (ps : List (Option Int)) (ds : List D) (i : Nat) (x7 : Option Sl) (K : Fl → Ev → Prop), (x7 = none ∨ ∃ d, x7 = some (.frz d)) → Pool ds → i < b.length → Part b A bound rise ps → ps[i]? = some none → ((st b i).o ≠ .pen → ∀ p ∈ (st b i).mv, ∃ u, ps[p.2]? = some (some u)) →
      (∀ (v : Int) ds, Pool ds → Part b A bound rise (ps.set i (some v)) → K .nx [some (.inn ds), some (.frz (encB b)), some (.frz (encA A)), some (.frz (.int bound)), some (.frz (.int rise)), some (.own ((ps.set i (some v)).map encP)), some (.frz (.int i)), x7, none]) →
      wpS (msub 5 (mbin addD (mcall fn__law_least (maCons (mvar 1) (maCons (mvar 6) (maSlot 5 (maCons (mvar 2) (maCons (mvar 3) (maNil))))))) (mif (mtB (mbin gtD (mvar 4) (mC (.int 0)))) (mcall fn__law_draw (maSlot 0 (maCons (mvar 4) (maNil)))) (mC (.int 0)))) (mvar 6))
        [some (.inn ds), some (.frz (encB b)), some (.frz (encA A)), some (.frz (.int bound)), some (.frz (.int rise)), some (.own (ps.map encP)), some (.frz (.int i)), x7, none] K := by
    intro ps ds i x7 K hx7 hp hi c hn hg hK
    have hil : i < ps.length := by rw [c.l]; exact hi
    rcases hx7 with rfl | ⟨d7, rfl⟩
    all_goals
      walk_at "sb"
      refine z__law_least b w.toWf i hi (.inn (ps.map encP)) _ (.inr rfl) (vals ps) (fun ho p hp => ?_) A hA bound ?_
      · obtain ⟨u, hu⟩ := hg ho p hp
        rw [encP_at hu, vals_at hu]
      · simp only [outT]
        walk_at "ws"
        by_cases h0 : 0 < rise
        · have h0' : (0 : Int) < (rise : Int) := by omega
          simp only [h0', if_true]
          refine z__law_draw ds hp rise h0 (by omega) (fun r ds hr hp => ?_)
          walk_at "ws"
          refine ⟨i, rfl, by rw [List.length_map]; exact hil, ?_⟩
          have := hK (least (st b i) (vals ps) A bound + r) ds hp (c.set hi hn r (by omega) (by omega) hg)
          rw [List.map_set] at this
          exact this
        · have h0' : ¬ (0 : Int) < (rise : Int) := by omega
          simp only [h0', if_false]
          refine ⟨i, rfl, by rw [List.length_map]; exact hil, ?_⟩
          have := hK (least (st b i) (vals ps) A bound + 0) ds hp (c.set hi hn 0 (by omega) (by omega) hg)
          rw [List.map_set] at this
          exact this
  have c0 : Part b A bound rise (List.replicate b.length none) := ⟨by simp, fun i hi v hv => by
    rw [List.getElem?_replicate] at hv
    split at hv <;> cases hv⟩
  have cn0 : ∀ i, i < b.length → (List.replicate b.length (none : Option Int))[i]? = some none := fun i hi => by rw [List.getElem?_replicate, if_pos hi]
  have hpe : ∀ j : Nat, ((st b j).o.s = Str.ofString "pen") = ((st b j).o = .pen) := fun j => propext (ow_pen _)
  have hml : ∀ j : Nat, ((((st b j).mv.map encM).length : Int) = 0) = ((st b j).mv = []) := fun j => by
    rw [List.length_map]
    refine propext ⟨fun h => List.eq_nil_of_length_eq_zero (by omega), fun h => by rw [h]; rfl⟩
  generalize List.replicate b.length (none : Option Int) = ps0 at c0 cn0
  generalize (msub 5 (mbin addD (mcall fn__law_least (maCons (mvar 1) (maCons (mvar 6) (maSlot 5 (maCons (mvar 2) (maCons (mvar 3) (maNil))))))) (mif (mtB (mbin gtD (mvar 4) (mC (.int 0)))) (mcall fn__law_draw (maSlot 0 (maCons (mvar 4) (maNil)))) (mC (.int 0)))) (mvar 6)) = M at one
  refine wS_seq.mpr ?_
  exists hbl
  refine ⟨by omega, ?_⟩
  rw [Int.toNat_natCast, intsD_range]
  refine qL_inv (fun i ev => ∃ (ps : List (Option Int)) (ds : List D), Part b A bound rise ps ∧ (∀ j, i ≤ j → j < b.length → ps[j]? = some none) ∧ (∀ j, j < i → j < b.length → ((st b j).o = .pen ∨ (st b j).mv = []) → ∃ v, ps[j]? = some (some v)) ∧ Pool ds ∧ ev = [some (.inn ds), some (.frz (encB b)), some (.frz (encA A)), some (.frz (.int bound)), some (.frz (.int rise)), some (.own (ps.map encP)), none, none, none]) ⟨ps0, ds, c0, fun j _ hj => cn0 j hj, fun j hj => absurd hj (Nat.not_lt_zero j), hp, rfl⟩ (fun i d ev hd hP => ?_) (fun ev hP => ?_)
  · obtain ⟨ps, ds, c, hn1, hn2, hp, rfl⟩ := hP
    have hi := (List.getElem?_eq_some_iff.mp hd).1
    rw [enN_len, List.length_range] at hi
    rw [enN_at (by simpa using hi)] at hd
    simp only [List.getElem_range] at hd
    cases hd
    have yes : ((st b i).o = .pen ∨ (st b i).mv = []) → ∀ K, (∀ (v : Int) ds, Pool ds → Part b A bound rise (ps.set i (some v)) → K .nx [some (.inn ds), some (.frz (encB b)), some (.frz (encA A)), some (.frz (.int bound)), some (.frz (.int rise)), some (.own ((ps.set i (some v)).map encP)), some (.frz (.int i)), none, none]) → wpS M [some (.inn ds), some (.frz (encB b)), some (.frz (encA A)), some (.frz (.int bound)), some (.frz (.int rise)), some (.own (ps.map encP)), some (.frz (.int i)), none, none] K := fun hc K hK => by
      refine one ps ds i none K (.inl rfl) hp hi c (hn1 i (Nat.le_refl _) hi) (fun ho p hp => ?_) hK
      rw [hc.resolve_left ho] at hp
      cases hp
    have fin : ∀ (v : Int) (ds : List D), ((st b i).o = .pen ∨ (st b i).mv = []) → Pool ds → Part b A bound rise (ps.set i (some v)) → ∃ (ps' : List (Option Int)) (ds' : List D), Part b A bound rise ps' ∧ (∀ j, i + 1 ≤ j → j < b.length → ps'[j]? = some none) ∧ (∀ j, j < i + 1 → j < b.length → ((st b j).o = .pen ∨ (st b j).mv = []) → ∃ v, ps'[j]? = some (some v)) ∧ Pool ds' ∧ Sl.inn ds = Sl.inn ds' ∧ (ps.set i (some v)).map encP = ps'.map encP := fun v ds hc hp c' => by
      refine ⟨ps.set i (some v), ds, c', fun j hj hjb => ?_, fun j hj hjb hjc => ?_, hp, rfl, rfl⟩
      · rw [List.getElem?_set_ne (by omega)]
        exact hn1 j (by omega) hjb
      · by_cases hji : j = i
        · subst hji
          exact ⟨v, by rw [List.getElem?_set_self (by rw [c.l]; exact hi)]⟩
        · rw [List.getElem?_set_ne (by omega)]
          exact hn2 j (by omega) hjb hjc
    exists hbi i hi, hpe, hml
    by_cases e1 : (st b i).o = .pen
    · simp only [e1, if_true]
      refine yes (.inl e1) _ (fun v ds hp c' => ?_)
      walk_at "ws"
      exact fin v ds (.inl e1) hp c'
    · by_cases e2 : (st b i).mv = []
      · simp only [e1, e2, if_true, if_false]
        refine yes (.inr e2) _ (fun v ds hp c' => ?_)
        walk_at "ws"
        exact fin v ds (.inr e2) hp c'
      · simp only [e1, e2, if_false]
        refine ⟨ps, ds, c, fun j hj => hn1 j (by omega), fun j hj hjb hjc => ?_, hp, rfl, rfl⟩
        by_cases hji : j = i
        · subst hji
          rcases hjc with h | h
          · exact absurd h e1
          · exact absurd h e2
        · exact hn2 j (by omega) hjb hjc
  · obtain ⟨ps, ds, c, hn1, hn2, hp, rfl⟩ := hP
    rw [enN_len, List.length_range] at hn1 hn2
    have hn2 : ∀ j, j < b.length → ((st b j).o = .pen ∨ (st b j).mv = []) → ∃ v, ps[j]? = some (some v) := fun j hj => hn2 j hj hj
    clear hn1
    walk_at "ws"
    refine wS_seq.mpr ?_
    exists hbl
    refine ⟨by omega, ?_⟩
    rw [Int.toNat_natCast, intsD_range]
    refine qL_inv (fun i ev => ∃ (ps : List (Option Int)) (ds : List D), Part b A bound rise ps ∧ (∀ j, j < b.length → ((st b j).o = .pen ∨ (st b j).mv = [] ∨ b.length ≤ rk j + i) → ∃ v, ps[j]? = some (some v)) ∧ Pool ds ∧ ev = [some (.inn ds), some (.frz (encB b)), some (.frz (encA A)), some (.frz (.int bound)), some (.frz (.int rise)), some (.own (ps.map encP)), none, none, none]) ⟨ps, ds, c, fun j hj hc => ?_, hp, rfl⟩ (fun i d ev hd hP => ?_) (fun ev hP => ?_)
    · rcases hc with h | h | h
      · exact hn2 j hj (.inl h)
      · exact hn2 j hj (.inr h)
      · have := (hrk j hj).1
        omega
    · obtain ⟨ps, ds, c, hn, hp, rfl⟩ := hP
      generalize hlap : i = lap at hn ⊢
      clear hd hlap
      exists hbl
      refine ⟨by omega, ?_⟩
      rw [Int.toNat_natCast, intsD_range]
      refine qL_inv (fun k ev => ∃ (ps : List (Option Int)) (ds : List D), Part b A bound rise ps ∧ (∀ j, j < b.length → ((st b j).o = .pen ∨ (st b j).mv = [] ∨ b.length ≤ rk j + lap) → ∃ v, ps[j]? = some (some v)) ∧ (∀ j, j < k → j < b.length → b.length ≤ rk j + (lap + 1) → ∃ v, ps[j]? = some (some v)) ∧ Pool ds ∧ ev = [some (.inn ds), some (.frz (encB b)), some (.frz (encA A)), some (.frz (.int bound)), some (.frz (.int rise)), some (.own (ps.map encP)), none, some (.frz d), none]) ⟨ps, ds, c, hn, fun j hj => absurd hj (Nat.not_lt_zero j), hp, rfl⟩ (fun k d2 ev hd hP => ?_) (fun ev hP => ?_)
      · clear hn c
        obtain ⟨ps, ds, c, hn, hk, hp, rfl⟩ := hP
        have hi := (List.getElem?_eq_some_iff.mp hd).1
        rw [enN_len, List.length_range] at hi
        rw [enN_at (by simpa using hi)] at hd
        simp only [List.getElem_range] at hd
        cases hd
        have ws := w.s _ (st_mem hi)
        have stay : (b.length ≤ rk k + (lap + 1) → ∃ v, ps[k]? = some (some v)) → ∀ j, j < k + 1 → j < b.length → b.length ≤ rk j + (lap + 1) → ∃ v, ps[j]? = some (some v) := fun h j hj hjb hr => by
          by_cases hjk : j = k
          · subst hjk
            exact h hr
          · exact hk j (by omega) hjb hr
        have two : ∀ j, j < b.length → ps[j]? = some none ∨ ∃ v, ps[j]? = some (some v) := fun j hj => by
          rw [List.getElem?_eq_getElem (by rw [c.l]; exact hj)]
          cases ps[j]'(by rw [c.l]; exact hj) with
          | none => exact .inl rfl
          | some v => exact .inr ⟨v, rfl⟩
        rcases two k hi with hpk | ⟨v, hpk⟩
        · exists encP_none hpk, hbi k hi
          let pr : D → Bool := fun d => match d with
            | .tuple [_, .int g] => (match ps[g.toNat]? with
              | some (some _) => false
              | _ => true)
            | _ => false
          refine qC_pure pr (fun d => d) (by rw [List.length_map]; have := ws.m1; omega) (fun q d hd => ?_) ?_
          · obtain ⟨p, hp, rfl, hp2⟩ := mv_at ws hd
            rcases two p.2 hp2 with h | ⟨u, h⟩
            · exists encM, encP_none h
              show true = pr (encM p)
              simp only [pr, encM, Int.toNat_natCast, h]
            · exists encM, encP_at h
              show false = pr (encM p)
              simp only [pr, encM, Int.toNat_natCast, h]
          · rw [List.map_id']
            have hz : (((((st b k).mv.map encM).filter pr).length : Int) = 0) = (∀ p ∈ (st b k).mv, ∃ u, ps[p.2]? = some (some u)) := by
              refine propext ⟨fun h p hp => ?_, fun h => ?_⟩
              · have := List.filter_eq_nil_iff.mp (List.eq_nil_of_length_eq_zero (by omega : (((st b k).mv.map encM).filter pr).length = 0)) (encM p) (List.mem_map_of_mem hp)
                rcases two p.2 (ws.m2 p hp) with h | h
                · simp only [pr, encM, Int.toNat_natCast, h, not_true_eq_false] at this
                · exact h
              · have : ((st b k).mv.map encM).filter pr = [] := List.filter_eq_nil_iff.mpr fun d hd => by
                  obtain ⟨p, hp, rfl⟩ := List.mem_map.mp hd
                  obtain ⟨u, hu⟩ := h p hp
                  simp [pr, encM, hu]
                rw [this]
                rfl
            by_cases hc : ((((st b k).mv.map encM).filter pr).length : Int) = 0
            · have hg : ∀ p ∈ (st b k).mv, ∃ u, ps[p.2]? = some (some u) := by rw [hz] at hc; exact hc
              exists hc
              refine one ps ds k (some (.frz d)) _ (.inr ⟨d, rfl⟩) hp hi c hpk (fun _ => hg) (fun v ds hp c' => ?_)
              have keep : ∀ j : Nat, (∃ v, ps[j]? = some (some v)) → ∃ u, (ps.set k (some v))[j]? = some (some u) := fun j h => by
                by_cases hjk : j = k
                · subst hjk
                  exact ⟨v, by rw [List.getElem?_set_self (by rw [c.l]; exact hi)]⟩
                · rw [List.getElem?_set_ne (fun e => hjk e.symm)]
                  exact h
              walk_at "ws"
              refine ⟨ps.set k (some v), ds, c', fun j hj hc => keep j (hn j hj hc), fun j hj hjb hr => ?_, hp, rfl, rfl⟩
              by_cases hjk : j = k
              · subst hjk
                exact ⟨v, by rw [List.getElem?_set_self (by rw [c.l]; exact hi)]⟩
              · exact keep j (hk j (by omega) hjb hr)
            · exists hc
              refine ⟨ps, ds, c, hn, stay fun hr => ?_, hp, rfl, rfl⟩
              refine absurd ?_ hc
              rw [hz]
              intro p hpp
              have hp2 := ws.m2 p hpp
              by_cases ho : (st b k).o = .pen
              · obtain ⟨v, hv⟩ := hn k hi (.inl ho)
                rw [hpk] at hv
                cases hv
              · rcases (hrk k hi).2 ho p hpp with h | h
                · exact hn _ hp2 (.inl h)
                · exact hn _ hp2 (.inr (.inr (by omega)))
        · exists encP_at hpk
          exact ⟨ps, ds, c, hn, stay fun _ => ⟨v, hpk⟩, hp, rfl, rfl⟩
      · obtain ⟨ps, ds, c, hn, hk, hp, rfl⟩ := hP
        rw [enN_len, List.length_range] at hk
        walk_at "ws"
        refine ⟨ps, ds, c, fun j hj hc => ?_, hp, rfl, rfl⟩
        rcases hc with h | h | h
        · exact hn j hj (.inl h)
        · exact hn j hj (.inr (.inl h))
        · exact hk j hj hj h
    · obtain ⟨ps, ds, c, hn, hp, rfl⟩ := hP
      rw [enN_len, List.length_range] at hn
      obtain ⟨e, ok⟩ := part_done c fun i hi => hn i hi (.inr (.inr (by omega)))
      rw [e]
      walk_at "ws"
      exact h _ ds ok hp
end Law
end
section
set_option Elab.async false
set_option linter.all false
set_option maxRecDepth 100000
set_option maxHeartbeats 4000000
namespace Law
open PySem PySem.Spec L2 MM
local macro_rules | `(tactic| walk_at "ws") => `(tactic| try simp only [↓reduceIte, wE_C, wB_none, wA_nil, wT_yes, wS_nil, wS_pass, wS_break, wS_cont, wS_retN, thenS_nx, thenS_rt, thenS_bk, thenS_ct, wS_pre, dropE, wG_set, wG_tup, wG_nil, rdV_frz, rdV_own, rdA_s, rdS_s, rdM_own, rdM_inn,
  seqQ_l, seqQ_t, zipQ_l, zipQ_t, wrQ_some, wpO_some, wpO_none, wpO_ite, ite_f, ite_t, ads, arNd, arSls, arSl, outsOf, outsOf_f, outsOf_n, List.tail_cons, back, backG, backAt, arAt, Sl.cont, wipeE, unwipe, frzAt, isa_bool,
  isa_int, isa_tuple, isa_str, isa_list, o_add_int, o_add_list, o_add_tup, o_add_str, o_sub, o_mul_int, o_mul_str, o_mul_tup, o_fdiv, o_mod, o_pow, o_eq_int, o_eq_str, o_eq_bool, o_ne_int, o_ne_str, o_lt, o_le, o_gt, o_ge,
  o_isN, o_isntN, o_none1, o_none2, o_none3, o_none4, o_len_l, o_len_t, o_max2, o_min2, o_int_i, o_int_b, o_tup_l, o_tup_t, o_lst_l, o_lst_t, o_sl_l, o_sl_t, o_item_l, o_item_t, atI_n, atI_0, atI_1, atI_2, atI_3, atI_4,
  atI_5, atI_m1, List.getElem?_cons_zero, List.getElem?_cons_succ, List.set_cons_zero, List.set_cons_succ, List.map_cons, List.map_nil, List.append_nil, List.nil_append, List.cons_append, List.replicate_succ,
  List.replicate_zero, Nat.sub_self, Nat.reduceSub, Nat.reduceAdd, Nat.reduceEqDiff, Option.map_some, Option.map_none, Option.bind_some, Option.getD_some, List.all_cons, List.all_nil, Bool.and_true, Bool.true_and, List.nodup_nil,
  List.nodup_cons, List.mem_nil_iff, List.not_mem_nil, not_false_eq_true, not_true_eq_false, List.length_cons, List.length_nil, Nat.zero_add, Bool.not_not, Bool.not_true, Bool.not_false, Bool.not_eq_true',
  decide_eq_false_iff_not, true_and, and_true, if_true, if_false, Bool.false_eq_true, reduceCtorEq, PyData.bool.injEq, PyData.int.injEq, PyData.tuple.injEq, PyData.list.injEq, Sl.own.injEq, Option.some.injEq,
  List.cons.injEq, exists_eq_left', exists_eq_left, decide_eq_true_eq, e_kR, e_kF, e_kVf, e_kVo, e_kMo, q_var, q_move, e_kB2, e_kB1, q_bin, q_bm, e_kNeg, q_neg, e_kNotV, q_notV, e_kAndV, q_andV, e_kOrV, q_orV, e_kIf, q_if,
  e_kIsi, q_isi, e_kIx3, e_kIx2, e_kIx1, q_ixN, e_kRd2_0, e_kRd2_1, e_kRd2_2, e_kRd2_3, e_kRd, q_rd1, e_kTN2, e_kTN, q_tupN, e_kLN2, e_kLN, q_lstN, e_kAp3, e_kAp2, e_kAp1, q_app, e_kPo3, e_kPo2, e_kPo1, e_kCB2, e_kCB,
  q_callB, e_kTp2, e_kTp, q_tup, e_kLs2, e_kLs, q_lst, e_kCa3, e_kCa2, e_kCa, q_call, e_kLc2, e_kLc, q_lc, e_kSl3, e_kSl2, e_kSl1, q_slice, e_kSn4, e_kSn3, e_kSn2, e_kSn1, q_slcN, e_kSt2, e_kSt1, q_step, e_kRp2, e_kRp1,
  q_rep, e_kLr, q_lstRg, e_kBs, q_bsome, e_kAc2, e_kAc1, q_acons, e_kAs2, e_kAs1, q_aslot, e_kTr2, e_kTru, q_tru, e_kTn, q_truN, e_kNot, q_not, e_kAnd, q_and, e_kOr, q_or, e_kTB, q_B, e_kDr, q_drop, e_kRet, q_ret, e_kSi,
  q_sif, e_kSet, q_set, e_kNx, e_kAsg, q_asg, e_kGc, q_gcons, e_kG2, q_T2, e_kSub3, e_kSub2, e_kSub1, e_kSub0, e_kSq2, e_kSeq, q_seq, e_kRg1, q_rng1, e_kRg2, q_rng2, e_kZip, q_zip, e_kFor, q_for, e_kFn_0, e_kFn_1, q_fn,
  e_kDp, q_drp, e_kTurn_0, e_kTurn_1, e_kTurn_2, e_kTurn_3, e_kBody, e_kFind, e_kCi3, e_kCi2, e_kCi1, e_kCp3, e_kCp2, e_kCp1, e_kWh2, e_kWh1, d_frz, d_own, d_inn, put_own, put_inn, isInn_n, isInn_f, isInn_o, tru_l, tru_t,
  tru_b, tru_i, tru_n, e_kI, q_item, put_own, put_inn, lz0, lz1, lz2, lz3, lz4, lz5, lz6, lz7, lz8, lz9, lz10, lz11, lz12, lz13, lz14, lz15, lz16, lz17, lz18, lz19, lz20, lz21, lz22, lz23, lz24, not_true_eq_false, decide_true, decide_false])
local macro_rules | `(tactic| walk_at "st") => `(tactic| (refine wS_seq.mpr ?_; walk_at "ws"))
local macro_rules | `(tactic| walk_at "sb") => `(tactic| (refine q_sub ?_; walk_at "ws"))
local macro_rules | `(tactic| exists $ts,*) => `(tactic| simp only [$[$ts:term],*, ↓reduceIte, wE_C, wB_none, wA_nil, wT_yes, wS_nil, wS_pass, wS_break, wS_cont, wS_retN, thenS_nx, thenS_rt, thenS_bk, thenS_ct, wS_pre, dropE, wG_set, wG_tup, wG_nil, rdV_frz, rdV_own, rdA_s, rdS_s, rdM_own, rdM_inn,
  seqQ_l, seqQ_t, zipQ_l, zipQ_t, wrQ_some, wpO_some, wpO_none, wpO_ite, ite_f, ite_t, ads, arNd, arSls, arSl, outsOf, outsOf_f, outsOf_n, List.tail_cons, back, backG, backAt, arAt, Sl.cont, wipeE, unwipe, frzAt, isa_bool,
  isa_int, isa_tuple, isa_str, isa_list, o_add_int, o_add_list, o_add_tup, o_add_str, o_sub, o_mul_int, o_mul_str, o_mul_tup, o_fdiv, o_mod, o_pow, o_eq_int, o_eq_str, o_eq_bool, o_ne_int, o_ne_str, o_lt, o_le, o_gt, o_ge,
  o_isN, o_isntN, o_none1, o_none2, o_none3, o_none4, o_len_l, o_len_t, o_max2, o_min2, o_int_i, o_int_b, o_tup_l, o_tup_t, o_lst_l, o_lst_t, o_sl_l, o_sl_t, o_item_l, o_item_t, atI_n, atI_0, atI_1, atI_2, atI_3, atI_4,
  atI_5, atI_m1, List.getElem?_cons_zero, List.getElem?_cons_succ, List.set_cons_zero, List.set_cons_succ, List.map_cons, List.map_nil, List.append_nil, List.nil_append, List.cons_append, List.replicate_succ,
  List.replicate_zero, Nat.sub_self, Nat.reduceSub, Nat.reduceAdd, Nat.reduceEqDiff, Option.map_some, Option.map_none, Option.bind_some, Option.getD_some, List.all_cons, List.all_nil, Bool.and_true, Bool.true_and, List.nodup_nil,
  List.nodup_cons, List.mem_nil_iff, List.not_mem_nil, not_false_eq_true, not_true_eq_false, List.length_cons, List.length_nil, Nat.zero_add, Bool.not_not, Bool.not_true, Bool.not_false, Bool.not_eq_true',
  decide_eq_false_iff_not, true_and, and_true, if_true, if_false, Bool.false_eq_true, reduceCtorEq, PyData.bool.injEq, PyData.int.injEq, PyData.tuple.injEq, PyData.list.injEq, Sl.own.injEq, Option.some.injEq,
  List.cons.injEq, exists_eq_left', exists_eq_left, decide_eq_true_eq, e_kR, e_kF, e_kVf, e_kVo, e_kMo, q_var, q_move, e_kB2, e_kB1, q_bin, q_bm, e_kNeg, q_neg, e_kNotV, q_notV, e_kAndV, q_andV, e_kOrV, q_orV, e_kIf, q_if,
  e_kIsi, q_isi, e_kIx3, e_kIx2, e_kIx1, q_ixN, e_kRd2_0, e_kRd2_1, e_kRd2_2, e_kRd2_3, e_kRd, q_rd1, e_kTN2, e_kTN, q_tupN, e_kLN2, e_kLN, q_lstN, e_kAp3, e_kAp2, e_kAp1, q_app, e_kPo3, e_kPo2, e_kPo1, e_kCB2, e_kCB,
  q_callB, e_kTp2, e_kTp, q_tup, e_kLs2, e_kLs, q_lst, e_kCa3, e_kCa2, e_kCa, q_call, e_kLc2, e_kLc, q_lc, e_kSl3, e_kSl2, e_kSl1, q_slice, e_kSn4, e_kSn3, e_kSn2, e_kSn1, q_slcN, e_kSt2, e_kSt1, q_step, e_kRp2, e_kRp1,
  q_rep, e_kLr, q_lstRg, e_kBs, q_bsome, e_kAc2, e_kAc1, q_acons, e_kAs2, e_kAs1, q_aslot, e_kTr2, e_kTru, q_tru, e_kTn, q_truN, e_kNot, q_not, e_kAnd, q_and, e_kOr, q_or, e_kTB, q_B, e_kDr, q_drop, e_kRet, q_ret, e_kSi,
  q_sif, e_kSet, q_set, e_kNx, e_kAsg, q_asg, e_kGc, q_gcons, e_kG2, q_T2, e_kSub3, e_kSub2, e_kSub1, e_kSub0, e_kSq2, e_kSeq, q_seq, e_kRg1, q_rng1, e_kRg2, q_rng2, e_kZip, q_zip, e_kFor, q_for, e_kFn_0, e_kFn_1, q_fn,
  e_kDp, q_drp, e_kTurn_0, e_kTurn_1, e_kTurn_2, e_kTurn_3, e_kBody, e_kFind, e_kCi3, e_kCi2, e_kCi1, e_kCp3, e_kCp2, e_kCp1, e_kWh2, e_kWh1, d_frz, d_own, d_inn, put_own, put_inn, isInn_n, isInn_f, isInn_o, tru_l, tru_t,
  tru_b, tru_i, tru_n, e_kI, q_item, put_own, put_inn, lz0, lz1, lz2, lz3, lz4, lz5, lz6, lz7, lz8, lz9, lz10, lz11, lz12, lz13, lz14, lz15, lz16, lz17, lz18, lz19, lz20, lz21, lz22, lz23, lz24, not_true_eq_false, decide_true, decide_false])
theorem tI_eqv {a b : List Int} : PyData.eqvAll (tI a) (tI b) = decide (a = b) := PySem.W.ked_eqvAll a b
theorem tI_shaped (a : List Int) : SeqAt.shaped (.tuple (tI a)) = true := by
  simp [SeqAt.shaped, PyData.canLay0, PyData.depth, PySem.W.ke_canLayAll0, PySem.W.ke_depthAll, tI]
theorem neq_tab {a b : List Int} : neSl (enT a) (enT b) = some (.frz (.bool (!decide (a = b)))) := by
  unfold neSl enT
  show ((if SeqAt.shaped (.tuple (tI a)) = true ∧ SeqAt.shaped (.tuple (tI b)) = true then some (PyData.eqv (.tuple (tI a)) (.tuple (tI b))) else none).map _) = _
  rw [if_pos ⟨tI_shaped a, tI_shaped b⟩]
  show some (Sl.frz (.bool (!(PyData.eqvAll (tI a) (tI b))))) = _
  rw [tI_eqv]
theorem exact_ex {b : List Stn} (w : Wb b) (A : Option (List Int)) (hA : okA b.length A) (bound : Int) : ∃ t, exact' b A bound t := by
  have := z__law_table b w [.int 0, .int 0] ⟨0, 0, rfl, by decide, by decide⟩ A hA bound 0 (by decide) (Q := fun _ _ => ∃ t, exact' b A bound t) (fun t ds h _ => ⟨t, h.e rfl⟩)
  obtain ⟨r, _, q⟩ := this
  exact q
theorem gt_ext {x y : List Int} (hl : x.length = y.length) (h : ∀ i, i < x.length → gt x i = gt y i) : x = y := by
  refine List.ext_getElem hl fun i h1 h2 => ?_
  have := h i h1
  simpa [gt, List.getD_eq_getElem?_getD, List.getElem?_eq_getElem h1, List.getElem?_eq_getElem h2] using this
theorem sum_lt_of {x y : List Int} (hl : x.length = y.length) (h : ∀ i, i < x.length → gt x i ≤ gt y i) : x.sum ≤ y.sum ∧ (x ≠ y → x.sum < y.sum) := by
  induction x generalizing y with
  | nil =>
    cases y with
    | nil => exact ⟨Int.le_refl _, fun h => absurd rfl h⟩
    | cons b y => simp at hl
  | cons a x ih =>
    cases y with
    | nil => simp at hl
    | cons b y =>
      have h0 : a ≤ b := h 0 (by simp)
      obtain ⟨i1, i2⟩ := ih (y := y) (by simpa using hl) fun i hi => h (i + 1) (by simpa using hi)
      simp only [List.sum_cons]
      refine ⟨by omega, fun hne => ?_⟩
      by_cases hab : a = b
      · subst hab
        have := i2 fun e => hne (by rw [e])
        omega
      · omega
theorem sum_le_c {x : List Int} {c : Int} (h : ∀ i, i < x.length → gt x i ≤ c) : x.sum ≤ x.length * c := by
  induction x with
  | nil => simp
  | cons a x ih =>
    have h0 : a ≤ c := h 0 (by simp)
    have := ih fun i hi => h (i + 1) (by simpa using hi)
    simp only [List.sum_cons, List.length_cons]
    have e : ((x.length + 1 : Nat) : Int) * c = (x.length : Int) * c + c := by
      rw [Int.natCast_add, Int.add_mul]
      simp
    omega
theorem fall_ex {b : List Stn} (w : Wb b) {bound : Int} (hb : 0 ≤ bound) {cs : List Int} (c : Cnt b bound cs) : ∃ (G : Nat → List Int) (N : Nat), (N : Int) ≤ b.length * bound ∧ exact' b none bound (G 0) ∧ (∀ k, exact' b (some (G k)) bound (G (k + 1))) ∧ ∀ i, i < b.length → gt (G N) i ≤ gt cs i := by
  obtain ⟨g0, h0⟩ := exact_ex w none trivial bound
  have step : ∀ t : {t : List Int // t.length = b.length}, ∃ u : {t : List Int // t.length = b.length}, exact' b (some t.1) bound u.1 := fun t => by
    obtain ⟨u, hu⟩ := exact_ex w (some t.1) t.2 bound
    exact ⟨⟨u, hu.1⟩, hu⟩
  let nx := fun t => Classical.choose (step t)
  have hnx : ∀ t, exact' b (some t.1) bound (nx t).1 := fun t => Classical.choose_spec (step t)
  let G : Nat → {t : List Int // t.length = b.length} := fun k => Nat.rec ⟨g0, h0.1⟩ (fun _ t => nx t) k
  have hs : ∀ k, exact' b (some (G k).1) bound (G (k + 1)).1 := fun k => hnx (G k)
  have mono : ∀ k, ∀ i, i < b.length → gt (G (k + 1)).1 i ≤ gt (G k).1 i := by
    intro k
    induction k with
    | zero => exact exact_mono w (hs 0) h0 trivial
    | succ k ih => exact exact_mono w (hs (k + 1)) (hs k) ih
  have lo : ∀ k, ∀ i, i < b.length → 0 ≤ gt (G k).1 i := by
    intro k
    induction k with
    | zero => exact fun i hi => (exact_range w hb h0 (fun a e => by cases e) i hi).1
    | succ k ih => exact fun i hi => (exact_range w hb (hs k) (fun a e => by cases e; exact ih) i hi).1
  have tot : (G 0).1.sum ≤ b.length * bound := by
    have := sum_le_c (x := (G 0).1) (c := bound) fun i hi => (exact_range w hb h0 (fun a e => by cases e) i (by rw [← (G 0).2]; exact hi)).2
    rw [(G 0).2] at this
    exact this
  have sn : ∀ k, 0 ≤ (G k).1.sum := fun k => sum_nonneg' fun i hi => lo k i (by rw [← (G k).2]; exact hi)
  have rest : ∀ k : Nat, (∃ N, N < k ∧ (G (N + 1)).1 = (G N).1) ∨ (G k).1.sum + k ≤ (G 0).1.sum := by
    intro k
    induction k with
    | zero => exact .inr (by simp)
    | succ k ih =>
      rcases ih with ⟨N, h1, h2⟩ | ih
      · exact .inl ⟨N, by omega, h2⟩
      · by_cases he : (G (k + 1)).1 = (G k).1
        · exact .inl ⟨k, by omega, he⟩
        · have := (sum_lt_of (x := (G (k + 1)).1) (y := (G k).1) (by rw [(G (k + 1)).2, (G k).2]) fun i hi => mono k i (by rw [← (G (k + 1)).2]; exact hi)).2 he
          exact .inr (by omega)
  have h00 := sn 0
  rcases rest ((G 0).1.sum.toNat + 1) with ⟨N, hN, hE⟩ | hbad
  · refine ⟨fun k => (G k).1, N, by omega, h0, hs, ?_⟩
    have hx := hs N
    rw [hE] at hx
    exact c.top _ (exact_post w hb hx (lo N))
  · have := sn ((G 0).1.sum.toNat + 1)
    omega
def Chain (b : List Stn) (bound : Int) (rise : Nat) (tss : List (List Int)) : Prop := ∀ k, k < tss.length → TabOk b (prevA tss k) bound (if k < 2 then rise else 0) (tb tss k)
theorem tb_app {tss : List (List Int)} {t : List Int} {k : Nat} (h : k < tss.length) : tb (tss ++ [t]) k = tb tss k := by
  simp only [tb, List.getD_eq_getElem?_getD]
  rw [List.getElem?_append_left h]
theorem tb_new {tss : List (List Int)} {t : List Int} : tb (tss ++ [t]) tss.length = t := by
  simp [tb, List.getD_eq_getElem?_getD]
theorem prevA_app {tss : List (List Int)} {t : List Int} {k : Nat} (h : k ≤ tss.length) : prevA (tss ++ [t]) k = prevA tss k := by
  cases k with
  | zero => rw [prevA_0, prevA_0]
  | succ k => rw [prevA_s, prevA_s, tb_app (by omega)]
theorem Chain.app {b : List Stn} {bound : Int} {rise : Nat} {tss : List (List Int)} (c : Chain b bound rise tss) {t : List Int} (h : TabOk b (prevA tss tss.length) bound (if tss.length < 2 then rise else 0) t) : Chain b bound rise (tss ++ [t]) := by
  intro k hk
  rw [List.length_append, List.length_singleton] at hk
  by_cases hkl : k = tss.length
  · subst hkl
    rw [prevA_app (Nat.le_refl _), tb_new]
    exact h
  · rw [prevA_app (by omega), tb_app (by omega)]
    exact c k (by omega)
theorem Chain.low {b : List Stn} (w : Wb b) {bound : Int} {rise : Nat} {tss : List (List Int)} (c : Chain b bound rise tss) {G : Nat → List Int} (h0 : exact' b none bound (G 0)) (hs : ∀ k, exact' b (some (G k)) bound (G (k + 1))) : ∀ k, k + 2 < tss.length → ∀ i, i < b.length → gt (tb tss (k + 2)) i ≤ gt (G k) i := by
  intro k
  induction k with
  | zero =>
    intro hk
    have := (c 2 hk).e (by simp)
    exact exact_mono w this h0 (by rw [prevA_s]; trivial)
  | succ k ih =>
    intro hk
    have := (c (k + 1 + 2) hk).e (by rw [if_neg (by omega)])
    rw [prevA_s] at this
    exact exact_mono w this (hs k) (ih (by omega))
theorem anti {b : List Stn} (w : Wb b) {bound : Int} {G : Nat → List Int} (h0 : exact' b none bound (G 0)) (hs : ∀ k, exact' b (some (G k)) bound (G (k + 1))) : ∀ (d k i : Nat), i < b.length → gt (G (k + d)) i ≤ gt (G k) i := by
  have mono : ∀ k, ∀ i, i < b.length → gt (G (k + 1)) i ≤ gt (G k) i := by
    intro k
    induction k with
    | zero => exact exact_mono w (hs 0) h0 trivial
    | succ k ih => exact exact_mono w (hs (k + 1)) (hs k) ih
  intro d
  induction d with
  | zero => intro k i _; exact Int.le_refl _
  | succ d ih => intro k i hi; exact Int.le_trans (mono (k + d) i hi) (ih k i hi)
structure TabsOk (b : List Stn) (start : Nat) (load bound : Int) (rise : Nat) (tss : List (List Int)) : Prop where
  ne : tss ≠ []
  c : Chain b bound rise tss
  s : tss.length ≤ 200000
  e : gt (tb tss (tss.length - 1)) start < load
theorem TabOk.nn {b : List Stn} (w : Wb b) {A : Option (List Int)} {bound : Int} {rise : Nat} {t : List Int} (hb : 0 ≤ bound) (h : TabOk b A bound rise t) (hA : ∀ a, A = some a → ∀ i, i < b.length → 0 ≤ gt a i) : ∀ i, i < b.length → 0 ≤ gt t i := by
  refine w.ind _ (fun i hi hc => ?_) (fun i hi ho hn ih => ?_)
  · refine Int.le_trans ?_ (h.g i hi)
    by_cases hn : (st b i).mv = []
    · rw [least_nil hn]
      exact Int.le_refl _
    · have ho : (st b i).o = .pen := hc.resolve_right hn
      have ws := w.s _ (st_mem hi)
      cases A with
      | none => rw [least_pen0 hn ho]; exact hb
      | some a =>
        rw [least_pen1 hn ho]
        have : 0 ≤ (told (st b i) a).sum / ((st b i).ask : Int) := Int.ediv_nonneg (pick_nonneg (o := .pen) hn fun p hp => hA a rfl _ (ws.m2 p hp)) (by omega)
        omega
  · refine Int.le_trans ?_ (h.g i hi)
    rw [least_pick hn ho]
    exact pick_nonneg hn ih
theorem Chain.nn {b : List Stn} (w : Wb b) {bound : Int} {rise : Nat} {tss : List (List Int)} (hb : 0 ≤ bound) (c : Chain b bound rise tss) : ∀ k, k < tss.length → ∀ i, i < b.length → 0 ≤ gt (tb tss k) i := by
  intro k
  induction k with
  | zero => exact fun hk => (c 0 hk).nn w hb (fun a e => by rw [prevA_0] at e; cases e)
  | succ k ih => exact fun hk => (c (k + 1) hk).nn w hb (fun a e => by rw [prevA_s] at e; cases e; exact ih (by omega))
theorem z__law_tables (b : List Stn) (w : Wb b) (ds : List D) (hp : Pool ds) (start : Nat) (hst : start < b.length) (load bound : Int) (hb : 0 ≤ bound) (hb2 : bound ≤ 1000) (cs : List Int) (hc : Cnt b bound cs) (hload : gt cs start < load) (rise : Nat) (hri : rise ≤ 1000) {Q : Sl → Ev → Prop}
    (h : ∀ tss ds, TabsOk b start load bound rise tss → Pool ds → Q (.frz (.tuple (tss.map enT))) [some (.inn ds), none, none, none, none, none]) : wpF fn__law_tables [.inn ds, .frz (encB b), .frz (.int start), .frz (.int load), .frz (.int bound), .frz (.int rise)] Q := by
  have hsz := size_big
  have l1 := w.l1
  obtain ⟨G, N, hN, g0, gs, gN⟩ := fall_ex w hb hc
  have hN2 : N ≤ 100000 := by
    have h1 : (b.length : Int) * bound ≤ (b.length : Int) * 1000 := Int.mul_le_mul_of_nonneg_left hb2 (by omega)
    omega
  have far : ∀ tss, Chain b bound rise tss → N + 2 < tss.length → gt (tb tss (tss.length - 1)) start < load := fun tss c hl => by
    have h1 := c.low w g0 gs (tss.length - 3) (by omega) start hst
    rw [show tss.length - 3 + 2 = tss.length - 1 by omega] at h1
    have h2 := anti w g0 gs (tss.length - 3 - N) N start hst
    rw [show N + (tss.length - 3 - N) = tss.length - 3 by omega] at h2
    have h3 := gN start hst
    omega
  unfold fn__law_tables body__law_tables
  walk_at "ws"
  refine wS_seq.mpr ?_
  walk_at "ws"
  refine z__law_table b w ds hp none trivial bound rise hri (fun t ds ht hp => ?_)
  walk_at "ws"
  walk_at "st"
  refine qS_while (fun n ev => ∃ (tss : List (List Int)) (ds : List D), tss ≠ [] ∧ Chain b bound rise tss ∧ Pool ds ∧ n + tss.length = N + 10 ∧ ev = [some (.inn ds), some (.frz (encB b)), some (.frz (.int start)), some (.frz (.int load)), some (.frz (.int bound)), some (.frz (.int rise)), some (.own (tss.map enT))]) (N + 9) ⟨[t], ds, by simp, fun k hk => ?_, hp, by simp, rfl⟩ (fun n ev hP => ?_)
  · have : k = 0 := by simp at hk; omega
    subst this
    exact ht
  · clear hp ht
    obtain ⟨tss, ds, hne, c, hp, hn, rfl⟩ := hP
    have hpos : 0 < tss.length := List.length_pos_iff.mpr hne
    have hlen : (tss.map enT).length = tss.length := by simp
    have hlast := (c (tss.length - 1) (by omega)).l
    exists hlen, tb_at (show tss.length - 1 < tss.length by omega), enT, tI_at (show start < (tb tss (tss.length - 1)).length by omega)
    have hprev : prevA tss tss.length = some (tb tss (tss.length - 1)) := by
      have := prevA_s (tss := tss) (k := tss.length - 1)
      rw [show tss.length - 1 + 1 = tss.length by omega] at this
      exact this
    by_cases hge : load ≤ gt (tb tss (tss.length - 1)) start
    · have hsmall : tss.length ≤ N + 2 := by
        refine Nat.not_lt.mp fun h => ?_
        have := far tss c h
        omega
      have fin : ∀ (t : List Int) (ds : List D), TabOk b (some (tb tss (tss.length - 1))) bound (if tss.length < 2 then rise else 0) t → Pool ds → ∃ m, m < n ∧ ∃ (tss' : List (List Int)) (ds' : List D), tss' ≠ [] ∧ Chain b bound rise tss' ∧ Pool ds' ∧ m + tss'.length = N + 10 ∧ Sl.inn ds = Sl.inn ds' ∧ tss.map enT ++ [PyData.tuple (tI t)] = tss'.map enT := fun t ds ht hp =>
        ⟨n - 1, by omega, tss ++ [t], ds, by simp, c.app (by rw [hprev]; exact ht), hp, by simp; omega, rfl, by simp [enT]⟩
      have hroom : tss.length < sizeLine := by omega
      simp only [hge, if_true]
      by_cases h2 : tss.length < 2
      · have h3' : ((tss.length : Nat) : Int) < 3 := by omega
        have h2' : ((tss.length : Nat) : Int) < 2 := by omega
        simp only [h3', h2', if_true]
        refine z__law_table b w ds hp (some (tb tss (tss.length - 1))) hlast bound rise hri (fun t ds ht hp => ?_)
        exists hlen, hroom, enT
        exact fin t ds (by rw [if_pos h2]; exact ht) hp
      · have h2' : ¬ ((tss.length : Nat) : Int) < 2 := by omega
        by_cases h3 : tss.length < 3
        · have h3' : ((tss.length : Nat) : Int) < 3 := by omega
          simp only [h3', h2', if_true, if_false]
          refine z__law_table b w ds hp (some (tb tss (tss.length - 1))) hlast bound 0 (by decide) (fun t ds ht hp => ?_)
          exists hlen, hroom, enT
          exact fin t ds (by rw [if_neg h2]; exact ht) hp
        · have h3' : ¬ ((tss.length : Nat) : Int) < 3 := by omega
          simp only [h3', if_false]
          rw [atI_m2 (by rw [hlen]; omega), hlen, tb_at (show tss.length - 2 < tss.length by omega)]
          have hne2 := neq_tab (a := tb tss (tss.length - 1)) (b := tb tss (tss.length - 2))
          simp only [enT] at hne2
          exists enT, hne2
          by_cases heq : tb tss (tss.length - 1) = tb tss (tss.length - 2)
          · simp only [heq, not_true_eq_false, if_false, decide_true, Bool.not_true, Bool.false_eq_true]
            have hx := (c (tss.length - 1) (by omega)).e (by rw [if_neg (by omega)])
            have := prevA_s (tss := tss) (k := tss.length - 2)
            rw [show tss.length - 2 + 1 = tss.length - 1 by omega, ← heq] at this
            rw [this] at hx
            have := hc.top _ (exact_post w hb hx (c.nn w hb _ (by omega))) start hst
            omega
          · have heq' : (!decide (tb tss (tss.length - 1) = tb tss (tss.length - 2))) = true := by simp [heq]
            exists hlen, heq, tb_at (show tss.length - 1 < tss.length by omega), enT, h2'
            refine z__law_table b w ds hp (some (tb tss (tss.length - 1))) hlast bound 0 (by decide) (fun t ds ht hp => ?_)
            exists hlen, hroom, enT
            exact fin t ds (by rw [if_neg h2]; exact ht) hp
    · simp only [hge, if_false]
      exact h tss ds ⟨hne, c, by omega, by omega⟩ hp
end Law
end
section
set_option Elab.async false
set_option linter.all false
set_option maxRecDepth 100000
set_option maxHeartbeats 4000000
namespace Law
open PySem PySem.Spec L2 MM
local macro_rules | `(tactic| walk_at "ws") => `(tactic| try simp only [↓reduceIte, wE_C, wB_none, wA_nil, wT_yes, wS_nil, wS_pass, wS_break, wS_cont, wS_retN, thenS_nx, thenS_rt, thenS_bk, thenS_ct, wS_pre, dropE, wG_set, wG_tup, wG_nil, rdV_frz, rdV_own, rdA_s, rdS_s, rdM_own, rdM_inn,
  seqQ_l, seqQ_t, zipQ_l, zipQ_t, wrQ_some, wpO_some, wpO_none, wpO_ite, ite_f, ite_t, ads, arNd, arSls, arSl, outsOf, outsOf_f, outsOf_n, List.tail_cons, back, backG, backAt, arAt, Sl.cont, wipeE, unwipe, frzAt, isa_bool,
  isa_int, isa_tuple, isa_str, isa_list, o_add_int, o_add_list, o_add_tup, o_add_str, o_sub, o_mul_int, o_mul_str, o_mul_tup, o_fdiv, o_mod, o_pow, o_eq_int, o_eq_str, o_eq_bool, o_ne_int, o_ne_str, o_lt, o_le, o_gt, o_ge,
  o_isN, o_isntN, o_none1, o_none2, o_none3, o_none4, o_len_l, o_len_t, o_max2, o_min2, o_int_i, o_int_b, o_tup_l, o_tup_t, o_lst_l, o_lst_t, o_sl_l, o_sl_t, o_item_l, o_item_t, atI_n, atI_0, atI_1, atI_2, atI_3, atI_4,
  atI_5, atI_m1, List.getElem?_cons_zero, List.getElem?_cons_succ, List.set_cons_zero, List.set_cons_succ, List.map_cons, List.map_nil, List.append_nil, List.nil_append, List.cons_append, List.replicate_succ,
  List.replicate_zero, Nat.sub_self, Nat.reduceSub, Nat.reduceAdd, Nat.reduceEqDiff, Option.map_some, Option.map_none, Option.bind_some, Option.getD_some, List.all_cons, List.all_nil, Bool.and_true, Bool.true_and, List.nodup_nil,
  List.nodup_cons, List.mem_nil_iff, List.not_mem_nil, not_false_eq_true, not_true_eq_false, List.length_cons, List.length_nil, Nat.zero_add, Bool.not_not, Bool.not_true, Bool.not_false, Bool.not_eq_true',
  decide_eq_false_iff_not, true_and, and_true, if_true, if_false, Bool.false_eq_true, reduceCtorEq, PyData.bool.injEq, PyData.int.injEq, PyData.tuple.injEq, PyData.list.injEq, Sl.own.injEq, Option.some.injEq,
  List.cons.injEq, exists_eq_left', exists_eq_left, decide_eq_true_eq, e_kR, e_kF, e_kVf, e_kVo, e_kMo, q_var, q_move, e_kB2, e_kB1, q_bin, q_bm, e_kNeg, q_neg, e_kNotV, q_notV, e_kAndV, q_andV, e_kOrV, q_orV, e_kIf, q_if,
  e_kIsi, q_isi, e_kIx3, e_kIx2, e_kIx1, q_ixN, e_kRd2_0, e_kRd2_1, e_kRd2_2, e_kRd2_3, e_kRd, q_rd1, e_kTN2, e_kTN, q_tupN, e_kLN2, e_kLN, q_lstN, e_kAp3, e_kAp2, e_kAp1, q_app, e_kPo3, e_kPo2, e_kPo1, e_kCB2, e_kCB,
  q_callB, e_kTp2, e_kTp, q_tup, e_kLs2, e_kLs, q_lst, e_kCa3, e_kCa2, e_kCa, q_call, e_kLc2, e_kLc, q_lc, e_kSl3, e_kSl2, e_kSl1, q_slice, e_kSn4, e_kSn3, e_kSn2, e_kSn1, q_slcN, e_kSt2, e_kSt1, q_step, e_kRp2, e_kRp1,
  q_rep, e_kLr, q_lstRg, e_kBs, q_bsome, e_kAc2, e_kAc1, q_acons, e_kAs2, e_kAs1, q_aslot, e_kTr2, e_kTru, q_tru, e_kTn, q_truN, e_kNot, q_not, e_kAnd, q_and, e_kOr, q_or, e_kTB, q_B, e_kDr, q_drop, e_kRet, q_ret, e_kSi,
  q_sif, e_kSet, q_set, e_kNx, e_kAsg, q_asg, e_kGc, q_gcons, e_kG2, q_T2, e_kSub3, e_kSub2, e_kSub1, e_kSub0, e_kSq2, e_kSeq, q_seq, e_kRg1, q_rng1, e_kRg2, q_rng2, e_kZip, q_zip, e_kFor, q_for, e_kFn_0, e_kFn_1, q_fn,
  e_kDp, q_drp, e_kTurn_0, e_kTurn_1, e_kTurn_2, e_kTurn_3, e_kBody, e_kFind, e_kCi3, e_kCi2, e_kCi1, e_kCp3, e_kCp2, e_kCp1, e_kWh2, e_kWh1, d_frz, d_own, d_inn, put_own, put_inn, isInn_n, isInn_f, isInn_o, tru_l, tru_t,
  tru_b, tru_i, tru_n, e_kI, q_item, put_own, put_inn, lz0, lz1, lz2, lz3, lz4, lz5, lz6, lz7, lz8, lz9, lz10, lz11, lz12, lz13, lz14, lz15, lz16, lz17, lz18, lz19, lz20, lz21, lz22, lz23, lz24, not_true_eq_false, decide_true, decide_false])
local macro_rules | `(tactic| walk_at "st") => `(tactic| (refine wS_seq.mpr ?_; walk_at "ws"))
local macro_rules | `(tactic| walk_at "sb") => `(tactic| (refine q_sub ?_; walk_at "ws"))
local macro_rules | `(tactic| exists $ts,*) => `(tactic| simp only [$[$ts:term],*, ↓reduceIte, wE_C, wB_none, wA_nil, wT_yes, wS_nil, wS_pass, wS_break, wS_cont, wS_retN, thenS_nx, thenS_rt, thenS_bk, thenS_ct, wS_pre, dropE, wG_set, wG_tup, wG_nil, rdV_frz, rdV_own, rdA_s, rdS_s, rdM_own, rdM_inn,
  seqQ_l, seqQ_t, zipQ_l, zipQ_t, wrQ_some, wpO_some, wpO_none, wpO_ite, ite_f, ite_t, ads, arNd, arSls, arSl, outsOf, outsOf_f, outsOf_n, List.tail_cons, back, backG, backAt, arAt, Sl.cont, wipeE, unwipe, frzAt, isa_bool,
  isa_int, isa_tuple, isa_str, isa_list, o_add_int, o_add_list, o_add_tup, o_add_str, o_sub, o_mul_int, o_mul_str, o_mul_tup, o_fdiv, o_mod, o_pow, o_eq_int, o_eq_str, o_eq_bool, o_ne_int, o_ne_str, o_lt, o_le, o_gt, o_ge,
  o_isN, o_isntN, o_none1, o_none2, o_none3, o_none4, o_len_l, o_len_t, o_max2, o_min2, o_int_i, o_int_b, o_tup_l, o_tup_t, o_lst_l, o_lst_t, o_sl_l, o_sl_t, o_item_l, o_item_t, atI_n, atI_0, atI_1, atI_2, atI_3, atI_4,
  atI_5, atI_m1, List.getElem?_cons_zero, List.getElem?_cons_succ, List.set_cons_zero, List.set_cons_succ, List.map_cons, List.map_nil, List.append_nil, List.nil_append, List.cons_append, List.replicate_succ,
  List.replicate_zero, Nat.sub_self, Nat.reduceSub, Nat.reduceAdd, Nat.reduceEqDiff, Option.map_some, Option.map_none, Option.bind_some, Option.getD_some, List.all_cons, List.all_nil, Bool.and_true, Bool.true_and, List.nodup_nil,
  List.nodup_cons, List.mem_nil_iff, List.not_mem_nil, not_false_eq_true, not_true_eq_false, List.length_cons, List.length_nil, Nat.zero_add, Bool.not_not, Bool.not_true, Bool.not_false, Bool.not_eq_true',
  decide_eq_false_iff_not, true_and, and_true, if_true, if_false, Bool.false_eq_true, reduceCtorEq, PyData.bool.injEq, PyData.int.injEq, PyData.tuple.injEq, PyData.list.injEq, Sl.own.injEq, Option.some.injEq,
  List.cons.injEq, exists_eq_left', exists_eq_left, decide_eq_true_eq, e_kR, e_kF, e_kVf, e_kVo, e_kMo, q_var, q_move, e_kB2, e_kB1, q_bin, q_bm, e_kNeg, q_neg, e_kNotV, q_notV, e_kAndV, q_andV, e_kOrV, q_orV, e_kIf, q_if,
  e_kIsi, q_isi, e_kIx3, e_kIx2, e_kIx1, q_ixN, e_kRd2_0, e_kRd2_1, e_kRd2_2, e_kRd2_3, e_kRd, q_rd1, e_kTN2, e_kTN, q_tupN, e_kLN2, e_kLN, q_lstN, e_kAp3, e_kAp2, e_kAp1, q_app, e_kPo3, e_kPo2, e_kPo1, e_kCB2, e_kCB,
  q_callB, e_kTp2, e_kTp, q_tup, e_kLs2, e_kLs, q_lst, e_kCa3, e_kCa2, e_kCa, q_call, e_kLc2, e_kLc, q_lc, e_kSl3, e_kSl2, e_kSl1, q_slice, e_kSn4, e_kSn3, e_kSn2, e_kSn1, q_slcN, e_kSt2, e_kSt1, q_step, e_kRp2, e_kRp1,
  q_rep, e_kLr, q_lstRg, e_kBs, q_bsome, e_kAc2, e_kAc1, q_acons, e_kAs2, e_kAs1, q_aslot, e_kTr2, e_kTru, q_tru, e_kTn, q_truN, e_kNot, q_not, e_kAnd, q_and, e_kOr, q_or, e_kTB, q_B, e_kDr, q_drop, e_kRet, q_ret, e_kSi,
  q_sif, e_kSet, q_set, e_kNx, e_kAsg, q_asg, e_kGc, q_gcons, e_kG2, q_T2, e_kSub3, e_kSub2, e_kSub1, e_kSub0, e_kSq2, e_kSeq, q_seq, e_kRg1, q_rng1, e_kRg2, q_rng2, e_kZip, q_zip, e_kFor, q_for, e_kFn_0, e_kFn_1, q_fn,
  e_kDp, q_drp, e_kTurn_0, e_kTurn_1, e_kTurn_2, e_kTurn_3, e_kBody, e_kFind, e_kCi3, e_kCi2, e_kCi1, e_kCp3, e_kCp2, e_kCp1, e_kWh2, e_kWh1, d_frz, d_own, d_inn, put_own, put_inn, isInn_n, isInn_f, isInn_o, tru_l, tru_t,
  tru_b, tru_i, tru_n, e_kI, q_item, put_own, put_inn, lz0, lz1, lz2, lz3, lz4, lz5, lz6, lz7, lz8, lz9, lz10, lz11, lz12, lz13, lz14, lz15, lz16, lz17, lz18, lz19, lz20, lz21, lz22, lz23, lz24, not_true_eq_false, decide_true, decide_false])
theorem TabOk.up {b : List Stn} (w : Wb b) {A : Option (List Int)} {bound : Int} {rise : Nat} {t : List Int} (hb : 0 ≤ bound) (h : TabOk b A bound rise t) : ∀ i, i < b.length → gt t i ≤ bound + rise * (b.length + 1 : Nat) := by
  obtain ⟨rk, hrk⟩ := w.rk
  have cap : ∀ i, i < b.length → ((st b i).o = .pen ∨ (st b i).mv = []) → gt t i ≤ bound + rise := fun i hi hc => by
    have h1 := h.u i hi
    have h2 : least (st b i) t A bound ≤ bound := by
      by_cases hn : (st b i).mv = []
      · rw [least_nil hn]; exact hb
      · have ho : (st b i).o = .pen := hc.resolve_right hn
        cases A with
        | none => rw [least_pen0 hn ho]; exact Int.le_refl _
        | some a => rw [least_pen1 hn ho]; exact Int.min_le_left _ _
    omega
  have go : ∀ (k i : Nat), i < b.length → b.length - rk i ≤ k → gt t i ≤ bound + rise * (k + 1 : Nat) := by
    intro k
    induction k with
    | zero =>
      intro i hi hk
      have := (hrk i hi).1
      omega
    | succ k ih =>
      intro i hi hk
      have e : (rise : Int) * ((k + 1 + 1 : Nat) : Int) = rise * ((k + 1 : Nat) : Int) + rise := by
        rw [Int.natCast_add (k + 1) 1, Int.mul_add]
        simp
      have e0 : (rise : Int) ≤ rise * ((k + 1 : Nat) : Int) := by
        have := Int.mul_le_mul_of_nonneg_left (show (1 : Int) ≤ ((k + 1 : Nat) : Int) by omega) (show (0 : Int) ≤ rise by omega)
        omega
      by_cases hc : (st b i).o = .pen ∨ (st b i).mv = []
      · have := cap i hi hc
        omega
      · have ho : (st b i).o ≠ .pen := fun e => hc (.inl e)
        have hn : (st b i).mv ≠ [] := fun e => hc (.inr e)
        have h1 := h.u i hi
        rw [least_pick hn ho] at h1
        have h2 : pick (st b i).o (told (st b i) t) ≤ bound + rise * ((k + 1 : Nat) : Int) := pick_le ho hn fun p hp => by
          have hp2 := (w.s _ (st_mem hi)).m2 p hp
          rcases (hrk i hi).2 ho p hp with h | h
          · have := cap p.2 hp2 (.inl h)
            omega
          · have := (hrk _ hp2).1
            exact ih _ hp2 (by omega)
        omega
  intro i hi
  exact go b.length i hi (by omega)
def Small (ts : List Int) : Prop := ∀ t ∈ ts, 0 ≤ t ∧ t < 2 ^ 190
theorem small_of {b : List Stn} {t : List Int} (hl : t.length = b.length) (h0 : ∀ i, i < b.length → 0 ≤ gt t i) (h1 : ∀ i, i < b.length → gt t i < 2 ^ 190) : Small t := by
  intro x hx
  obtain ⟨i, hi, rfl⟩ := List.getElem_of_mem hx
  have e : gt t i = t[i] := by simp [gt, List.getD_eq_getElem?_getD, List.getElem?_eq_getElem hi]
  rw [← e]
  exact ⟨h0 i (by omega), h1 i (by omega)⟩
theorem chain_small {b : List Stn} (w : Wb b) {bound : Int} {rise : Nat} {tss : List (List Int)} (hb : 0 ≤ bound) (hb2 : bound ≤ 1000) (hr : rise ≤ 1000) (c : Chain b bound rise tss) : ∀ t ∈ tss, t.length = b.length ∧ Small t := by
  intro t ht
  obtain ⟨k, hk, rfl⟩ := List.getElem_of_mem ht
  have e : tb tss k = tss[k] := by simp [tb, List.getD_eq_getElem?_getD, List.getElem?_eq_getElem hk]
  rw [← e]
  have l1 := w.l1
  refine ⟨(c k hk).l, small_of (c k hk).l (c.nn w hb k hk) fun i hi => ?_⟩
  have h1 := (c k hk).up w hb i hi
  have h2 : (((if k < 2 then rise else 0 : Nat) : Int)) * ((b.length + 1 : Nat) : Int) ≤ 1000 * ((b.length + 1 : Nat) : Int) := Int.mul_le_mul_of_nonneg_right (by split <;> omega) (by omega)
  omega
def LenD (d : D) : Prop := ∀ xs, d = .tuple xs → xs.length ≤ 16000000
def SmallD (d : D) : Prop := LenD d ∧ smallT d
theorem lenD_tup {xs : List D} (h : xs.length ≤ 16000000) : LenD (.tuple xs) := fun ys e => by cases e; exact h
theorem lenD_not {d : D} (h : is_tuple d = false) : LenD d := fun ys e => by subst e; cases h
theorem smallD_tup {xs : List D} (h : xs.length ≤ 16000000) (hv : ∀ x ∈ xs, valI x < 2 ^ 1000) : SmallD (.tuple xs) := ⟨lenD_tup h, fun t ht => by
  obtain ⟨x, hx, rfl⟩ := List.mem_map.mp ht
  exact hv x hx⟩
theorem smallD_not {d : D} (h : is_tuple d = false) : SmallD d := ⟨lenD_not h, fun t ht => by
  cases d <;> first | (cases h; done) | (cases ht; done)⟩
theorem big1000 : (2 : Int) ^ 100 * 4 < 2 ^ 1000 := by decide
theorem pow58 : (10 : Int) ^ (58 : Nat) < 2 ^ 1000 := by decide
theorem at_mem {L : List D} {k : Nat} (h : k < L.length) : ∃ d, L[k]? = some d ∧ d ∈ L := ⟨L[k], List.getElem?_eq_getElem h, List.getElem_mem h⟩
theorem cut_mem {α : Type} {xs : List α} {lo hi : Option Int} {x : α} (h : x ∈ cutD xs lo hi) : x ∈ xs := List.mem_of_mem_drop (List.mem_of_mem_take h)
theorem cut_len {α : Type} {xs : List α} {lo hi : Option Int} : (cutD xs lo hi).length ≤ xs.length := by
  unfold cutD
  rw [List.length_take, List.length_drop]
  omega
theorem wpO_at {L : List D} {k : Nat} {K : D → Prop} (hk : k < L.length) (h : ∀ d ∈ L, K d) : wpO L[k]? K := by
  rw [List.getElem?_eq_getElem hk]
  exact wpO_some.mpr (h _ (List.getElem_mem hk))
theorem z__law_odd (ds : List D) (hp : Pool ds) (ts : List Int) (h1 : 1 ≤ ts.length) (h2 : ts.length ≤ 1000) (hs : Small ts) (kind : Nat) (hk : kind < 16) {Q : Sl → Ev → Prop}
    (h : ∀ d ds, SmallD d → Pool ds → Q (.frz d) [some (.inn ds), none, none]) : wpF fn__law_odd [.inn ds, .frz (.tuple (tI ts)), .frz (.int kind)] Q := by
  have hsz := size_big
  have b1 := big1000
  have b2 : (10 : Int) ^ Int.toNat 58 < 2 ^ 1000 := pow58
  have hlen : (tI ts).length = ts.length := by simp
  have hval : ∀ x ∈ tI ts, valI x < 2 ^ 1000 := fun x hx => by
    obtain ⟨t, ht, rfl⟩ := List.mem_map.mp hx
    have := hs t ht
    show t < _
    omega
  unfold fn__law_odd body__law_odd
  walk_at "ws"
  walk_at "st"
  rw [hlen]
  refine z__law_draw ds hp ts.length h1 (by omega) (fun r ds hr hp => ?_)
  walk_at "ws"
  refine wS_seq.mpr ?_
  exists tI_at hr
  have hg := hs _ (gt_mem hr)
  refine wS_seq.mpr ?_
  walk_at "ws"
  by_cases hk8 : kind < 8
  · have hk8' : (kind : Int) < 8 := by omega
    simp only [hk8', if_true]
    refine ⟨⟨by decide, by decide, by decide⟩, ?_⟩
    obtain ⟨d, hd, hm⟩ := at_mem (L := [PyData.int (gt ts r + 1), .int (gt ts r - 1), .bool (decide (gt ts r = 1)), .none, .int (10 ^ Int.toNat 58), .str (Str.ofString "0"), .tuple [.int (gt ts r)], .int 0]) (k := kind) (by simpa using hk8)
    exists hd
    refine z__law_put _ r d (by rw [hlen]; exact hr) (by rw [hlen]; omega) ?_
    walk_at "ws"
    refine h _ ds (smallD_tup (by rw [List.length_set, hlen]; omega) fun x hx => ?_) hp
    rcases List.mem_or_eq_of_mem_set hx with hx | rfl
    · exact hval x hx
    · simp only [List.mem_cons, List.not_mem_nil, or_false] at hm
      rcases hm with rfl | rfl | rfl | rfl | rfl | rfl | rfl | rfl <;> simp only [valI] <;> omega
  · have hk8' : ¬ (kind : Int) < 8 := by omega
    simp only [hk8', if_false]
    have srev : stepD (.tuple (tI ts)) (.int (-1)) = some (.frz (.tuple (tI ts).reverse)) := rfl
    have c1 := cut_len (xs := tI ts) (lo := none) (hi := some (r : Int))
    have c2 := cut_len (xs := tI ts) (lo := some ((r : Int) + 1)) (hi := none)
    rw [hlen] at c1 c2
    refine ⟨by omega, by rw [hlen]; omega, ?_⟩
    exists srev
    refine qC_pure (fun _ => true) (fun d => .int (2 * valI d)) (by rw [hlen]; omega) (fun j d hd => ?_) ?_
    · obtain ⟨t, ht, rfl⟩ := List.mem_map.mp (List.mem_of_getElem? hd)
      have := hs t ht
      walk_at "ws"
      refine ⟨logm (by decide) (by omega), ?_⟩
      rfl
    · rw [List.filter_eq_self.mpr (fun _ _ => rfl)]
      walk_at "ws"
      refine qC_pure (fun _ => true) (fun d => .int (valI d + 1)) (by rw [hlen]; omega) (fun j d hd => ?_) ?_
      · obtain ⟨t, ht, rfl⟩ := List.mem_map.mp (List.mem_of_getElem? hd)
        walk_at "ws"
        rfl
      · rw [List.filter_eq_self.mpr (fun _ _ => rfl)]
        have h88 : (kind : Int) - 8 = ((kind - 8 : Nat) : Int) := by omega
        walk_at "ws"
        rw [h88, atI_n]
        obtain ⟨d, hd, hm⟩ := at_mem (L := [PyData.tuple (cutD (tI ts) none (some (r : Int)) ++ cutD (tI ts) (some ((r : Int) + 1)) none), .tuple (tI ts ++ [.int 0]), .list (tI ts), .tuple (tI ts).reverse, .tuple [], .none, .tuple ((tI ts).map fun d => .int (2 * valI d)), .tuple ((tI ts).map fun d => .int (valI d + 1))]) (k := kind - 8) (by show kind - 8 < 8; omega)
        rw [hd]
        walk_at "ws"
        refine h d ds ?_ hp
        simp only [List.mem_cons, List.not_mem_nil, or_false] at hm
        rcases hm with rfl | rfl | rfl | rfl | rfl | rfl | rfl | rfl
        · refine smallD_tup (by rw [List.length_append]; omega) fun x hx => ?_
          rcases List.mem_append.mp hx with hx | hx
          · exact hval x (cut_mem hx)
          · exact hval x (cut_mem hx)
        · refine smallD_tup (by rw [List.length_append, hlen]; simp; omega) fun x hx => ?_
          rcases List.mem_append.mp hx with hx | hx
          · exact hval x hx
          · rw [List.mem_singleton.mp hx]
            show (0 : Int) < _
            omega
        · exact smallD_not rfl
        · refine smallD_tup (by rw [List.length_reverse, hlen]; omega) fun x hx => hval x (List.mem_reverse.mp hx)
        · exact smallD_tup (by simp) fun x hx => absurd hx (List.not_mem_nil)
        · exact smallD_not rfl
        · refine smallD_tup (by rw [List.length_map, hlen]; omega) fun x hx => ?_
          obtain ⟨y, hy, rfl⟩ := List.mem_map.mp hx
          obtain ⟨t, ht, rfl⟩ := List.mem_map.mp hy
          have := hs t ht
          show 2 * t < _
          omega
        · refine smallD_tup (by rw [List.length_map, hlen]; omega) fun x hx => ?_
          obtain ⟨y, hy, rfl⟩ := List.mem_map.mp hx
          obtain ⟨t, ht, rfl⟩ := List.mem_map.mp hy
          have := hs t ht
          show t + 1 < _
          omega
theorem z__law_bent (ds : List D) (hp : Pool ds) (tss : List (List Int)) (hne : tss ≠ []) (hz : tss.length ≤ 200000) (ht : ∀ t ∈ tss, 1 ≤ t.length ∧ t.length ≤ 1000 ∧ Small t) (kind : Nat) (hk : kind < 27) {Q : Sl → Ev → Prop}
    (h : ∀ d ds, LenD d → Pool ds → Q (.frz d) [some (.inn ds), none, none]) : wpF fn__law_bent [.inn ds, .frz (.tuple (tss.map enT)), .frz (.int kind)] Q := by
  have hsz := size_big
  have hlen : (tss.map enT).length = tss.length := by simp
  have hpos : 0 < tss.length := List.length_pos_iff.mpr hne
  unfold fn__law_bent body__law_bent
  walk_at "ws"
  walk_at "st"
  walk_at "st"
  rw [hlen]
  refine z__law_draw ds hp tss.length hpos (by omega) (fun r ds hr hp => ?_)
  walk_at "ws"
  refine wS_seq.mpr ?_
  walk_at "ws"
  by_cases hk16 : kind < 16
  · have hk16' : (kind : Int) < 16 := by omega
    simp only [hk16', if_true]
    have hr2 := ht _ (tb_mem hr)
    exists tb_at hr, enT
    refine z__law_odd ds hp _ hr2.1 hr2.2.1 hr2.2.2 kind hk16 (fun d ds _ hp => ?_)
    walk_at "ws"
    refine z__law_put _ r d (by rw [List.length_map]; exact hr) (by rw [List.length_map]; omega) ?_
    walk_at "ws"
    exact h _ ds (lenD_tup (by rw [List.length_set, List.length_map]; omega)) hp
  · have hk16' : ¬ (kind : Int) < 16 := by omega
    simp only [hk16', if_false]
    have srev : stepD (.tuple (tss.map enT)) (.int (-1)) = some (.frz (.tuple (tss.map enT).reverse)) := rfl
    have cl : ∀ lo hi, (cutD (tss.map enT) lo hi).length ≤ tss.length := fun lo hi => by
      have := cut_len (xs := tss.map enT) (lo := lo) (hi := hi)
      rw [hlen] at this
      exact this
    have a1 := cl (some (-1)) none
    have a2 := cl none (some (r : Int))
    have a3 := cl (some ((r : Int) + 1)) none
    have a4 := cl (some (r : Int)) (some ((r : Int) + 1))
    have a5 := cl (some (r : Int)) none
    have a6 := cl none (some 1)
    have a7 := cl none (some (-1))
    have a8 := cl (some 1) none
    refine ⟨by rw [hlen]; omega, by omega, ?_⟩
    exists srev
    refine ⟨by omega, by rw [List.length_append]; omega, by omega, ?_⟩
    rw [show (kind : Int) - 16 = ((kind - 16 : Nat) : Int) by omega, atI_n]
    refine wpO_at (by show kind - 16 < 11; omega) fun d hm => ?_
    walk_at "ws"
    refine h d ds ?_ hp
    simp only [List.mem_cons, List.not_mem_nil, or_false] at hm
    rcases hm with rfl | rfl | rfl | rfl | rfl | rfl | rfl | rfl | rfl | rfl | rfl
    · exact lenD_tup (by omega)
    · exact lenD_tup (by omega)
    · exact lenD_tup (by rw [List.length_append, hlen]; omega)
    · exact lenD_tup (by rw [List.length_append]; omega)
    · exact lenD_tup (by rw [List.length_reverse, hlen]; omega)
    · exact lenD_not rfl
    · exact lenD_tup (by simp)
    · exact lenD_tup (by rw [List.length_append, List.length_append]; omega)
    · exact lenD_not rfl
    · exact lenD_tup (by simp)
    · exact lenD_tup (by rw [List.length_append]; omega)
theorem z__law_lowered (b : List Stn) (w : Wf b) (ds : List D) (hp : Pool ds) (tss : List (List Int)) (hne : tss ≠ []) (hz : tss.length ≤ 200000) (ht : ∀ t ∈ tss, t.length = b.length) {Q : Sl → Ev → Prop}
    (h : ∀ L ds, (∀ d ∈ L, LenD d) → L.length ≤ 6 → Pool ds → Q (.own L) [some (.inn ds), none, none]) : wpF fn__law_lowered [.inn ds, .frz (encB b), .frz (.tuple (tss.map enT))] Q := by
  have hsz := size_big
  have l1 := w.l1
  have hlen : (tss.map enT).length = tss.length := by simp
  have hpos : 0 < tss.length := List.length_pos_iff.mpr hne
  have hbl : lenD [encB b] = some (.frz (.int b.length)) := by
    show some (Sl.frz (.int ((b.map encS).length : Nat))) = _
    rw [List.length_map]
  have hbi : ∀ i : Nat, i < b.length → itemD (encB b) (.int i) = some (.tuple [.str (st b i).o.s, .int (st b i).ask, .tuple ((st b i).mv.map encM)]) := fun i hi => by
    show atI (b.map encS) i = _
    rw [atI_n, b_at hi]
    rfl
  unfold fn__law_lowered body__law_lowered
  walk_at "ws"
  walk_at "st"
  walk_at "st"
  refine qL_inv (fun i ev => ∃ (L : List D) (ds : List D), (∀ d ∈ L, LenD d) ∧ L.length ≤ 2 * i ∧ Pool ds ∧ ev = [some (.inn ds), some (.frz (encB b)), some (.frz (.tuple (tss.map enT))), some (.own L), none, none, none, none]) ⟨[], ds, fun d hd => absurd hd (List.not_mem_nil), by simp, hp, rfl⟩ (fun i d ev hd hP => ?_) (fun ev hP => ?_)
  · obtain ⟨L, ds, hL, hLl, hp, rfl⟩ := hP
    have ho : ∃ x : Str, d = .str x := by
      have := List.mem_of_getElem? hd
      simp only [List.mem_cons, List.not_mem_nil, or_false] at this
      rcases this with rfl | rfl | rfl <;> exact ⟨_, rfl⟩
    have hi3 : i < 3 := (List.getElem?_eq_some_iff.mp hd).1
    obtain ⟨ow, rfl⟩ := ho
    walk_at "ws"
    rw [hlen]
    refine z__law_draw ds hp tss.length hpos (by omega) (fun r ds hr hp => ?_)
    walk_at "ws"
    refine qL_inv (fun j ev => ∃ (L : List D) (ds : List D), (∀ d ∈ L, LenD d) ∧ L.length ≤ 2 * i + j ∧ Pool ds ∧ ev = [some (.inn ds), some (.frz (encB b)), some (.frz (.tuple (tss.map enT))), some (.own L), some (.frz (.str ow)), none, none, none]) ⟨L, ds, hL, hLl, hp, rfl⟩ (fun j d ev hd hP => ?_) (fun ev hP => ?_)
    · clear hL hLl hp
      obtain ⟨L, ds, hL, hLl, hp, rfl⟩ := hP
      have hk : ∃ k : Nat, k < tss.length ∧ d = .int k := by
        have := List.mem_of_getElem? hd
        simp only [List.mem_cons, List.not_mem_nil, or_false] at this
        rcases this with rfl | rfl
        · exact ⟨0, hpos, rfl⟩
        · exact ⟨r, hr, rfl⟩
      have hj2 : j < 2 := (List.getElem?_eq_some_iff.mp hd).1
      obtain ⟨k, hk, rfl⟩ := hk
      have htk := ht _ (tb_mem hk)
      walk_at "ws"
      refine wS_seq.mpr ?_
      exists hbl
      refine ⟨by omega, ?_⟩
      rw [Int.toNat_natCast, intsD_range]
      let pr : D → Bool := fun d => match d with
        | .int g => decide ((st b g.toNat).o.s = ow ∧ 0 < (((st b g.toNat).mv.map encM).length : Int) ∧ 0 < gt (tb tss k) g.toNat)
        | _ => false
      refine qC_pure pr (fun d => d) (by rw [enN_len, List.length_range]; omega) (fun g d hd => ?_) ?_
      · have hi := (List.getElem?_eq_some_iff.mp hd).1
        rw [enN_len, List.length_range] at hi
        rw [enN_at (by simpa using hi)] at hd
        simp only [List.getElem_range] at hd
        cases hd
        exists hbi g hi, tb_at hk, enT, tI_at (show g < (tb tss k).length by omega)
        have hpr : pr (.int (g : Int)) = decide ((st b g).o.s = ow ∧ 0 < (((st b g).mv.map encM).length : Int) ∧ 0 < gt (tb tss k) g) := rfl
        rw [hpr]
        by_cases e1 : (st b g).o.s = ow <;> by_cases e2 : 0 < (((st b g).mv.map encM).length : Int) <;> by_cases e3 : 0 < gt (tb tss k) g <;> simp only [e1, e2, e3, if_true, if_false, and_true, true_and, and_false, false_and, decide_true, decide_false, ite_self]
      · have hgs : ((enN (List.range b.length)).filter pr).map (fun d => d) = enN ((List.range b.length).filter fun g => pr (.int (g : Nat))) := by
          rw [List.map_id', enN, List.filter_map]
          rfl
        rw [hgs]
        have hps : ∀ g ∈ (List.range b.length).filter (fun g => pr (.int (g : Nat))), g < b.length := fun g hg => List.mem_range.mp (List.mem_filter.mp hg).1
        have hpl : ((List.range b.length).filter (fun g => pr (.int (g : Nat)))).length ≤ b.length := by
          have := List.length_filter_le (fun g => pr (.int (g : Nat))) (List.range b.length)
          rw [List.length_range] at this
          exact this
        generalize (List.range b.length).filter (fun g => pr (.int (g : Nat))) = ps at hps hpl
        walk_at "ws"
        rw [enN_len]
        by_cases h0 : 0 < ps.length
        · have h0' : (0 : Int) < (ps.length : Int) := by omega
          simp only [h0', if_true]
          refine wS_seq.mpr ?_
          exists enN_len
          refine z__law_draw ds hp ps.length h0 (by omega) (fun q ds hq hp => ?_)
          exists enN_at hq
          have hat := hps _ (List.getElem_mem hq)
          generalize ps[q] = at' at hat
          exists tb_at hk, enT, tI_at (show at' < (tb tss k).length by omega)
          refine z__law_put _ at' _ (by rw [List.length_map]; omega) (by rw [List.length_map]; omega) ?_
          walk_at "ws"
          refine z__law_put _ k _ (by rw [List.length_map]; exact hk) (by rw [List.length_map]; omega) ?_
          walk_at "ws"
          refine ⟨by omega, _, ds, ?_, ?_, hp, rfl, rfl⟩
          · intro d hd
            rcases List.mem_append.mp hd with hd | hd
            · exact hL d hd
            · rw [List.mem_singleton.mp hd]
              exact lenD_tup (by rw [List.length_set, List.length_map]; omega)
          · rw [List.length_append, List.length_singleton]
            omega
        · have h0' : ¬ (0 : Int) < (ps.length : Int) := by omega
          simp only [h0', if_false]
          exact ⟨L, ds, hL, by omega, hp, rfl, rfl⟩
    · obtain ⟨L, ds, hL, hLl, hp, rfl⟩ := hP
      walk_at "ws"
      exact ⟨L, ds, hL, by have : ([PyData.int 0, .int (r : Int)] : List D).length = 2 := rfl; omega, hp, rfl, rfl⟩
  · obtain ⟨L, ds, hL, hLl, hp, rfl⟩ := hP
    walk_at "ws"
    exact h L ds hL hLl hp
end Law
end
section
set_option Elab.async false
set_option linter.all false
set_option maxRecDepth 100000
set_option maxHeartbeats 4000000
namespace Law
open PySem PySem.Spec L2 MM
local macro_rules | `(tactic| walk_at "ws") => `(tactic| try simp only [↓reduceIte, wE_C, wB_none, wA_nil, wT_yes, wS_nil, wS_pass, wS_break, wS_cont, wS_retN, thenS_nx, thenS_rt, thenS_bk, thenS_ct, wS_pre, dropE, wG_set, wG_tup, wG_nil, rdV_frz, rdV_own, rdA_s, rdS_s, rdM_own, rdM_inn,
  seqQ_l, seqQ_t, zipQ_l, zipQ_t, wrQ_some, wpO_some, wpO_none, wpO_ite, ite_f, ite_t, ads, arNd, arSls, arSl, outsOf, outsOf_f, outsOf_n, List.tail_cons, back, backG, backAt, arAt, Sl.cont, wipeE, unwipe, frzAt, isa_bool,
  isa_int, isa_tuple, isa_str, isa_list, o_add_int, o_add_list, o_add_tup, o_add_str, o_sub, o_mul_int, o_mul_str, o_mul_tup, o_fdiv, o_mod, o_pow, o_eq_int, o_eq_str, o_eq_bool, o_ne_int, o_ne_str, o_lt, o_le, o_gt, o_ge,
  o_isN, o_isntN, o_none1, o_none2, o_none3, o_none4, o_len_l, o_len_t, o_max2, o_min2, o_int_i, o_int_b, o_tup_l, o_tup_t, o_lst_l, o_lst_t, o_sl_l, o_sl_t, o_item_l, o_item_t, atI_n, atI_0, atI_1, atI_2, atI_3, atI_4,
  atI_5, atI_m1, List.getElem?_cons_zero, List.getElem?_cons_succ, List.set_cons_zero, List.set_cons_succ, List.map_cons, List.map_nil, List.append_nil, List.nil_append, List.cons_append, List.replicate_succ,
  List.replicate_zero, Nat.sub_self, Nat.reduceSub, Nat.reduceAdd, Nat.reduceEqDiff, Option.map_some, Option.map_none, Option.bind_some, Option.getD_some, List.all_cons, List.all_nil, Bool.and_true, Bool.true_and, List.nodup_nil,
  List.nodup_cons, List.mem_nil_iff, List.not_mem_nil, not_false_eq_true, not_true_eq_false, List.length_cons, List.length_nil, Nat.zero_add, Bool.not_not, Bool.not_true, Bool.not_false, Bool.not_eq_true',
  decide_eq_false_iff_not, true_and, and_true, if_true, if_false, Bool.false_eq_true, reduceCtorEq, PyData.bool.injEq, PyData.int.injEq, PyData.tuple.injEq, PyData.list.injEq, Sl.own.injEq, Option.some.injEq,
  List.cons.injEq, exists_eq_left', exists_eq_left, decide_eq_true_eq, e_kR, e_kF, e_kVf, e_kVo, e_kMo, q_var, q_move, e_kB2, e_kB1, q_bin, q_bm, e_kNeg, q_neg, e_kNotV, q_notV, e_kAndV, q_andV, e_kOrV, q_orV, e_kIf, q_if,
  e_kIsi, q_isi, e_kIx3, e_kIx2, e_kIx1, q_ixN, e_kRd2_0, e_kRd2_1, e_kRd2_2, e_kRd2_3, e_kRd, q_rd1, e_kTN2, e_kTN, q_tupN, e_kLN2, e_kLN, q_lstN, e_kAp3, e_kAp2, e_kAp1, q_app, e_kPo3, e_kPo2, e_kPo1, e_kCB2, e_kCB,
  q_callB, e_kTp2, e_kTp, q_tup, e_kLs2, e_kLs, q_lst, e_kCa3, e_kCa2, e_kCa, q_call, e_kLc2, e_kLc, q_lc, e_kSl3, e_kSl2, e_kSl1, q_slice, e_kSn4, e_kSn3, e_kSn2, e_kSn1, q_slcN, e_kSt2, e_kSt1, q_step, e_kRp2, e_kRp1,
  q_rep, e_kLr, q_lstRg, e_kBs, q_bsome, e_kAc2, e_kAc1, q_acons, e_kAs2, e_kAs1, q_aslot, e_kTr2, e_kTru, q_tru, e_kTn, q_truN, e_kNot, q_not, e_kAnd, q_and, e_kOr, q_or, e_kTB, q_B, e_kDr, q_drop, e_kRet, q_ret, e_kSi,
  q_sif, e_kSet, q_set, e_kNx, e_kAsg, q_asg, e_kGc, q_gcons, e_kG2, q_T2, e_kSub3, e_kSub2, e_kSub1, e_kSub0, e_kSq2, e_kSeq, q_seq, e_kRg1, q_rng1, e_kRg2, q_rng2, e_kZip, q_zip, e_kFor, q_for, e_kFn_0, e_kFn_1, q_fn,
  e_kDp, q_drp, e_kTurn_0, e_kTurn_1, e_kTurn_2, e_kTurn_3, e_kBody, e_kFind, e_kCi3, e_kCi2, e_kCi1, e_kCp3, e_kCp2, e_kCp1, e_kWh2, e_kWh1, d_frz, d_own, d_inn, put_own, put_inn, isInn_n, isInn_f, isInn_o, tru_l, tru_t,
  tru_b, tru_i, tru_n, e_kI, q_item, put_own, put_inn, lz0, lz1, lz2, lz3, lz4, lz5, lz6, lz7, lz8, lz9, lz10, lz11, lz12, lz13, lz14, lz15, lz16, lz17, lz18, lz19, lz20, lz21, lz22, lz23, lz24, not_true_eq_false, decide_true, decide_false])
local macro_rules | `(tactic| walk_at "st") => `(tactic| (refine wS_seq.mpr ?_; walk_at "ws"))
local macro_rules | `(tactic| walk_at "sb") => `(tactic| (refine q_sub ?_; walk_at "ws"))
local macro_rules | `(tactic| exists $ts,*) => `(tactic| simp only [$[$ts:term],*, ↓reduceIte, wE_C, wB_none, wA_nil, wT_yes, wS_nil, wS_pass, wS_break, wS_cont, wS_retN, thenS_nx, thenS_rt, thenS_bk, thenS_ct, wS_pre, dropE, wG_set, wG_tup, wG_nil, rdV_frz, rdV_own, rdA_s, rdS_s, rdM_own, rdM_inn,
  seqQ_l, seqQ_t, zipQ_l, zipQ_t, wrQ_some, wpO_some, wpO_none, wpO_ite, ite_f, ite_t, ads, arNd, arSls, arSl, outsOf, outsOf_f, outsOf_n, List.tail_cons, back, backG, backAt, arAt, Sl.cont, wipeE, unwipe, frzAt, isa_bool,
  isa_int, isa_tuple, isa_str, isa_list, o_add_int, o_add_list, o_add_tup, o_add_str, o_sub, o_mul_int, o_mul_str, o_mul_tup, o_fdiv, o_mod, o_pow, o_eq_int, o_eq_str, o_eq_bool, o_ne_int, o_ne_str, o_lt, o_le, o_gt, o_ge,
  o_isN, o_isntN, o_none1, o_none2, o_none3, o_none4, o_len_l, o_len_t, o_max2, o_min2, o_int_i, o_int_b, o_tup_l, o_tup_t, o_lst_l, o_lst_t, o_sl_l, o_sl_t, o_item_l, o_item_t, atI_n, atI_0, atI_1, atI_2, atI_3, atI_4,
  atI_5, atI_m1, List.getElem?_cons_zero, List.getElem?_cons_succ, List.set_cons_zero, List.set_cons_succ, List.map_cons, List.map_nil, List.append_nil, List.nil_append, List.cons_append, List.replicate_succ,
  List.replicate_zero, Nat.sub_self, Nat.reduceSub, Nat.reduceAdd, Nat.reduceEqDiff, Option.map_some, Option.map_none, Option.bind_some, Option.getD_some, List.all_cons, List.all_nil, Bool.and_true, Bool.true_and, List.nodup_nil,
  List.nodup_cons, List.mem_nil_iff, List.not_mem_nil, not_false_eq_true, not_true_eq_false, List.length_cons, List.length_nil, Nat.zero_add, Bool.not_not, Bool.not_true, Bool.not_false, Bool.not_eq_true',
  decide_eq_false_iff_not, true_and, and_true, if_true, if_false, Bool.false_eq_true, reduceCtorEq, PyData.bool.injEq, PyData.int.injEq, PyData.tuple.injEq, PyData.list.injEq, Sl.own.injEq, Option.some.injEq,
  List.cons.injEq, exists_eq_left', exists_eq_left, decide_eq_true_eq, e_kR, e_kF, e_kVf, e_kVo, e_kMo, q_var, q_move, e_kB2, e_kB1, q_bin, q_bm, e_kNeg, q_neg, e_kNotV, q_notV, e_kAndV, q_andV, e_kOrV, q_orV, e_kIf, q_if,
  e_kIsi, q_isi, e_kIx3, e_kIx2, e_kIx1, q_ixN, e_kRd2_0, e_kRd2_1, e_kRd2_2, e_kRd2_3, e_kRd, q_rd1, e_kTN2, e_kTN, q_tupN, e_kLN2, e_kLN, q_lstN, e_kAp3, e_kAp2, e_kAp1, q_app, e_kPo3, e_kPo2, e_kPo1, e_kCB2, e_kCB,
  q_callB, e_kTp2, e_kTp, q_tup, e_kLs2, e_kLs, q_lst, e_kCa3, e_kCa2, e_kCa, q_call, e_kLc2, e_kLc, q_lc, e_kSl3, e_kSl2, e_kSl1, q_slice, e_kSn4, e_kSn3, e_kSn2, e_kSn1, q_slcN, e_kSt2, e_kSt1, q_step, e_kRp2, e_kRp1,
  q_rep, e_kLr, q_lstRg, e_kBs, q_bsome, e_kAc2, e_kAc1, q_acons, e_kAs2, e_kAs1, q_aslot, e_kTr2, e_kTru, q_tru, e_kTn, q_truN, e_kNot, q_not, e_kAnd, q_and, e_kOr, q_or, e_kTB, q_B, e_kDr, q_drop, e_kRet, q_ret, e_kSi,
  q_sif, e_kSet, q_set, e_kNx, e_kAsg, q_asg, e_kGc, q_gcons, e_kG2, q_T2, e_kSub3, e_kSub2, e_kSub1, e_kSub0, e_kSq2, e_kSeq, q_seq, e_kRg1, q_rng1, e_kRg2, q_rng2, e_kZip, q_zip, e_kFor, q_for, e_kFn_0, e_kFn_1, q_fn,
  e_kDp, q_drp, e_kTurn_0, e_kTurn_1, e_kTurn_2, e_kTurn_3, e_kBody, e_kFind, e_kCi3, e_kCi2, e_kCi1, e_kCp3, e_kCp2, e_kCp1, e_kWh2, e_kWh1, d_frz, d_own, d_inn, put_own, put_inn, isInn_n, isInn_f, isInn_o, tru_l, tru_t,
  tru_b, tru_i, tru_n, e_kI, q_item, put_own, put_inn, lz0, lz1, lz2, lz3, lz4, lz5, lz6, lz7, lz8, lz9, lz10, lz11, lz12, lz13, lz14, lz15, lz16, lz17, lz18, lz19, lz20, lz21, lz22, lz23, lz24, not_true_eq_false, decide_true, decide_false])
structure Gr (ns ns' : List Int) : Prop where
  l : ns'.length = 4
  g : ∀ i, i < 4 → gt ns i ≤ gt ns' i
theorem Gr.refl {ns : List Int} (h : ns.length = 4) : Gr ns ns := ⟨h, fun i _ => Int.le_refl _⟩
theorem Gr.trans {a b c : List Int} (h : Gr a b) (h' : Gr b c) : Gr a c := ⟨h'.l, fun i hi => Int.le_trans (h.g i hi) (h'.g i hi)⟩
theorem bump_gr {ns : List Int} (h : ns.length = 4) (i : Nat) : Gr ns (bump ns i) := by
  refine ⟨by simpa [bump] using h, fun j hj => ?_⟩
  by_cases hi : i < ns.length
  · unfold bump
    rw [gt_set hi]
    split
    · subst_vars
      omega
    · exact Int.le_refl _
  · have : bump ns i = ns := List.set_eq_of_length_le (by omega)
    rw [this]
    exact Int.le_refl _
theorem bump_at {ns : List Int} {i : Nat} (h : i < ns.length) : gt (bump ns i) i = gt ns i + 1 := by
  unfold bump
  rw [gt_set h, if_pos rfl]
structure Tss (b : List Stn) (tss : List (List Int)) : Prop where
  ne : tss ≠ []
  z : tss.length ≤ 200000
  t : ∀ t ∈ tss, t.length = b.length ∧ Small t
theorem TabsOk.tss {b : List Stn} (w : Wb b) {start : Nat} {load bound : Int} {rise : Nat} {tss : List (List Int)} (hb : 0 ≤ bound) (hb2 : bound ≤ 1000) (hr : rise ≤ 1000) (h : TabsOk b start load bound rise tss) : Tss b tss := ⟨h.ne, h.s, chain_small w hb hb2 hr h.c⟩
theorem TabsOk.fall {b : List Stn} (w : Wb b) {start : Nat} {load bound : Int} {tss : List (List Int)} (h : TabsOk b start load bound 0 tss) : fallB b start load bound tss = true := by
  have h1 : tss.isEmpty = false := by rw [← Bool.not_eq_true, List.isEmpty_iff]; exact h.ne
  simp only [fallB, h1, h.e, decide_true, Bool.not_false, Bool.true_and, Bool.or_eq_true]
  refine .inr (range_all_t fun k hk => range_all_t fun i hi => ?_)
  exact decide_eq_true ((h.c k hk).g i hi)
theorem Tss.tab {b : List Stn} {tss : List (List Int)} (h : Tss b tss) : (tss.map enT).all (isTab b.length) = true ∧ (tss.map enT).map tabI = tss := by
  constructor
  · refine List.all_eq_true.mpr fun d hd => ?_
    obtain ⟨t, ht, rfl⟩ := List.mem_map.mp hd
    exact isTab_tI (h.t t ht).1 fun x hx => ((h.t t ht).2 x hx).1
  · rw [List.map_map]
    exact (List.map_congr_left fun t _ => tabI_tI).trans (List.map_id tss)
theorem Tss.fallD {b : List Stn} {tss : List (List Int)} (h : Tss b tss) {start : Nat} {load bound : Int} : fallD b start load bound (.tuple (tss.map enT)) = fallB b start load bound tss := by
  simp only [Law.fallD, h.tab.1, h.tab.2, Bool.true_and]
theorem Tss.len {b : List Stn} {tss : List (List Int)} (h : Tss b tss) : LenD (.tuple (tss.map enT)) := lenD_tup (by rw [List.length_map]; have := h.z; omega)
noncomputable def scs1 : MS := mset 5 (mcall fn__law_falling (maCons (mvar 1) (maCons (mvar 3) (maNil))))
noncomputable def scs2 : MS := mset 6 (mbin addD (mixN 5 (mvar 2)) (mC (.int 1)))
noncomputable def scs3 : MS := mset 7 (mif (mtB (mbin leD (mvar 6) (mvar 3))) (mcall fn__law_tables (maSlot 0 (maCons (mvar 1) (maCons (mvar 2) (maCons (mvar 6) (maCons (mvar 3) (maCons (mC (.int 0)) (maNil)))))))) (mtup (maCons (mvar 5) (maNil))))
noncomputable def scs4 : MS := mset 8 (mif (mtB (mbin leD (mvar 6) (mvar 3))) (mcall fn__law_tables (maSlot 0 (maCons (mvar 1) (maCons (mvar 2) (maCons (mvar 6) (maCons (mvar 3) (maCons (mC (.int 3)) (maNil)))))))) (mtup (maCons (mbin mulD (mtup (maCons (mbin powD (mC (.int 10)) (mC (.int 50))) (maNil))) (mrd1 lenD 1)) (maNil))))
noncomputable def scs5 : MS := mset 9 (mbin addD (mlst (maCons (mvar 7) (maCons (mvar 8) (maCons (mslcN 7 (moNone) (moSome (mneg (mC (.int 1))))) (maNil))))) (mif (mtB (mbin leD (mvar 6) (mvar 3))) (mcall fn__law_lowered (maSlot 0 (maCons (mvar 1) (maCons (mvar 7) (maNil))))) (mlst (maCons (mtup (maNil)) (maNil)))))
noncomputable def scs6 : MS := mset 9 (mbin addD (mvar 9) (mlc (miRng1 (maCons (mC (.int 10)) (maNil))) (gset 12) (mtYes) (mcall fn__law_bent (maSlot 0 (maCons (mif (mtB (mbin eqSl (mbin modD (mvar 12) (mC (.int 2))) (mC (.int 1)))) (mvar 8) (mvar 7)) (maCons (mcall fn__law_draw (maSlot 0 (maCons (mC (.int 27)) (maNil)))) (maNil))))) [12]))
noncomputable def scs7 : MS := mpre [10] (mfor (miSeq (mvar 9)) (gset 10) (mdrp [10] (mifS (mtnot (mtru (mcall fn__law_asks (maCons (mvar 1) (maCons (mvar 2) (maCons (mvar 6) (maCons (mvar 3) (maCons (mvar 10) (maSlot 4 (maNil)))))))))) (mret (mC (.bool false))) (mnil))))
noncomputable def scs8 : MS := mpre [10, 11] (mfor (miSeq (mtup (maCons (mtup (maCons (mcallB maxD (maCons (mC (.int 1)) (maCons (mbin subD (mvar 6) (mC (.int 1))) (maNil)))) (maCons (mvar 3) (maNil)))) (maCons (mtup (maCons (mbin addD (mvar 6) (mC (.int 1))) (maCons (mvar 3) (maNil)))) (maCons (mtup (maCons (mvar 6) (maCons (mbin addD (mvar 3) (mC (.int 1))) (maNil)))) (maCons (mtup (maCons (mvar 6) (maCons (mcallB maxD (maCons (mC (.int 1)) (maCons (mbin subD (mvar 3) (mC (.int 1))) (maNil)))) (maNil)))) (maCons (mtup (maCons (mC (.int 1)) (maCons (mvar 3) (maNil)))) (maNil)))))))) (gset 11) (mdrp [10, 11] (mpre [10] (mfor (miSeq (mtup (maCons (mvar 7) (maCons (mvar 8) (maCons (mtup (maNil)) (maNil)))))) (gset 10) (mdrp [10] (mifS (mtnot (mtru (mcall fn__law_asks (maCons (mvar 1) (maCons (mvar 2) (maCons (mixN 11 (mC (.int 0))) (maCons (mixN 11 (mC (.int 1))) (maCons (mvar 10) (maSlot 4 (maNil)))))))))) (mret (mC (.bool false))) (mnil)))))))
noncomputable def scs9 : MS := mset 9 (mlst (maCons (mvar 5) (maCons (mbin mulD (mtup (maCons (mC (.int 0)) (maNil))) (mrd1 lenD 1)) (maCons (mcallB tupD (maCons (mlc (miSeq (mvar 5)) (gset 13) (mtYes) (mbin mulD (mC (.int 7)) (mvar 13)) [13]) (maNil))) (maCons (mixN 7 (mC (.int 0))) (maNil))))))
noncomputable def scs10 : MS := mset 9 (mbin addD (mvar 9) (mlc (miRng1 (maCons (mC (.int 8)) (maNil))) (gset 12) (mtYes) (mcall fn__law_odd (maSlot 0 (maCons (mvar 5) (maCons (mcall fn__law_draw (maSlot 0 (maCons (mC (.int 16)) (maNil)))) (maNil))))) [12]))
noncomputable def scs11 : MS := mpre [10] (mfor (miSeq (mvar 9)) (gset 10) (mdrp [10] (mifS (mtnot (mtru (mcall fn__law_says (maCons (mcall fn_is_closed (maCons (mvar 1) (maCons (mvar 10) (maNil)))) (maCons (mcall fn__law_is_closed (maCons (mvar 1) (maCons (mvar 10) (maNil)))) (maSlot 4 (maCons (mC (.int 2)) (maNil)))))))) (mret (mC (.bool false))) (mnil))))
noncomputable def scs12 : MS := mret (mC (.bool true))
noncomputable def scr12 : MS := scs12
noncomputable def scr11 : MS := mseq scs11 scr12
noncomputable def scr10 : MS := mseq scs10 scr11
noncomputable def scr9 : MS := mseq scs9 scr10
noncomputable def scr8 : MS := mseq scs8 scr9
noncomputable def scr7 : MS := mseq scs7 scr8
noncomputable def scr6 : MS := mseq scs6 scr7
noncomputable def scr5 : MS := mseq scs5 scr6
noncomputable def scr4 : MS := mseq scs4 scr5
noncomputable def scr3 : MS := mseq scs3 scr4
noncomputable def scr2 : MS := mseq scs2 scr3
noncomputable def scr1 : MS := mseq scs1 scr2
theorem sc_eq : body__law_scene = scr1 := rfl
theorem z__law_scene (b : List Stn) (w : Wb b) (ds : List D) (hp : Pool ds) (start : Nat) (hst : start < b.length) (bound : Int) (hb1 : 1 ≤ bound) (hb2 : bound ≤ 1000) (ns : List Int) (hns : ns.length = 4) {Q : Sl → Ev → Prop}
    (h : ∀ ns' ds, Gr ns ns' → gt ns 0 + 1 ≤ gt ns' 0 → gt ns 1 + 1 ≤ gt ns' 1 → Pool ds → Q (.frz (.bool true)) [some (.inn ds), none, none, none, some (.inn (tI ns'))]) : wpF fn__law_scene [.inn ds, .frz (encB b), .frz (.int start), .frz (.int bound), .inn (tI ns)] Q := by
  have hsz := size_big
  have l1 := w.l1
  have l2 := w.l2
  have hb0 : 0 ≤ bound := by omega
  have hbl : lenD [encB b] = some (.frz (.int b.length)) := by
    show some (Sl.frz (.int ((b.map encS).length : Nat))) = _
    rw [List.length_map]
  generalize hds0 : ds = ds0 at hp
  clear hds0
  have r11 : ∀ (ns' : List Int) (ds : List D) (c l x7 x8 : D) (L : List D), Pool ds → Gr ns ns' → gt ns 0 + 1 ≤ gt ns' 0 → gt ns 1 + 1 ≤ gt ns' 1 → (∀ d ∈ L, SmallD d) → wpS scr11 [some (.inn ds), some (.frz (encB b)), some (.frz (.int start)), some (.frz (.int bound)), some (.inn (tI ns')), some (.frz c), some (.frz l), some (.frz x7), some (.frz x8), some (.own L), none, none, none, none] (kFn [.inn ds0, .frz (encB b), .frz (.int start), .frz (.int bound), .inn (tI ns)] Q) := by
    intro ns' ds c l x7 x8 L hp hg h0 h1 hL
    unfold scr11 scs11
    walk_at "st"
    refine qL_inv (fun i ev => ∃ ns2, Gr ns' ns2 ∧ ev = [some (.inn ds), some (.frz (encB b)), some (.frz (.int start)), some (.frz (.int bound)), some (.inn (tI ns2)), some (.frz c), some (.frz l), some (.frz x7), some (.frz x8), some (.frz (.list L)), none, none, none, none]) ⟨ns', Gr.refl hg.l, rfl⟩ (fun i d ev hd hP => ?_) (fun ev hP => ?_)
    · obtain ⟨ns2, hg2, rfl⟩ := hP
      have hd := hL d (List.mem_of_getElem? hd)
      walk_at "ws"
      refine z_is_closed b w.toWf d ?_
      walk_at "ws"
      refine z__law_is_closed b w.toWf d hd.2 ?_
      walk_at "ws"
      refine z__law_says _ ns2 2 (by rw [hg2.l]; decide) ?_
      walk_at "ws"
      exact ⟨_, hg2.trans (bump_gr hg2.l _), rfl⟩
    · obtain ⟨ns2, hg2, rfl⟩ := hP
      unfold scr12 scs12
      walk_at "ws"
      exact h ns2 ds (hg.trans hg2) (Int.le_trans h0 (hg2.g 0 (by decide))) (Int.le_trans h1 (hg2.g 1 (by decide))) hp
  have r9 : ∀ (ns' : List Int) (ds : List D) (cs : List Int) (tss : List (List Int)) (l x8 x9 : D), Pool ds → Gr ns ns' → gt ns 0 + 1 ≤ gt ns' 0 → gt ns 1 + 1 ≤ gt ns' 1 → cs.length = b.length → Small cs → Tss b tss → wpS scr9 [some (.inn ds), some (.frz (encB b)), some (.frz (.int start)), some (.frz (.int bound)), some (.inn (tI ns')), some (.frz (.tuple (tI cs))), some (.frz l), some (.frz (.tuple (tss.map enT))), some (.frz x8), some (.frz x9), none, none, none, none] (kFn [.inn ds0, .frz (encB b), .frz (.int start), .frz (.int bound), .inn (tI ns)] Q) := by
    intro ns' ds cs tss l x8 x9 hp hg h0 h1 hcl hcs hts
    have hpos : 0 < tss.length := List.length_pos_iff.mpr hts.ne
    have ht0 := hts.t _ (tb_mem hpos)
    have hcl' : (tI cs).length = b.length := by simpa using hcl
    unfold scr9 scs9
    refine wS_seq.mpr ?_
    exists hbl
    refine ⟨⟨by decide, by omega, by omega, by decide⟩, ?_⟩
    refine qC_pure (fun _ => true) (fun d => .int (7 * valI d)) (by rw [hcl']; omega) (fun j d hd => ?_) ?_
    · obtain ⟨t, ht, rfl⟩ := List.mem_map.mp (List.mem_of_getElem? hd)
      have := hcs t ht
      walk_at "ws"
      refine ⟨logm (by decide) (by omega), ?_⟩
      rfl
    · rw [List.filter_eq_self.mpr (fun _ _ => rfl)]
      exists tb_at hpos
      unfold scr10 scs10
      refine wS_seq.mpr ?_
      walk_at "ws"
      refine ⟨by decide, ?_⟩
      refine qC_inv (fun i acc ev => ∃ (ds : List D), (∀ d ∈ acc, SmallD d) ∧ acc.length = i ∧ Pool ds ∧ ev = [some (.inn ds), some (.frz (encB b)), some (.frz (.int start)), some (.frz (.int bound)), some (.inn (tI ns')), some (.frz (.tuple (tI cs))), some (.frz l), some (.frz (.tuple (tss.map enT))), some (.frz x8), some (.frz (.list [.tuple (tI cs), .tuple (List.replicate (b.length : Int).toNat [PyData.int 0]).flatten, .tuple ((tI cs).map fun d => .int (7 * valI d)), enT (tb tss 0)])), none, none, none, none]) ⟨ds, fun d hd => absurd hd (List.not_mem_nil), rfl, hp, rfl⟩ (fun j d acc ev hd hP => ?_) (fun acc ev hP => ?_)
      · obtain ⟨ds, ha, rfl, hp, rfl⟩ := hP
        have hj := (List.getElem?_eq_some_iff.mp hd).1
        rw [intsD_len] at hj
        have hj : acc.length < 8 := hj
        walk_at "ws"
        refine z__law_draw ds hp 16 (by decide) (by decide) (fun r ds hr hp => ?_)
        walk_at "ws"
        refine z__law_odd ds hp cs (by omega) (by omega) hcs r hr (fun d ds hd hp => ?_)
        walk_at "ws"
        refine ⟨by omega, ds, ?_, by simp, hp, rfl⟩
        intro x hx
        rcases List.mem_append.mp hx with hx | hx
        · exact ha x hx
        · rw [List.mem_singleton.mp hx]
          exact hd
      · obtain ⟨ds, ha, hal, hp, rfl⟩ := hP
        rw [intsD_len] at hal
        have hal : acc.length = 8 := hal
        walk_at "ws"
        refine ⟨by omega, ?_⟩
        refine r11 ns' ds _ _ _ _ _ hp hg h0 h1 fun d hd => ?_
        have b1 := big1000
        have tab : ∀ ts : List Int, ts.length = b.length → Small ts → SmallD (.tuple (tI ts)) := fun ts hl hs => smallD_tup (by rw [List.length_map]; omega) fun x hx => by
          obtain ⟨t, ht, rfl⟩ := List.mem_map.mp hx
          have := hs t ht
          show t < _
          omega
        simp only [List.mem_cons] at hd
        rcases hd with rfl | rfl | rfl | rfl | hd
        · exact tab cs hcl hcs
        · rw [rep_one, Int.toNat_natCast]
          refine smallD_tup (by rw [List.length_replicate]; omega) fun x hx => ?_
          rw [List.eq_of_mem_replicate hx]
          show (0 : Int) < _
          omega
        · refine smallD_tup (by rw [List.length_map, hcl']; omega) fun x hx => ?_
          obtain ⟨y, hy, rfl⟩ := List.mem_map.mp hx
          obtain ⟨t, ht, rfl⟩ := List.mem_map.mp hy
          have := hcs t ht
          have b3 : (2 : Int) ^ 190 * 7 < 2 ^ 1000 := by decide
          show 7 * t < _
          omega
        · exact tab _ ht0.1 ht0.2
        · exact ha d hd
  have r7 : ∀ (ds : List D) (cs : List Int) (tss wss : List (List Int)) (load : Int) (L : List D), Pool ds → cs.length = b.length → Small cs → Tss b tss → Tss b wss → 1 ≤ load → load ≤ bound + 1 → fallB b start load bound tss = true → (∀ d ∈ L, LenD d) → L[0]? = some (.tuple (tss.map enT)) → wpS scr7 [some (.inn ds), some (.frz (encB b)), some (.frz (.int start)), some (.frz (.int bound)), some (.inn (tI ns)), some (.frz (.tuple (tI cs))), some (.frz (.int load)), some (.frz (.tuple (tss.map enT))), some (.frz (.tuple (wss.map enT))), some (.own L), none, none, none, none] (kFn [.inn ds0, .frz (encB b), .frz (.int start), .frz (.int bound), .inn (tI ns)] Q) := by
    intro ds cs tss wss load L hp hcl hcs hts hws hl1 hl2 hfb hL hL0
    unfold scr7 scs7
    walk_at "st"
    refine qL_inv (fun i ev => ∃ ns2, Gr ns ns2 ∧ (0 < i → gt ns 1 + 1 ≤ gt ns2 1) ∧ ev = [some (.inn ds), some (.frz (encB b)), some (.frz (.int start)), some (.frz (.int bound)), some (.inn (tI ns2)), some (.frz (.tuple (tI cs))), some (.frz (.int load)), some (.frz (.tuple (tss.map enT))), some (.frz (.tuple (wss.map enT))), some (.frz (.list L)), none, none, none, none]) ⟨ns, Gr.refl hns, fun h => absurd h (Nat.lt_irrefl 0), rfl⟩ (fun i d ev hd hP => ?_) (fun ev hP => ?_)
    · obtain ⟨ns2, hg2, h2, rfl⟩ := hP
      have hd' := hL d (List.mem_of_getElem? hd)
      walk_at "ws"
      refine z__law_asks b w.toWf start hst load bound d hd' ns2 hg2.l ?_
      walk_at "ws"
      refine ⟨_, hg2.trans (bump_gr hg2.l _), fun _ => ?_, rfl⟩
      by_cases hi : i = 0
      · subst hi
        rw [hL0] at hd
        cases hd
        rw [hts.fallD, hfb]
        show _ ≤ gt (bump ns2 1) 1
        rw [bump_at (by rw [hg2.l]; decide)]
        have := hg2.g 1 (by decide)
        omega
      · have := h2 (by omega)
        have := (bump_gr hg2.l (fallD b start load bound d).toNat).g 1 (by decide)
        omega
    · obtain ⟨ns2, hg2, h2, rfl⟩ := hP
      have h2 := h2 (List.length_pos_of_mem (List.mem_of_getElem? hL0))
      unfold scr8 scs8
      walk_at "ws"
      walk_at "st"
      refine qL_inv (fun i ev => ∃ ns2, Gr ns ns2 ∧ gt ns 1 + 1 ≤ gt ns2 1 ∧ (0 < i → gt ns 0 + 1 ≤ gt ns2 0) ∧ ev = [some (.inn ds), some (.frz (encB b)), some (.frz (.int start)), some (.frz (.int bound)), some (.inn (tI ns2)), some (.frz (.tuple (tI cs))), some (.frz (.int load)), some (.frz (.tuple (tss.map enT))), some (.frz (.tuple (wss.map enT))), some (.frz (.list L)), none, none, none, none]) ⟨ns2, hg2, h2, fun h => absurd h (Nat.lt_irrefl 0), rfl⟩ (fun i d ev hd hP => ?_) (fun ev hP => ?_)
      · clear hg2 h2
        obtain ⟨ns2, hg2, h2, h3, rfl⟩ := hP
        have hpair : ∃ l' b' : Int, d = .tuple [.int l', .int b'] ∧ (i = 0 → ¬ b' < l') := by
          match i, hd with
          | 0, hd => cases hd; exact ⟨_, _, rfl, fun _ => by omega⟩
          | 1, hd => cases hd; exact ⟨_, _, rfl, fun h => by cases h⟩
          | 2, hd => cases hd; exact ⟨_, _, rfl, fun h => by cases h⟩
          | 3, hd => cases hd; exact ⟨_, _, rfl, fun h => by cases h⟩
          | 4, hd => cases hd; exact ⟨_, _, rfl, fun h => by cases h⟩
          | i + 5, hd => cases hd
        obtain ⟨l', b', rfl, hlb⟩ := hpair
        walk_at "ws"
        refine qL_inv (fun j ev => ∃ ns2, Gr ns ns2 ∧ gt ns 1 + 1 ≤ gt ns2 1 ∧ (0 < i → gt ns 0 + 1 ≤ gt ns2 0) ∧ (i = 0 → 3 ≤ j → gt ns 0 + 1 ≤ gt ns2 0) ∧ ev = [some (.inn ds), some (.frz (encB b)), some (.frz (.int start)), some (.frz (.int bound)), some (.inn (tI ns2)), some (.frz (.tuple (tI cs))), some (.frz (.int load)), some (.frz (.tuple (tss.map enT))), some (.frz (.tuple (wss.map enT))), some (.frz (.list L)), none, some (.frz (.tuple [.int l', .int b'])), none, none]) ⟨ns2, hg2, h2, h3, fun _ h => absurd h (by decide), rfl⟩ (fun j d ev hd hP => ?_) (fun ev hP => ?_)
        · clear hg2 h2 h3
          obtain ⟨ns2, hg2, h2, h3, h4, rfl⟩ := hP
          have hj : j < 3 := (List.getElem?_eq_some_iff.mp hd).1
          have hd' : LenD d := by
            have := List.mem_of_getElem? hd
            simp only [List.mem_cons, List.not_mem_nil, or_false] at this
            rcases this with rfl | rfl | rfl
            · exact hts.len
            · exact hws.len
            · exact lenD_tup (by simp)
          walk_at "ws"
          refine z__law_asks b w.toWf start hst l' b' d hd' ns2 hg2.l ?_
          walk_at "ws"
          have gr := bump_gr hg2.l (Law.fallD b start l' b' d).toNat
          refine ⟨_, hg2.trans gr, Int.le_trans h2 (gr.g 1 (by decide)), fun hi => Int.le_trans (h3 hi) (gr.g 0 (by decide)), fun hi0 hj3 => ?_, rfl⟩
          have hj2 : j = 2 := by omega
          subst hj2
          cases hd
          have hnl := hlb hi0
          have : Law.fallD b start l' b' (.tuple []) = false := by simp [Law.fallD, fallB, hnl]
          rw [this]
          show _ ≤ gt (bump ns2 0) 0
          rw [bump_at (by rw [hg2.l]; decide)]
          have := hg2.g 0 (by decide)
          omega
        · obtain ⟨ns2, hg2, h2, h3, h4, rfl⟩ := hP
          walk_at "ws"
          refine ⟨ns2, hg2, h2, fun _ => ?_, rfl⟩
          by_cases hi : i = 0
          · exact h4 hi (Nat.le_refl _)
          · exact h3 (by omega)
      · obtain ⟨ns2, hg2, h2, h3, rfl⟩ := hP
        have h3 := h3 (by show 0 < 5; decide)
        walk_at "ws"
        exact r9 ns2 ds cs tss _ _ _ hp hg2 h3 h2 hcl hcs hts
  have r6 : ∀ (ds : List D) (cs : List Int) (tss wss : List (List Int)) (load : Int) (L : List D), Pool ds → cs.length = b.length → Small cs → Tss b tss → Tss b wss → 1 ≤ load → load ≤ bound + 1 → fallB b start load bound tss = true → (∀ d ∈ L, LenD d) → L[0]? = some (.tuple (tss.map enT)) → L.length ≤ 20 → wpS scr6 [some (.inn ds), some (.frz (encB b)), some (.frz (.int start)), some (.frz (.int bound)), some (.inn (tI ns)), some (.frz (.tuple (tI cs))), some (.frz (.int load)), some (.frz (.tuple (tss.map enT))), some (.frz (.tuple (wss.map enT))), some (.own L), none, none, none, none] (kFn [.inn ds0, .frz (encB b), .frz (.int start), .frz (.int bound), .inn (tI ns)] Q) := by
    intro ds cs tss wss load L hp hcl hcs hts hws hl1 hl2 hfb hL hL0 hLl
    have tok : ∀ t : List (List Int), Tss b t → ∀ x ∈ t, 1 ≤ x.length ∧ x.length ≤ 1000 ∧ Small x := fun t ht x hx => by
      obtain ⟨a1, a2⟩ := ht.t x hx
      exact ⟨by omega, by omega, a2⟩
    unfold scr6 scs6
    refine wS_seq.mpr ?_
    walk_at "ws"
    refine ⟨by decide, ?_⟩
    refine qC_inv (fun i acc ev => ∃ (ds : List D), (∀ d ∈ acc, LenD d) ∧ acc.length = i ∧ Pool ds ∧ ev = [some (.inn ds), some (.frz (encB b)), some (.frz (.int start)), some (.frz (.int bound)), some (.inn (tI ns)), some (.frz (.tuple (tI cs))), some (.frz (.int load)), some (.frz (.tuple (tss.map enT))), some (.frz (.tuple (wss.map enT))), some (.frz (.list L)), none, none, none, none]) ⟨ds, fun d hd => absurd hd (List.not_mem_nil), rfl, hp, rfl⟩ (fun j d acc ev hd hP => ?_) (fun acc ev hP => ?_)
    · obtain ⟨ds, ha, rfl, hp, rfl⟩ := hP
      have hj := (List.getElem?_eq_some_iff.mp hd).1
      rw [intsD_len] at hj
      have hj : acc.length < 10 := hj
      obtain ⟨_, rfl⟩ := intsD_at hd
      have fin : ∀ (d : D) (ds : List D), LenD d → Pool ds → acc.length < sizeLine ∧ ∃ ds' : List D, (∀ x ∈ acc ++ [d], LenD x) ∧ (acc ++ [d]).length = acc.length + 1 ∧ Pool ds' ∧ Sl.inn ds = Sl.inn ds' := fun d ds hd hp => by
        refine ⟨by omega, ds, fun x hx => ?_, by simp, hp, rfl⟩
        rcases List.mem_append.mp hx with hx | hx
        · exact ha x hx
        · rw [List.mem_singleton.mp hx]
          exact hd
      walk_at "ws"
      refine ⟨by decide, ?_⟩
      split
      · refine z__law_draw ds hp 27 (by decide) (by decide) (fun r ds hr hp => ?_)
        walk_at "ws"
        refine z__law_bent ds hp wss hws.ne hws.z (tok wss hws) r hr (fun d ds hd hp => ?_)
        walk_at "ws"
        exact fin d ds hd hp
      · refine z__law_draw ds hp 27 (by decide) (by decide) (fun r ds hr hp => ?_)
        walk_at "ws"
        refine z__law_bent ds hp tss hts.ne hts.z (tok tss hts) r hr (fun d ds hd hp => ?_)
        walk_at "ws"
        exact fin d ds hd hp
    · obtain ⟨ds, ha, hal, hp, rfl⟩ := hP
      rw [intsD_len] at hal
      have hal : acc.length = 10 := hal
      walk_at "ws"
      refine ⟨by omega, ?_⟩
      refine r7 ds cs tss wss load (L ++ acc) hp hcl hcs hts hws hl1 hl2 hfb (fun d hd => ?_) ?_
      · rcases List.mem_append.mp hd with hd | hd
        · exact hL d hd
        · exact ha d hd
      · rw [List.getElem?_append_left (List.length_pos_of_mem (List.mem_of_getElem? hL0))]
        exact hL0
  have r5 : ∀ (ds : List D) (cs : List Int) (tss wss : List (List Int)) (load : Int), Pool ds → cs.length = b.length → Small cs → Tss b tss → Tss b wss → 1 ≤ load → load ≤ bound + 1 → fallB b start load bound tss = true → wpS scr5 [some (.inn ds), some (.frz (encB b)), some (.frz (.int start)), some (.frz (.int bound)), some (.inn (tI ns)), some (.frz (.tuple (tI cs))), some (.frz (.int load)), some (.frz (.tuple (tss.map enT))), some (.frz (.tuple (wss.map enT))), none, none, none, none, none] (kFn [.inn ds0, .frz (encB b), .frz (.int start), .frz (.int bound), .inn (tI ns)] Q) := by
    intro ds cs tss wss load hp hcl hcs hts hws hl1 hl2 hfb
    have l3 : ∀ d ∈ ([PyData.tuple (tss.map enT), .tuple (wss.map enT), .tuple (cutD (tss.map enT) none (some (-1)))] : List D), LenD d := fun d hd => by
      simp only [List.mem_cons, List.not_mem_nil, or_false] at hd
      rcases hd with rfl | rfl | rfl
      · exact hts.len
      · exact hws.len
      · refine lenD_tup ?_
        have := cut_len (xs := tss.map enT) (lo := none) (hi := some (-1))
        rw [List.length_map] at this
        have := hts.z
        omega
    unfold scr5 scs5
    refine wS_seq.mpr ?_
    walk_at "ws"
    by_cases hle : load ≤ bound
    · simp only [hle, if_true]
      refine z__law_lowered b w.toWf ds hp tss hts.ne hts.z (fun t ht => (hts.t t ht).1) (fun L ds hL hLl hp => ?_)
      walk_at "ws"
      refine ⟨by omega, ?_⟩
      refine r6 ds cs tss wss load _ hp hcl hcs hts hws hl1 hl2 hfb (fun d hd => ?_) rfl (by simp only [List.length_cons]; omega)
      simp only [List.mem_cons] at hd
      rcases hd with h | h | h | hd
      · exact l3 d (by simp [h])
      · exact l3 d (by simp [h])
      · exact l3 d (by simp [h])
      · exact hL d hd
    · simp only [hle, if_false]
      refine r6 ds cs tss wss load _ hp hcl hcs hts hws hl1 hl2 hfb (fun d hd => ?_) rfl (by simp)
      simp only [List.mem_cons, List.not_mem_nil, or_false] at hd
      rcases hd with h | h | h | h
      · exact l3 d (by simp [h])
      · exact l3 d (by simp [h])
      · exact l3 d (by simp [h])
      · rw [h]
        exact lenD_tup (by simp)
  unfold fn__law_scene
  rw [sc_eq]
  walk_at "ws"
  unfold scr1 scs1
  refine wS_seq.mpr ?_
  walk_at "ws"
  refine z__law_falling b w.toWf bound hb0 (fun cs hc => ?_)
  walk_at "ws"
  unfold scr2 scs2
  refine wS_seq.mpr ?_
  have hcl := hc.l
  exists enT, tI_at (show start < cs.length by omega)
  have hload : gt cs start < gt cs start + 1 := by omega
  have hlo := hc.lo start hst
  have hhi := hc.hi start hst
  have hcsm : Small cs := small_of hcl hc.lo fun i hi => by have := hc.hi i hi; omega
  have hl1 : 1 ≤ gt cs start + 1 := by omega
  have hl2 : gt cs start + 1 ≤ bound + 1 := by omega
  generalize gt cs start + 1 = load at hload hl1 hl2
  unfold scr3 scs3
  refine wS_seq.mpr ?_
  walk_at "ws"
  by_cases hle : load ≤ bound
  · simp only [hle, if_true]
    refine z__law_tables b w ds0 hp start hst load bound hb0 hb2 cs hc hload 0 (by decide) (fun tss ds ht hp => ?_)
    walk_at "ws"
    unfold scr4 scs4
    refine wS_seq.mpr ?_
    walk_at "ws"
    simp only [hle, if_true]
    refine z__law_tables b w ds hp start hst load bound hb0 hb2 cs hc hload 3 (by decide) (fun wss ds hw hp => ?_)
    walk_at "ws"
    exact r5 ds cs tss wss load hp hcl hcsm (ht.tss w hb0 hb2 (by decide)) (hw.tss w hb0 hb2 (by decide)) hl1 hl2 (ht.fall w)
  · simp only [hle, if_false]
    unfold scr4 scs4
    refine wS_seq.mpr ?_
    walk_at "ws"
    simp only [hle, if_false]
    exists hbl
    refine ⟨⟨by decide, by decide, by decide⟩, ⟨by decide, by omega, by omega, by decide⟩, ?_⟩
    rw [rep_one, Int.toNat_natCast]
    have e1 : ([PyData.tuple (tI cs)] : List D) = [cs].map enT := rfl
    have e2 : ([PyData.tuple (List.replicate b.length (.int (10 ^ Int.toNat 50)))] : List D) = [List.replicate b.length (10 ^ Int.toNat 50)].map enT := by simp [enT, tI]
    rw [e1, e2]
    have c50 : (0 : Int) ≤ 10 ^ Int.toNat 50 ∧ (10 : Int) ^ Int.toNat 50 < 2 ^ 190 := by decide
    refine r5 ds0 cs [cs] [List.replicate b.length (10 ^ Int.toNat 50)] load hp hcl hcsm ⟨by simp, by simp, fun t ht => ?_⟩ ⟨by simp, by simp, fun t ht => ?_⟩ hl1 hl2 ?_
    · rw [List.mem_singleton.mp ht]
      exact ⟨hcl, hcsm⟩
    · rw [List.mem_singleton.mp ht]
      refine ⟨by simp, fun x hx => ?_⟩
      rw [List.eq_of_mem_replicate hx]
      exact c50
    · have : bound < load := by omega
      simp [fallB, this]
end Law
end
section
set_option Elab.async false
set_option linter.all false
set_option maxRecDepth 100000
set_option maxHeartbeats 4000000
namespace Law
open PySem PySem.Spec L2 MM
local macro_rules | `(tactic| walk_at "ws") => `(tactic| try simp only [↓reduceIte, wE_C, wB_none, wA_nil, wT_yes, wS_nil, wS_pass, wS_break, wS_cont, wS_retN, thenS_nx, thenS_rt, thenS_bk, thenS_ct, wS_pre, dropE, wG_set, wG_tup, wG_nil, rdV_frz, rdV_own, rdA_s, rdS_s, rdM_own, rdM_inn,
  seqQ_l, seqQ_t, zipQ_l, zipQ_t, wrQ_some, wpO_some, wpO_none, wpO_ite, ite_f, ite_t, ads, arNd, arSls, arSl, outsOf, outsOf_f, outsOf_n, List.tail_cons, back, backG, backAt, arAt, Sl.cont, wipeE, unwipe, frzAt, isa_bool,
  isa_int, isa_tuple, isa_str, isa_list, o_add_int, o_add_list, o_add_tup, o_add_str, o_sub, o_mul_int, o_mul_str, o_mul_tup, o_fdiv, o_mod, o_pow, o_eq_int, o_eq_str, o_eq_bool, o_ne_int, o_ne_str, o_lt, o_le, o_gt, o_ge,
  o_isN, o_isntN, o_none1, o_none2, o_none3, o_none4, o_len_l, o_len_t, o_max2, o_min2, o_int_i, o_int_b, o_tup_l, o_tup_t, o_lst_l, o_lst_t, o_sl_l, o_sl_t, o_item_l, o_item_t, atI_n, atI_0, atI_1, atI_2, atI_3, atI_4,
  atI_5, atI_m1, List.getElem?_cons_zero, List.getElem?_cons_succ, List.set_cons_zero, List.set_cons_succ, List.map_cons, List.map_nil, List.append_nil, List.nil_append, List.cons_append, List.replicate_succ,
  List.replicate_zero, Nat.sub_self, Nat.reduceSub, Nat.reduceAdd, Nat.reduceEqDiff, Option.map_some, Option.map_none, Option.bind_some, Option.getD_some, List.all_cons, List.all_nil, Bool.and_true, Bool.true_and, List.nodup_nil,
  List.nodup_cons, List.mem_nil_iff, List.not_mem_nil, not_false_eq_true, not_true_eq_false, List.length_cons, List.length_nil, Nat.zero_add, Bool.not_not, Bool.not_true, Bool.not_false, Bool.not_eq_true',
  decide_eq_false_iff_not, true_and, and_true, if_true, if_false, Bool.false_eq_true, reduceCtorEq, PyData.bool.injEq, PyData.int.injEq, PyData.tuple.injEq, PyData.list.injEq, Sl.own.injEq, Option.some.injEq,
  List.cons.injEq, exists_eq_left', exists_eq_left, decide_eq_true_eq, e_kR, e_kF, e_kVf, e_kVo, e_kMo, q_var, q_move, e_kB2, e_kB1, q_bin, q_bm, e_kNeg, q_neg, e_kNotV, q_notV, e_kAndV, q_andV, e_kOrV, q_orV, e_kIf, q_if,
  e_kIsi, q_isi, e_kIx3, e_kIx2, e_kIx1, q_ixN, e_kRd2_0, e_kRd2_1, e_kRd2_2, e_kRd2_3, e_kRd, q_rd1, e_kTN2, e_kTN, q_tupN, e_kLN2, e_kLN, q_lstN, e_kAp3, e_kAp2, e_kAp1, q_app, e_kPo3, e_kPo2, e_kPo1, e_kCB2, e_kCB,
  q_callB, e_kTp2, e_kTp, q_tup, e_kLs2, e_kLs, q_lst, e_kCa3, e_kCa2, e_kCa, q_call, e_kLc2, e_kLc, q_lc, e_kSl3, e_kSl2, e_kSl1, q_slice, e_kSn4, e_kSn3, e_kSn2, e_kSn1, q_slcN, e_kSt2, e_kSt1, q_step, e_kRp2, e_kRp1,
  q_rep, e_kLr, q_lstRg, e_kBs, q_bsome, e_kAc2, e_kAc1, q_acons, e_kAs2, e_kAs1, q_aslot, e_kTr2, e_kTru, q_tru, e_kTn, q_truN, e_kNot, q_not, e_kAnd, q_and, e_kOr, q_or, e_kTB, q_B, e_kDr, q_drop, e_kRet, q_ret, e_kSi,
  q_sif, e_kSet, q_set, e_kNx, e_kAsg, q_asg, e_kGc, q_gcons, e_kG2, q_T2, e_kSub3, e_kSub2, e_kSub1, e_kSub0, e_kSq2, e_kSeq, q_seq, e_kRg1, q_rng1, e_kRg2, q_rng2, e_kZip, q_zip, e_kFor, q_for, e_kFn_0, e_kFn_1, q_fn,
  e_kDp, q_drp, e_kTurn_0, e_kTurn_1, e_kTurn_2, e_kTurn_3, e_kBody, e_kFind, e_kCi3, e_kCi2, e_kCi1, e_kCp3, e_kCp2, e_kCp1, e_kWh2, e_kWh1, d_frz, d_own, d_inn, put_own, put_inn, isInn_n, isInn_f, isInn_o, tru_l, tru_t,
  tru_b, tru_i, tru_n, e_kI, q_item, put_own, put_inn, lz0, lz1, lz2, lz3, lz4, lz5, lz6, lz7, lz8, lz9, lz10, lz11, lz12, lz13, lz14, lz15, lz16, lz17, lz18, lz19, lz20, lz21, lz22, lz23, lz24, not_true_eq_false, decide_true, decide_false])
local macro_rules | `(tactic| walk_at "st") => `(tactic| (refine wS_seq.mpr ?_; walk_at "ws"))
local macro_rules | `(tactic| walk_at "sb") => `(tactic| (refine q_sub ?_; walk_at "ws"))
local macro_rules | `(tactic| exists $ts,*) => `(tactic| simp only [$[$ts:term],*, ↓reduceIte, wE_C, wB_none, wA_nil, wT_yes, wS_nil, wS_pass, wS_break, wS_cont, wS_retN, thenS_nx, thenS_rt, thenS_bk, thenS_ct, wS_pre, dropE, wG_set, wG_tup, wG_nil, rdV_frz, rdV_own, rdA_s, rdS_s, rdM_own, rdM_inn,
  seqQ_l, seqQ_t, zipQ_l, zipQ_t, wrQ_some, wpO_some, wpO_none, wpO_ite, ite_f, ite_t, ads, arNd, arSls, arSl, outsOf, outsOf_f, outsOf_n, List.tail_cons, back, backG, backAt, arAt, Sl.cont, wipeE, unwipe, frzAt, isa_bool,
  isa_int, isa_tuple, isa_str, isa_list, o_add_int, o_add_list, o_add_tup, o_add_str, o_sub, o_mul_int, o_mul_str, o_mul_tup, o_fdiv, o_mod, o_pow, o_eq_int, o_eq_str, o_eq_bool, o_ne_int, o_ne_str, o_lt, o_le, o_gt, o_ge,
  o_isN, o_isntN, o_none1, o_none2, o_none3, o_none4, o_len_l, o_len_t, o_max2, o_min2, o_int_i, o_int_b, o_tup_l, o_tup_t, o_lst_l, o_lst_t, o_sl_l, o_sl_t, o_item_l, o_item_t, atI_n, atI_0, atI_1, atI_2, atI_3, atI_4,
  atI_5, atI_m1, List.getElem?_cons_zero, List.getElem?_cons_succ, List.set_cons_zero, List.set_cons_succ, List.map_cons, List.map_nil, List.append_nil, List.nil_append, List.cons_append, List.replicate_succ,
  List.replicate_zero, Nat.sub_self, Nat.reduceSub, Nat.reduceAdd, Nat.reduceEqDiff, Option.map_some, Option.map_none, Option.bind_some, Option.getD_some, List.all_cons, List.all_nil, Bool.and_true, Bool.true_and, List.nodup_nil,
  List.nodup_cons, List.mem_nil_iff, List.not_mem_nil, not_false_eq_true, not_true_eq_false, List.length_cons, List.length_nil, Nat.zero_add, Bool.not_not, Bool.not_true, Bool.not_false, Bool.not_eq_true',
  decide_eq_false_iff_not, true_and, and_true, if_true, if_false, Bool.false_eq_true, reduceCtorEq, PyData.bool.injEq, PyData.int.injEq, PyData.tuple.injEq, PyData.list.injEq, Sl.own.injEq, Option.some.injEq,
  List.cons.injEq, exists_eq_left', exists_eq_left, decide_eq_true_eq, e_kR, e_kF, e_kVf, e_kVo, e_kMo, q_var, q_move, e_kB2, e_kB1, q_bin, q_bm, e_kNeg, q_neg, e_kNotV, q_notV, e_kAndV, q_andV, e_kOrV, q_orV, e_kIf, q_if,
  e_kIsi, q_isi, e_kIx3, e_kIx2, e_kIx1, q_ixN, e_kRd2_0, e_kRd2_1, e_kRd2_2, e_kRd2_3, e_kRd, q_rd1, e_kTN2, e_kTN, q_tupN, e_kLN2, e_kLN, q_lstN, e_kAp3, e_kAp2, e_kAp1, q_app, e_kPo3, e_kPo2, e_kPo1, e_kCB2, e_kCB,
  q_callB, e_kTp2, e_kTp, q_tup, e_kLs2, e_kLs, q_lst, e_kCa3, e_kCa2, e_kCa, q_call, e_kLc2, e_kLc, q_lc, e_kSl3, e_kSl2, e_kSl1, q_slice, e_kSn4, e_kSn3, e_kSn2, e_kSn1, q_slcN, e_kSt2, e_kSt1, q_step, e_kRp2, e_kRp1,
  q_rep, e_kLr, q_lstRg, e_kBs, q_bsome, e_kAc2, e_kAc1, q_acons, e_kAs2, e_kAs1, q_aslot, e_kTr2, e_kTru, q_tru, e_kTn, q_truN, e_kNot, q_not, e_kAnd, q_and, e_kOr, q_or, e_kTB, q_B, e_kDr, q_drop, e_kRet, q_ret, e_kSi,
  q_sif, e_kSet, q_set, e_kNx, e_kAsg, q_asg, e_kGc, q_gcons, e_kG2, q_T2, e_kSub3, e_kSub2, e_kSub1, e_kSub0, e_kSq2, e_kSeq, q_seq, e_kRg1, q_rng1, e_kRg2, q_rng2, e_kZip, q_zip, e_kFor, q_for, e_kFn_0, e_kFn_1, q_fn,
  e_kDp, q_drp, e_kTurn_0, e_kTurn_1, e_kTurn_2, e_kTurn_3, e_kBody, e_kFind, e_kCi3, e_kCi2, e_kCi1, e_kCp3, e_kCp2, e_kCp1, e_kWh2, e_kWh1, d_frz, d_own, d_inn, put_own, put_inn, isInn_n, isInn_f, isInn_o, tru_l, tru_t,
  tru_b, tru_i, tru_n, e_kI, q_item, put_own, put_inn, lz0, lz1, lz2, lz3, lz4, lz5, lz6, lz7, lz8, lz9, lz10, lz11, lz12, lz13, lz14, lz15, lz16, lz17, lz18, lz19, lz20, lz21, lz22, lz23, lz24, not_true_eq_false, decide_true, decide_false])
structure Bk (n : Nat) (R : List Row) (o : List Nat) (b : List Stn) : Prop where
  rl : R.length = n
  p : o.Perm (List.range n)
  bl : b.length = n
  s : ∀ i, i < n → StOk o (rw' R i) (st b (og o i))
theorem Bk.ol {n : Nat} {R : List Row} {o : List Nat} {b : List Stn} (k : Bk n R o b) : o.length = n := by rw [k.p.length_eq, List.length_range]
theorem og_get {o : List Nat} {i : Nat} (h : i < o.length) : og o i = o[i] := by simp [og, List.getD_eq_getElem?_getD, List.getElem?_eq_getElem h]
theorem Bk.lt {n : Nat} {R : List Row} {o : List Nat} {b : List Stn} (k : Bk n R o b) {i : Nat} (hi : i < n) : og o i < n := by
  have h : i < o.length := by rw [k.ol]; exact hi
  rw [og_get h]
  exact List.mem_range.mp (k.p.mem_iff.mp (List.getElem_mem h))
theorem Bk.inj {n : Nat} {R : List Row} {o : List Nat} {b : List Stn} (k : Bk n R o b) {i j : Nat} (hi : i < n) (hj : j < n) (e : og o i = og o j) : i = j := by
  have h1 : i < o.length := by rw [k.ol]; exact hi
  have h2 : j < o.length := by rw [k.ol]; exact hj
  rw [og_get h1, og_get h2] at e
  exact (List.getElem_inj (k.p.nodup_iff.mpr List.nodup_range)).mp e
theorem Bk.sur {n : Nat} {R : List Row} {o : List Nat} {b : List Stn} (k : Bk n R o b) {x : Nat} (hx : x < n) : ∃ i, i < n ∧ og o i = x := by
  have : x ∈ o := k.p.mem_iff.mpr (List.mem_range.mpr hx)
  obtain ⟨j, hj, rfl⟩ := List.getElem_of_mem this
  exact ⟨j, by rw [← k.ol]; exact hj, og_get hj⟩
theorem Bk.told {n : Nat} {R : List Row} {o : List Nat} {b : List Stn} (k : Bk n R o b) {i : Nat} (hi : i < n) (T : List Int) : told (st b (og o i)) T = (rw' R i).gs.map fun g => gt T (og o g) := by
  have := (k.s i hi).m
  have e : Law.told (st b (og o i)) T = ((st b (og o i)).mv.map fun p => p.2).map (gt T) := by
    rw [List.map_map]
    rfl
  rw [e, this, List.map_map]
  rfl
theorem Bk.nil {n : Nat} {R : List Row} {o : List Nat} {b : List Stn} (k : Bk n R o b) {i : Nat} (hi : i < n) : (st b (og o i)).mv = [] ↔ (rw' R i).gs = [] := by
  have := congrArg List.length (k.s i hi).m
  rw [List.length_map, List.length_map] at this
  rw [← List.length_eq_zero_iff, ← List.length_eq_zero_iff, this]
structure RowsOk (n : Nat) (R : List Row) : Prop where
  h : ∀ i, i < n → 1 ≤ (rw' R i).ask ∧ (rw' R i).ask < 1000000 ∧ ((rw' R i).o ≠ .pen → (rw' R i).ask = 1) ∧ (rw' R i).gs.length ≤ 4 ∧ ∀ g ∈ (rw' R i).gs, g < n ∧ ((rw' R i).o = .pen ∨ (rw' R g).o = .pen ∨ i < g)
theorem Bk.wb {n : Nat} {R : List Row} {o : List Nat} {b : List Stn} (k : Bk n R o b) (r : RowsOk n R) (h1 : 2 ≤ n) (h2 : n ≤ 100) : Wb b := by
  have ws : ∀ i, i < n → WfS n (st b (og o i)) := fun i hi => by
    obtain ⟨a1, a2, a3, a4, a5⟩ := r.h i hi
    have s := k.s i hi
    have hl := congrArg List.length s.m
    rw [List.length_map, List.length_map] at hl
    refine ⟨by rw [s.a]; exact a1, by rw [s.a]; exact a2, by rw [s.h, s.a]; exact a3, by omega, fun p hp => ?_⟩
    have : p.2 ∈ (st b (og o i)).mv.map fun p => p.2 := List.mem_map_of_mem hp
    rw [s.m] at this
    obtain ⟨g, hg, e⟩ := List.mem_map.mp this
    rw [← e]
    exact k.lt (a5 g hg).1
  refine ⟨⟨by rw [k.bl]; exact h2, by rw [k.bl]; exact h1, fun s hs => ?_⟩, ?_⟩
  · obtain ⟨x, hx, rfl⟩ := List.getElem_of_mem hs
    have e : st b x = b[x] := by simp [st, List.getD_eq_getElem?_getD, List.getElem?_eq_getElem hx]
    obtain ⟨i, hi, rfl⟩ := k.sur (by rw [← k.bl]; exact hx)
    rw [← e, k.bl]
    exact ws i hi
  · have hrk : ∀ x : Nat, ∃ i, x < n → i < n ∧ og o i = x := fun x => by
      by_cases hx : x < n
      · obtain ⟨i, hi⟩ := k.sur hx
        exact ⟨i, fun _ => hi⟩
      · exact ⟨0, fun h => absurd h hx⟩
    let rk := fun x => Classical.choose (hrk x)
    have hr : ∀ x, x < n → rk x < n ∧ og o (rk x) = x := fun x => Classical.choose_spec (hrk x)
    have rko : ∀ i, i < n → rk (og o i) = i := fun i hi => k.inj (hr _ (k.lt hi)).1 hi (hr _ (k.lt hi)).2
    refine ⟨rk, fun x hx => ?_⟩
    rw [k.bl] at hx ⊢
    obtain ⟨i, hi, rfl⟩ := k.sur hx
    refine ⟨(hr _ hx).1, fun ho p hp => ?_⟩
    have s := k.s i hi
    have : p.2 ∈ (st b (og o i)).mv.map fun p => p.2 := List.mem_map_of_mem hp
    rw [s.m] at this
    obtain ⟨g, hg, e⟩ := List.mem_map.mp this
    rw [← e]
    obtain ⟨a1, a2, a3, a4, a5⟩ := r.h i hi
    obtain ⟨hgn, hc⟩ := a5 g hg
    rw [s.h] at ho
    rcases hc with h | h | h
    · exact absurd h ho
    · left
      rw [(k.s g hgn).h]
      exact h
    · right
      rw [rko i hi, rko g hgn]
      exact h
theorem rw_left {R S : List Row} {i : Nat} (h : i < R.length) : rw' (R ++ S) i = rw' R i := by
  simp only [rw', List.getD_eq_getElem?_getD]
  rw [List.getElem?_append_left h]
theorem rw_right {R S : List Row} {i : Nat} : rw' (R ++ S) (R.length + i) = rw' S i := by
  simp only [rw', List.getD_eq_getElem?_getD]
  rw [List.getElem?_append_right (by omega)]
  simp
theorem rows_ok {m : Nat} {rs ms : List Row} {os : List Ow} {l0 l1 a more : Nat} (hl : rs.length = m) (hr : ∀ i, i < m → RowOk m os i (rs.getD i default)) (hm : MadeOk m ms l0 l1 a more) : RowsOk (m + 9) (rs ++ ms) := by
  obtain ⟨l2, l3, b, c, a8, o8, g4, g5, g6, g7, rfl, b2, b3, hb1, hb2, hc1, hc2, h81, h82, h83, hg⟩ := hm.rs
  have hm0 := hm.l0q
  have hm1 := hm.l1q
  have ha1 := hm.a1
  have ha2 := hm.a2
  have hmo := hm.m1
  have hmm := hm.m2
  have hmore : more ≤ 16 := by
    have h1 : 1 * more ≤ a * more := Nat.mul_le_mul_right more ha1
    have h2 : l0 * l1 ≤ 4 * 4 := Nat.mul_le_mul hm0 hm1
    omega
  refine ⟨fun i hi => ?_⟩
  by_cases him : i < m
  · rw [rw_left (by omega)]
    have h := hr i him
    change RowOk m os i (rw' rs i) at h
    refine ⟨h.a1, by have := h.a2; omega, h.a3, by have := h.g1; omega, fun g hg => ?_⟩
    obtain ⟨e1, e2⟩ := h.g2 g hg
    refine ⟨by omega, ?_⟩
    rw [rw_left (by omega)]
    have hh := hr g e1
    change RowOk m os g (rw' rs g) at hh
    rw [hh.o]
    exact e2
  · obtain ⟨j, rfl⟩ : ∃ j, i = rs.length + j := ⟨i - rs.length, by omega⟩
    rw [rw_right]
    have pen : ∀ g, m ≤ g → g < m + 4 → (rw' (rs ++ [⟨.pen, a, List.replicate l0 (m + 1)⟩, ⟨.pen, more, List.replicate l1 m⟩, ⟨.pen, b, List.replicate l2 (m + 3)⟩, ⟨.pen, c, List.replicate l3 (m + 2)⟩, ⟨.out, 1, g4⟩, ⟨.hou, 1, g5⟩, ⟨.out, 1, g6⟩, ⟨.hou, 1, g7⟩, ⟨o8, a8, []⟩]) g).o = .pen := fun g h1 h2 => by
      obtain ⟨q, rfl⟩ : ∃ q, g = rs.length + q := ⟨g - rs.length, by omega⟩
      rw [rw_right]
      have : q < 4 := by omega
      match q, this with
      | 0, _ => rfl
      | 1, _ => rfl
      | 2, _ => rfl
      | 3, _ => rfl
    have rep : ∀ (Z : Nat → Prop) (l x : Nat) (o : Ow), l ≤ 4 → x < m + 4 → o = .pen → ∀ g ∈ List.replicate l x, g < m + 9 ∧ (o = .pen ∨ (rw' (rs ++ [⟨.pen, a, List.replicate l0 (m + 1)⟩, ⟨.pen, more, List.replicate l1 m⟩, ⟨.pen, b, List.replicate l2 (m + 3)⟩, ⟨.pen, c, List.replicate l3 (m + 2)⟩, ⟨.out, 1, g4⟩, ⟨.hou, 1, g5⟩, ⟨.out, 1, g6⟩, ⟨.hou, 1, g7⟩, ⟨o8, a8, []⟩]) g).o = .pen ∨ Z g) := fun Z l x o _ hx ho g hg => ⟨by rw [List.eq_of_mem_replicate hg]; omega, .inl ho⟩
    have two : ∀ (Z : Nat → Prop) (gs : List Nat) (o : Ow), gs ∈ [g4, g5, g6, g7] → gs.length ≤ 4 ∧ ∀ g ∈ gs, g < m + 9 ∧ (o = .pen ∨ (rw' (rs ++ [⟨.pen, a, List.replicate l0 (m + 1)⟩, ⟨.pen, more, List.replicate l1 m⟩, ⟨.pen, b, List.replicate l2 (m + 3)⟩, ⟨.pen, c, List.replicate l3 (m + 2)⟩, ⟨.out, 1, g4⟩, ⟨.hou, 1, g5⟩, ⟨.out, 1, g6⟩, ⟨.hou, 1, g7⟩, ⟨o8, a8, []⟩]) g).o = .pen ∨ Z g) := fun Z gs o h => by
      obtain ⟨e1, e2⟩ := hg gs h
      refine ⟨by omega, fun g hgg => ?_⟩
      obtain ⟨e3, e4⟩ := e2 g hgg
      exact ⟨by omega, .inr (.inl (pen g e3 e4))⟩
    have hj : j < 9 := by omega
    match j, hj with
    | 0, _ => exact ⟨ha1, by show a < _; omega, fun h => absurd rfl h, by show (List.replicate l0 (m + 1)).length ≤ 4; simpa using hm0, rep _ l0 (m + 1) .pen hm0 (by omega) rfl⟩
    | 1, _ => exact ⟨hmo, by show more < _; omega, fun h => absurd rfl h, by show (List.replicate l1 m).length ≤ 4; simpa using hm1, rep _ l1 m .pen hm1 (by omega) rfl⟩
    | 2, _ => exact ⟨hb1, by show b < _; omega, fun h => absurd rfl h, by show (List.replicate l2 (m + 3)).length ≤ 4; simpa using b2, rep _ l2 (m + 3) .pen b2 (by omega) rfl⟩
    | 3, _ => exact ⟨hc1, by show c < _; omega, fun h => absurd rfl h, by show (List.replicate l3 (m + 2)).length ≤ 4; simpa using b3, rep _ l3 (m + 2) .pen b3 (by omega) rfl⟩
    | 4, _ => exact ⟨Nat.le_refl 1, by show 1 < _; omega, fun _ => rfl, (two (fun _ => True) g4 .out (by simp)).1, (two _ g4 .out (by simp)).2⟩
    | 5, _ => exact ⟨Nat.le_refl 1, by show 1 < _; omega, fun _ => rfl, (two (fun _ => True) g5 .hou (by simp)).1, (two _ g5 .hou (by simp)).2⟩
    | 6, _ => exact ⟨Nat.le_refl 1, by show 1 < _; omega, fun _ => rfl, (two (fun _ => True) g6 .out (by simp)).1, (two _ g6 .out (by simp)).2⟩
    | 7, _ => exact ⟨Nat.le_refl 1, by show 1 < _; omega, fun _ => rfl, (two (fun _ => True) g7 .hou (by simp)).1, (two _ g7 .hou (by simp)).2⟩
    | 8, _ => exact ⟨h81, by show a8 < _; omega, h83, by show ([] : List Nat).length ≤ 4; simp, fun g hg => absurd hg (List.not_mem_nil)⟩
end Law
end
section
set_option Elab.async false
set_option linter.all false
set_option maxRecDepth 100000
set_option maxHeartbeats 4000000
namespace Law
open PySem PySem.Spec L2 MM
local macro_rules | `(tactic| walk_at "ws") => `(tactic| try simp only [↓reduceIte, wE_C, wB_none, wA_nil, wT_yes, wS_nil, wS_pass, wS_break, wS_cont, wS_retN, thenS_nx, thenS_rt, thenS_bk, thenS_ct, wS_pre, dropE, wG_set, wG_tup, wG_nil, rdV_frz, rdV_own, rdA_s, rdS_s, rdM_own, rdM_inn,
  seqQ_l, seqQ_t, zipQ_l, zipQ_t, wrQ_some, wpO_some, wpO_none, wpO_ite, ite_f, ite_t, ads, arNd, arSls, arSl, outsOf, outsOf_f, outsOf_n, List.tail_cons, back, backG, backAt, arAt, Sl.cont, wipeE, unwipe, frzAt, isa_bool,
  isa_int, isa_tuple, isa_str, isa_list, o_add_int, o_add_list, o_add_tup, o_add_str, o_sub, o_mul_int, o_mul_str, o_mul_tup, o_fdiv, o_mod, o_pow, o_eq_int, o_eq_str, o_eq_bool, o_ne_int, o_ne_str, o_lt, o_le, o_gt, o_ge,
  o_isN, o_isntN, o_none1, o_none2, o_none3, o_none4, o_len_l, o_len_t, o_max2, o_min2, o_int_i, o_int_b, o_tup_l, o_tup_t, o_lst_l, o_lst_t, o_sl_l, o_sl_t, o_item_l, o_item_t, atI_n, atI_0, atI_1, atI_2, atI_3, atI_4,
  atI_5, atI_m1, List.getElem?_cons_zero, List.getElem?_cons_succ, List.set_cons_zero, List.set_cons_succ, List.map_cons, List.map_nil, List.append_nil, List.nil_append, List.cons_append, List.replicate_succ,
  List.replicate_zero, Nat.sub_self, Nat.reduceSub, Nat.reduceAdd, Nat.reduceEqDiff, Option.map_some, Option.map_none, Option.bind_some, Option.getD_some, List.all_cons, List.all_nil, Bool.and_true, Bool.true_and, List.nodup_nil,
  List.nodup_cons, List.mem_nil_iff, List.not_mem_nil, not_false_eq_true, not_true_eq_false, List.length_cons, List.length_nil, Nat.zero_add, Bool.not_not, Bool.not_true, Bool.not_false, Bool.not_eq_true',
  decide_eq_false_iff_not, true_and, and_true, if_true, if_false, Bool.false_eq_true, reduceCtorEq, PyData.bool.injEq, PyData.int.injEq, PyData.tuple.injEq, PyData.list.injEq, Sl.own.injEq, Option.some.injEq,
  List.cons.injEq, exists_eq_left', exists_eq_left, decide_eq_true_eq, e_kR, e_kF, e_kVf, e_kVo, e_kMo, q_var, q_move, e_kB2, e_kB1, q_bin, q_bm, e_kNeg, q_neg, e_kNotV, q_notV, e_kAndV, q_andV, e_kOrV, q_orV, e_kIf, q_if,
  e_kIsi, q_isi, e_kIx3, e_kIx2, e_kIx1, q_ixN, e_kRd2_0, e_kRd2_1, e_kRd2_2, e_kRd2_3, e_kRd, q_rd1, e_kTN2, e_kTN, q_tupN, e_kLN2, e_kLN, q_lstN, e_kAp3, e_kAp2, e_kAp1, q_app, e_kPo3, e_kPo2, e_kPo1, e_kCB2, e_kCB,
  q_callB, e_kTp2, e_kTp, q_tup, e_kLs2, e_kLs, q_lst, e_kCa3, e_kCa2, e_kCa, q_call, e_kLc2, e_kLc, q_lc, e_kSl3, e_kSl2, e_kSl1, q_slice, e_kSn4, e_kSn3, e_kSn2, e_kSn1, q_slcN, e_kSt2, e_kSt1, q_step, e_kRp2, e_kRp1,
  q_rep, e_kLr, q_lstRg, e_kBs, q_bsome, e_kAc2, e_kAc1, q_acons, e_kAs2, e_kAs1, q_aslot, e_kTr2, e_kTru, q_tru, e_kTn, q_truN, e_kNot, q_not, e_kAnd, q_and, e_kOr, q_or, e_kTB, q_B, e_kDr, q_drop, e_kRet, q_ret, e_kSi,
  q_sif, e_kSet, q_set, e_kNx, e_kAsg, q_asg, e_kGc, q_gcons, e_kG2, q_T2, e_kSub3, e_kSub2, e_kSub1, e_kSub0, e_kSq2, e_kSeq, q_seq, e_kRg1, q_rng1, e_kRg2, q_rng2, e_kZip, q_zip, e_kFor, q_for, e_kFn_0, e_kFn_1, q_fn,
  e_kDp, q_drp, e_kTurn_0, e_kTurn_1, e_kTurn_2, e_kTurn_3, e_kBody, e_kFind, e_kCi3, e_kCi2, e_kCi1, e_kCp3, e_kCp2, e_kCp1, e_kWh2, e_kWh1, d_frz, d_own, d_inn, put_own, put_inn, isInn_n, isInn_f, isInn_o, tru_l, tru_t,
  tru_b, tru_i, tru_n, e_kI, q_item, put_own, put_inn, lz0, lz1, lz2, lz3, lz4, lz5, lz6, lz7, lz8, lz9, lz10, lz11, lz12, lz13, lz14, lz15, lz16, lz17, lz18, lz19, lz20, lz21, lz22, lz23, lz24, not_true_eq_false, decide_true, decide_false])
local macro_rules | `(tactic| walk_at "st") => `(tactic| (refine wS_seq.mpr ?_; walk_at "ws"))
local macro_rules | `(tactic| walk_at "sb") => `(tactic| (refine q_sub ?_; walk_at "ws"))
local macro_rules | `(tactic| exists $ts,*) => `(tactic| simp only [$[$ts:term],*, ↓reduceIte, wE_C, wB_none, wA_nil, wT_yes, wS_nil, wS_pass, wS_break, wS_cont, wS_retN, thenS_nx, thenS_rt, thenS_bk, thenS_ct, wS_pre, dropE, wG_set, wG_tup, wG_nil, rdV_frz, rdV_own, rdA_s, rdS_s, rdM_own, rdM_inn,
  seqQ_l, seqQ_t, zipQ_l, zipQ_t, wrQ_some, wpO_some, wpO_none, wpO_ite, ite_f, ite_t, ads, arNd, arSls, arSl, outsOf, outsOf_f, outsOf_n, List.tail_cons, back, backG, backAt, arAt, Sl.cont, wipeE, unwipe, frzAt, isa_bool,
  isa_int, isa_tuple, isa_str, isa_list, o_add_int, o_add_list, o_add_tup, o_add_str, o_sub, o_mul_int, o_mul_str, o_mul_tup, o_fdiv, o_mod, o_pow, o_eq_int, o_eq_str, o_eq_bool, o_ne_int, o_ne_str, o_lt, o_le, o_gt, o_ge,
  o_isN, o_isntN, o_none1, o_none2, o_none3, o_none4, o_len_l, o_len_t, o_max2, o_min2, o_int_i, o_int_b, o_tup_l, o_tup_t, o_lst_l, o_lst_t, o_sl_l, o_sl_t, o_item_l, o_item_t, atI_n, atI_0, atI_1, atI_2, atI_3, atI_4,
  atI_5, atI_m1, List.getElem?_cons_zero, List.getElem?_cons_succ, List.set_cons_zero, List.set_cons_succ, List.map_cons, List.map_nil, List.append_nil, List.nil_append, List.cons_append, List.replicate_succ,
  List.replicate_zero, Nat.sub_self, Nat.reduceSub, Nat.reduceAdd, Nat.reduceEqDiff, Option.map_some, Option.map_none, Option.bind_some, Option.getD_some, List.all_cons, List.all_nil, Bool.and_true, Bool.true_and, List.nodup_nil,
  List.nodup_cons, List.mem_nil_iff, List.not_mem_nil, not_false_eq_true, not_true_eq_false, List.length_cons, List.length_nil, Nat.zero_add, Bool.not_not, Bool.not_true, Bool.not_false, Bool.not_eq_true',
  decide_eq_false_iff_not, true_and, and_true, if_true, if_false, Bool.false_eq_true, reduceCtorEq, PyData.bool.injEq, PyData.int.injEq, PyData.tuple.injEq, PyData.list.injEq, Sl.own.injEq, Option.some.injEq,
  List.cons.injEq, exists_eq_left', exists_eq_left, decide_eq_true_eq, e_kR, e_kF, e_kVf, e_kVo, e_kMo, q_var, q_move, e_kB2, e_kB1, q_bin, q_bm, e_kNeg, q_neg, e_kNotV, q_notV, e_kAndV, q_andV, e_kOrV, q_orV, e_kIf, q_if,
  e_kIsi, q_isi, e_kIx3, e_kIx2, e_kIx1, q_ixN, e_kRd2_0, e_kRd2_1, e_kRd2_2, e_kRd2_3, e_kRd, q_rd1, e_kTN2, e_kTN, q_tupN, e_kLN2, e_kLN, q_lstN, e_kAp3, e_kAp2, e_kAp1, q_app, e_kPo3, e_kPo2, e_kPo1, e_kCB2, e_kCB,
  q_callB, e_kTp2, e_kTp, q_tup, e_kLs2, e_kLs, q_lst, e_kCa3, e_kCa2, e_kCa, q_call, e_kLc2, e_kLc, q_lc, e_kSl3, e_kSl2, e_kSl1, q_slice, e_kSn4, e_kSn3, e_kSn2, e_kSn1, q_slcN, e_kSt2, e_kSt1, q_step, e_kRp2, e_kRp1,
  q_rep, e_kLr, q_lstRg, e_kBs, q_bsome, e_kAc2, e_kAc1, q_acons, e_kAs2, e_kAs1, q_aslot, e_kTr2, e_kTru, q_tru, e_kTn, q_truN, e_kNot, q_not, e_kAnd, q_and, e_kOr, q_or, e_kTB, q_B, e_kDr, q_drop, e_kRet, q_ret, e_kSi,
  q_sif, e_kSet, q_set, e_kNx, e_kAsg, q_asg, e_kGc, q_gcons, e_kG2, q_T2, e_kSub3, e_kSub2, e_kSub1, e_kSub0, e_kSq2, e_kSeq, q_seq, e_kRg1, q_rng1, e_kRg2, q_rng2, e_kZip, q_zip, e_kFor, q_for, e_kFn_0, e_kFn_1, q_fn,
  e_kDp, q_drp, e_kTurn_0, e_kTurn_1, e_kTurn_2, e_kTurn_3, e_kBody, e_kFind, e_kCi3, e_kCi2, e_kCi1, e_kCp3, e_kCp2, e_kCp1, e_kWh2, e_kWh1, d_frz, d_own, d_inn, put_own, put_inn, isInn_n, isInn_f, isInn_o, tru_l, tru_t,
  tru_b, tru_i, tru_n, e_kI, q_item, put_own, put_inn, lz0, lz1, lz2, lz3, lz4, lz5, lz6, lz7, lz8, lz9, lz10, lz11, lz12, lz13, lz14, lz15, lz16, lz17, lz18, lz19, lz20, lz21, lz22, lz23, lz24, not_true_eq_false, decide_true, decide_false])
theorem sum_rep {n : Nat} {c : Int} : (List.replicate n c).sum = n * c := by
  induction n with
  | zero => simp
  | succ n ih =>
    rw [List.replicate_succ, List.sum_cons, ih, Int.natCast_add, Int.add_mul]
    simp
    omega
theorem Bk.most {n : Nat} {R : List Row} {o : List Nat} {b : List Stn} (k : Bk n R o b) {i l g : Nat} (hi : i < n) (ho : (rw' R i).o = .pen) (hg : (rw' R i).gs = List.replicate l g) (T : List Int) : Law.most (st b (og o i)) T = (l * gt T (og o g)) / ((rw' R i).ask : Int) := by
  have s := k.s i hi
  by_cases hn : (st b (og o i)).mv = []
  · rw [most_nil hn]
    have := (k.nil hi).mp hn
    rw [hg] at this
    have : l = 0 := by simpa using this
    subst this
    simp
  · rw [most_cons hn, k.told hi, hg, s.h, s.a, ho, List.map_replicate]
    simp only [pick, sum_rep]
def ring (n : Nat) (o : List Nat) (m : Nat) (l0 a : Nat) : List Int := ((List.replicate n (0 : Int)).set (og o m) l0).set (og o (m + 1)) a
theorem ring_len {n m l0 a : Nat} {o : List Nat} : (ring n o m l0 a).length = n := by simp [ring]
theorem ring_at {m l0 a : Nat} {R : List Row} {o : List Nat} {b : List Stn} (k : Bk (m + 9) R o b) {i : Nat} (hi : i < m + 9) : gt (ring (m + 9) o m l0 a) (og o i) = if i = m + 1 then (a : Int) else if i = m then (l0 : Int) else 0 := by
  have h1 := k.lt (i := m) (by omega)
  have h2 := k.lt (i := m + 1) (by omega)
  have h3 := k.lt hi
  unfold ring
  rw [gt_set (by simpa using h2), gt_set (by simpa using h1)]
  have e1 : (og o (m + 1) = og o i) = (i = m + 1) := propext ⟨fun e => (k.inj (by omega) hi e).symm, fun e => by rw [e]⟩
  have e2 : (og o m = og o i) = (i = m) := propext ⟨fun e => (k.inj (by omega) hi e).symm, fun e => by rw [e]⟩
  simp only [e1, e2]
  have : gt (List.replicate (m + 9) (0 : Int)) (og o i) = 0 := by simp [gt, List.getD_eq_getElem?_getD, h3]
  rw [this]
theorem ring_true {m l0 l1 a more : Nat} {rs ms : List Row} {o : List Nat} {b : List Stn} (k : Bk (m + 9) (rs ++ ms) o b) (w : Wb b) (hl : rs.length = m) (hm : MadeOk m ms l0 l1 a more) : closedB b (ring (m + 9) o m l0 a) = true := by
  obtain ⟨l2, l3, bb, c, a8, o8, g4, g5, g6, g7, rfl, _⟩ := hm.rs
  have ha1 := hm.a1
  have hm1 := hm.m1
  have hmm := hm.m2
  have nn : ∀ x, x < b.length → 0 ≤ gt (ring (m + 9) o m l0 a) x := fun x hx => by
    rw [k.bl] at hx
    obtain ⟨i, hi, rfl⟩ := k.sur hx
    rw [ring_at k hi]
    split
    · omega
    · split <;> omega
  refine range_all_t fun x hx => decide_eq_true ?_
  have ws := w.s _ (st_mem hx)
  rw [k.bl] at hx
  obtain ⟨i, hi, rfl⟩ := k.sur hx
  rw [ring_at k hi]
  have r0 : ∀ j, rw' (rs ++ [(⟨.pen, a, List.replicate l0 (m + 1)⟩ : Row), ⟨.pen, more, List.replicate l1 m⟩, ⟨.pen, bb, List.replicate l2 (m + 3)⟩, ⟨.pen, c, List.replicate l3 (m + 2)⟩, ⟨.out, 1, g4⟩, ⟨.hou, 1, g5⟩, ⟨.out, 1, g6⟩, ⟨.hou, 1, g7⟩, ⟨o8, a8, []⟩]) (m + j) = rw' [(⟨.pen, a, List.replicate l0 (m + 1)⟩ : Row), ⟨.pen, more, List.replicate l1 m⟩, ⟨.pen, bb, List.replicate l2 (m + 3)⟩, ⟨.pen, c, List.replicate l3 (m + 2)⟩, ⟨.out, 1, g4⟩, ⟨.hou, 1, g5⟩, ⟨.out, 1, g6⟩, ⟨.hou, 1, g7⟩, ⟨o8, a8, []⟩] j := fun j => by
    rw [← hl]
    exact rw_right
  split
  · subst_vars
    have e := k.most (i := rs.length + 1) (l := l1) (g := rs.length) (by omega) (by rw [r0 1]; rfl) (by rw [r0 1]; rfl) (ring (rs.length + 9) o rs.length l0 a)
    rw [e, ring_at k (by omega), if_neg (by omega), if_pos rfl, r0 1]
    show (a : Int) ≤ (l1 : Int) * l0 / (more : Int)
    refine Int.le_ediv_of_mul_le (by omega) ?_
    have : ((a * more : Nat) : Int) ≤ ((l0 * l1 : Nat) : Int) := by omega
    rw [Int.natCast_mul, Int.natCast_mul, Int.mul_comm (l0 : Int)] at this
    exact this
  · split
    · subst_vars
      have r00 := r0 0
      simp only [Nat.add_zero] at r00
      have e := k.most (i := rs.length) (l := l0) (g := rs.length + 1) (by omega) (by rw [r00]; rfl) (by rw [r00]; rfl) (ring (rs.length + 9) o rs.length l0 a)
      rw [e, ring_at k (by omega), if_pos rfl, r00]
      show (l0 : Int) ≤ (l0 : Int) * a / (a : Int)
      exact Int.le_ediv_of_mul_le (by omega) (Int.le_refl _)
    · exact most_nonneg ws nn
theorem ring_false {m l0 l1 a more : Nat} {rs ms : List Row} {o : List Nat} {b : List Stn} (k : Bk (m + 9) (rs ++ ms) o b) (hl : rs.length = m) (hm : MadeOk m ms l0 l1 a more) (x : Nat) (hx : x = m ∨ x = m + 2 ∨ x = m + 8) : closedB b ((ring (m + 9) o m l0 a).set (og o x) (gt (ring (m + 9) o m l0 a) (og o x) + 1)) = false := by
  obtain ⟨l2, l3, bb, c, a8, o8, g4, g5, g6, g7, rfl, _, _, hb1, _⟩ := hm.rs
  have ha1 := hm.a1
  have hx9 : x < m + 9 := by omega
  have hxl := k.lt hx9
  have at' : ∀ i, i < m + 9 → gt ((ring (m + 9) o m l0 a).set (og o x) (gt (ring (m + 9) o m l0 a) (og o x) + 1)) (og o i) = if i = x then gt (ring (m + 9) o m l0 a) (og o x) + 1 else gt (ring (m + 9) o m l0 a) (og o i) := fun i hi => by
    rw [gt_set (by rw [ring_len]; exact hxl)]
    have e1 : (og o x = og o i) = (i = x) := propext ⟨fun e => (k.inj hx9 hi e).symm, fun e => by rw [e]⟩
    simp only [e1]
  have r0 : ∀ j, rw' (rs ++ [(⟨.pen, a, List.replicate l0 (m + 1)⟩ : Row), ⟨.pen, more, List.replicate l1 m⟩, ⟨.pen, bb, List.replicate l2 (m + 3)⟩, ⟨.pen, c, List.replicate l3 (m + 2)⟩, ⟨.out, 1, g4⟩, ⟨.hou, 1, g5⟩, ⟨.out, 1, g6⟩, ⟨.hou, 1, g7⟩, ⟨o8, a8, []⟩]) (m + j) = rw' [(⟨.pen, a, List.replicate l0 (m + 1)⟩ : Row), ⟨.pen, more, List.replicate l1 m⟩, ⟨.pen, bb, List.replicate l2 (m + 3)⟩, ⟨.pen, c, List.replicate l3 (m + 2)⟩, ⟨.out, 1, g4⟩, ⟨.hou, 1, g5⟩, ⟨.out, 1, g6⟩, ⟨.hou, 1, g7⟩, ⟨o8, a8, []⟩] j := fun j => by
    rw [← hl]
    exact rw_right
  generalize (ring (m + 9) o m l0 a).set (og o x) (gt (ring (m + 9) o m l0 a) (og o x) + 1) = T at at' ⊢
  refine range_all_f (i := og o x) (by rw [k.bl]; exact hxl) (decide_eq_false ?_)
  rw [at' x hx9, if_pos rfl, ring_at k hx9]
  rcases hx with rfl | rfl | rfl
  · have r00 := r0 0
    simp only [Nat.add_zero] at r00
    have e := k.most (i := x) (l := l0) (g := x + 1) (by omega) (by rw [r00]; rfl) (by rw [r00]; rfl) T
    have g1 : gt T (og o (x + 1)) = (a : Int) := by rw [at' (x + 1) (by omega), if_neg (by omega), ring_at k (by omega), if_pos rfl]
    rw [e, g1, if_neg (by omega), if_pos rfl, r00]
    show ¬ (l0 : Int) + 1 ≤ (l0 : Int) * a / (a : Int)
    rw [Int.mul_ediv_cancel _ (by omega)]
    omega
  · have e := k.most (i := m + 2) (l := l2) (g := m + 3) (by omega) (by rw [r0 2]; rfl) (by rw [r0 2]; rfl) T
    have g1 : gt T (og o (m + 3)) = 0 := by rw [at' (m + 3) (by omega), if_neg (by omega), ring_at k (by omega), if_neg (by omega), if_neg (by omega)]
    rw [e, g1, if_neg (by omega), if_neg (by omega)]
    simp
  · rw [most_nil ((k.nil hx9).mpr (by rw [r0 8]; rfl)), if_neg (by omega), if_neg (by omega)]
    decide
end Law
end
section
set_option Elab.async false
set_option linter.all false
set_option maxRecDepth 100000
set_option maxHeartbeats 4000000
namespace Law
open PySem PySem.Spec L2 MM
local macro_rules | `(tactic| walk_at "ws") => `(tactic| try simp only [↓reduceIte, wE_C, wB_none, wA_nil, wT_yes, wS_nil, wS_pass, wS_break, wS_cont, wS_retN, thenS_nx, thenS_rt, thenS_bk, thenS_ct, wS_pre, dropE, wG_set, wG_tup, wG_nil, rdV_frz, rdV_own, rdA_s, rdS_s, rdM_own, rdM_inn,
  seqQ_l, seqQ_t, zipQ_l, zipQ_t, wrQ_some, wpO_some, wpO_none, wpO_ite, ite_f, ite_t, ads, arNd, arSls, arSl, outsOf, outsOf_f, outsOf_n, List.tail_cons, back, backG, backAt, arAt, Sl.cont, wipeE, unwipe, frzAt, isa_bool,
  isa_int, isa_tuple, isa_str, isa_list, o_add_int, o_add_list, o_add_tup, o_add_str, o_sub, o_mul_int, o_mul_str, o_mul_tup, o_fdiv, o_mod, o_pow, o_eq_int, o_eq_str, o_eq_bool, o_ne_int, o_ne_str, o_lt, o_le, o_gt, o_ge,
  o_isN, o_isntN, o_none1, o_none2, o_none3, o_none4, o_len_l, o_len_t, o_max2, o_min2, o_int_i, o_int_b, o_tup_l, o_tup_t, o_lst_l, o_lst_t, o_sl_l, o_sl_t, o_item_l, o_item_t, atI_n, atI_0, atI_1, atI_2, atI_3, atI_4,
  atI_5, atI_m1, List.getElem?_cons_zero, List.getElem?_cons_succ, List.set_cons_zero, List.set_cons_succ, List.map_cons, List.map_nil, List.append_nil, List.nil_append, List.cons_append, List.replicate_succ,
  List.replicate_zero, Nat.sub_self, Nat.reduceSub, Nat.reduceAdd, Nat.reduceEqDiff, Option.map_some, Option.map_none, Option.bind_some, Option.getD_some, List.all_cons, List.all_nil, Bool.and_true, Bool.true_and, List.nodup_nil,
  List.nodup_cons, List.mem_nil_iff, List.not_mem_nil, not_false_eq_true, not_true_eq_false, List.length_cons, List.length_nil, Nat.zero_add, Bool.not_not, Bool.not_true, Bool.not_false, Bool.not_eq_true',
  decide_eq_false_iff_not, true_and, and_true, if_true, if_false, Bool.false_eq_true, reduceCtorEq, PyData.bool.injEq, PyData.int.injEq, PyData.tuple.injEq, PyData.list.injEq, Sl.own.injEq, Option.some.injEq,
  List.cons.injEq, exists_eq_left', exists_eq_left, decide_eq_true_eq, e_kR, e_kF, e_kVf, e_kVo, e_kMo, q_var, q_move, e_kB2, e_kB1, q_bin, q_bm, e_kNeg, q_neg, e_kNotV, q_notV, e_kAndV, q_andV, e_kOrV, q_orV, e_kIf, q_if,
  e_kIsi, q_isi, e_kIx3, e_kIx2, e_kIx1, q_ixN, e_kRd2_0, e_kRd2_1, e_kRd2_2, e_kRd2_3, e_kRd, q_rd1, e_kTN2, e_kTN, q_tupN, e_kLN2, e_kLN, q_lstN, e_kAp3, e_kAp2, e_kAp1, q_app, e_kPo3, e_kPo2, e_kPo1, e_kCB2, e_kCB,
  q_callB, e_kTp2, e_kTp, q_tup, e_kLs2, e_kLs, q_lst, e_kCa3, e_kCa2, e_kCa, q_call, e_kLc2, e_kLc, q_lc, e_kSl3, e_kSl2, e_kSl1, q_slice, e_kSn4, e_kSn3, e_kSn2, e_kSn1, q_slcN, e_kSt2, e_kSt1, q_step, e_kRp2, e_kRp1,
  q_rep, e_kLr, q_lstRg, e_kBs, q_bsome, e_kAc2, e_kAc1, q_acons, e_kAs2, e_kAs1, q_aslot, e_kTr2, e_kTru, q_tru, e_kTn, q_truN, e_kNot, q_not, e_kAnd, q_and, e_kOr, q_or, e_kTB, q_B, e_kDr, q_drop, e_kRet, q_ret, e_kSi,
  q_sif, e_kSet, q_set, e_kNx, e_kAsg, q_asg, e_kGc, q_gcons, e_kG2, q_T2, e_kSub3, e_kSub2, e_kSub1, e_kSub0, e_kSq2, e_kSeq, q_seq, e_kRg1, q_rng1, e_kRg2, q_rng2, e_kZip, q_zip, e_kFor, q_for, e_kFn_0, e_kFn_1, q_fn,
  e_kDp, q_drp, e_kTurn_0, e_kTurn_1, e_kTurn_2, e_kTurn_3, e_kBody, e_kFind, e_kCi3, e_kCi2, e_kCi1, e_kCp3, e_kCp2, e_kCp1, e_kWh2, e_kWh1, d_frz, d_own, d_inn, put_own, put_inn, isInn_n, isInn_f, isInn_o, tru_l, tru_t,
  tru_b, tru_i, tru_n, e_kI, q_item, put_own, put_inn, lz0, lz1, lz2, lz3, lz4, lz5, lz6, lz7, lz8, lz9, lz10, lz11, lz12, lz13, lz14, lz15, lz16, lz17, lz18, lz19, lz20, lz21, lz22, lz23, lz24, not_true_eq_false, decide_true, decide_false])
local macro_rules | `(tactic| walk_at "st") => `(tactic| (refine wS_seq.mpr ?_; walk_at "ws"))
local macro_rules | `(tactic| walk_at "sb") => `(tactic| (refine q_sub ?_; walk_at "ws"))
local macro_rules | `(tactic| exists $ts,*) => `(tactic| simp only [$[$ts:term],*, ↓reduceIte, wE_C, wB_none, wA_nil, wT_yes, wS_nil, wS_pass, wS_break, wS_cont, wS_retN, thenS_nx, thenS_rt, thenS_bk, thenS_ct, wS_pre, dropE, wG_set, wG_tup, wG_nil, rdV_frz, rdV_own, rdA_s, rdS_s, rdM_own, rdM_inn,
  seqQ_l, seqQ_t, zipQ_l, zipQ_t, wrQ_some, wpO_some, wpO_none, wpO_ite, ite_f, ite_t, ads, arNd, arSls, arSl, outsOf, outsOf_f, outsOf_n, List.tail_cons, back, backG, backAt, arAt, Sl.cont, wipeE, unwipe, frzAt, isa_bool,
  isa_int, isa_tuple, isa_str, isa_list, o_add_int, o_add_list, o_add_tup, o_add_str, o_sub, o_mul_int, o_mul_str, o_mul_tup, o_fdiv, o_mod, o_pow, o_eq_int, o_eq_str, o_eq_bool, o_ne_int, o_ne_str, o_lt, o_le, o_gt, o_ge,
  o_isN, o_isntN, o_none1, o_none2, o_none3, o_none4, o_len_l, o_len_t, o_max2, o_min2, o_int_i, o_int_b, o_tup_l, o_tup_t, o_lst_l, o_lst_t, o_sl_l, o_sl_t, o_item_l, o_item_t, atI_n, atI_0, atI_1, atI_2, atI_3, atI_4,
  atI_5, atI_m1, List.getElem?_cons_zero, List.getElem?_cons_succ, List.set_cons_zero, List.set_cons_succ, List.map_cons, List.map_nil, List.append_nil, List.nil_append, List.cons_append, List.replicate_succ,
  List.replicate_zero, Nat.sub_self, Nat.reduceSub, Nat.reduceAdd, Nat.reduceEqDiff, Option.map_some, Option.map_none, Option.bind_some, Option.getD_some, List.all_cons, List.all_nil, Bool.and_true, Bool.true_and, List.nodup_nil,
  List.nodup_cons, List.mem_nil_iff, List.not_mem_nil, not_false_eq_true, not_true_eq_false, List.length_cons, List.length_nil, Nat.zero_add, Bool.not_not, Bool.not_true, Bool.not_false, Bool.not_eq_true',
  decide_eq_false_iff_not, true_and, and_true, if_true, if_false, Bool.false_eq_true, reduceCtorEq, PyData.bool.injEq, PyData.int.injEq, PyData.tuple.injEq, PyData.list.injEq, Sl.own.injEq, Option.some.injEq,
  List.cons.injEq, exists_eq_left', exists_eq_left, decide_eq_true_eq, e_kR, e_kF, e_kVf, e_kVo, e_kMo, q_var, q_move, e_kB2, e_kB1, q_bin, q_bm, e_kNeg, q_neg, e_kNotV, q_notV, e_kAndV, q_andV, e_kOrV, q_orV, e_kIf, q_if,
  e_kIsi, q_isi, e_kIx3, e_kIx2, e_kIx1, q_ixN, e_kRd2_0, e_kRd2_1, e_kRd2_2, e_kRd2_3, e_kRd, q_rd1, e_kTN2, e_kTN, q_tupN, e_kLN2, e_kLN, q_lstN, e_kAp3, e_kAp2, e_kAp1, q_app, e_kPo3, e_kPo2, e_kPo1, e_kCB2, e_kCB,
  q_callB, e_kTp2, e_kTp, q_tup, e_kLs2, e_kLs, q_lst, e_kCa3, e_kCa2, e_kCa, q_call, e_kLc2, e_kLc, q_lc, e_kSl3, e_kSl2, e_kSl1, q_slice, e_kSn4, e_kSn3, e_kSn2, e_kSn1, q_slcN, e_kSt2, e_kSt1, q_step, e_kRp2, e_kRp1,
  q_rep, e_kLr, q_lstRg, e_kBs, q_bsome, e_kAc2, e_kAc1, q_acons, e_kAs2, e_kAs1, q_aslot, e_kTr2, e_kTru, q_tru, e_kTn, q_truN, e_kNot, q_not, e_kAnd, q_and, e_kOr, q_or, e_kTB, q_B, e_kDr, q_drop, e_kRet, q_ret, e_kSi,
  q_sif, e_kSet, q_set, e_kNx, e_kAsg, q_asg, e_kGc, q_gcons, e_kG2, q_T2, e_kSub3, e_kSub2, e_kSub1, e_kSub0, e_kSq2, e_kSeq, q_seq, e_kRg1, q_rng1, e_kRg2, q_rng2, e_kZip, q_zip, e_kFor, q_for, e_kFn_0, e_kFn_1, q_fn,
  e_kDp, q_drp, e_kTurn_0, e_kTurn_1, e_kTurn_2, e_kTurn_3, e_kBody, e_kFind, e_kCi3, e_kCi2, e_kCi1, e_kCp3, e_kCp2, e_kCp1, e_kWh2, e_kWh1, d_frz, d_own, d_inn, put_own, put_inn, isInn_n, isInn_f, isInn_o, tru_l, tru_t,
  tru_b, tru_i, tru_n, e_kI, q_item, put_own, put_inn, lz0, lz1, lz2, lz3, lz4, lz5, lz6, lz7, lz8, lz9, lz10, lz11, lz12, lz13, lz14, lz15, lz16, lz17, lz18, lz19, lz20, lz21, lz22, lz23, lz24, not_true_eq_false, decide_true, decide_false])
noncomputable def lws1 : MS := mset 1 (mcall fn__law_pool (maCons (mvar 0) (maNil)))
noncomputable def lws2 : MS := mset 2 (mbin eqSl (mcall fn__law_draw (maSlot 1 (maCons (mC (.int 13)) (maNil)))) (mC (.int 9)))
noncomputable def lws3 : MS := mset 3 (mbin addD (mC (.int 9)) (mif (mtruN 2) (mbin addD (mC (.int 9)) (mcall fn__law_draw (maSlot 1 (maCons (mC (.int 7)) (maNil))))) (mbin addD (mC (.int 2)) (mcall fn__law_draw (maSlot 1 (maCons (mC (.int 5)) (maNil)))))))
noncomputable def lws4 : MS := mset 4 (mcall fn__law_drawn (maSlot 1 (maCons (mbin subD (mvar 3) (mC (.int 9))) (maNil))))
noncomputable def lws5 : MS := mset 5 (mcall fn__law_made (maSlot 1 (maCons (mbin subD (mvar 3) (mC (.int 9))) (maCons (mC (.bool false)) (maNil)))))
noncomputable def lws6 : MS := mset 6 (mcall fn__law_order (maSlot 1 (maCons (mvar 3) (maNil))))
noncomputable def lws7 : MS := mset 7 (mcall fn__law_book (maSlot 1 (maCons (mbin addD (mvar 4) (mixN 5 (mC (.int 0)))) (maCons (mvar 6) (maNil)))))
noncomputable def lws8 : MS := mset 8 (mbin addD (mC (.int 1)) (mcall fn__law_draw (maSlot 1 (maCons (mif (mtruN 2) (mC (.int 200)) (mC (.int 12))) (maNil)))))
noncomputable def lws9 : MS := mset 9 (mbin subD (mvar 3) (mC (.int 9)))
noncomputable def lws10 : MS := mset 10 (mrep (mlst (maCons (mC (.int 0)) (maNil))) (mC (.int 4)))
noncomputable def lws11 : MS := mpre [11] (mfor (miSeq (mtup (maCons (mixN 6 (mbin addD (mvar 9) (mbin itemSl (mtup (maCons (mC (.int 2)) (maCons (mC (.int 3)) (maCons (mC (.int 6)) (maCons (mC (.int 7)) (maNil)))))) (mcall fn__law_draw (maSlot 1 (maCons (mC (.int 4)) (maNil))))))) (maCons (mixN 6 (mbin addD (mvar 9) (mbin itemSl (mtup (maCons (mC (.int 0)) (maCons (mC (.int 1)) (maCons (mC (.int 4)) (maCons (mC (.int 5)) (maNil)))))) (mcall fn__law_draw (maSlot 1 (maCons (mC (.int 4)) (maNil))))))) (maCons (mcall fn__law_draw (maSlot 1 (maCons (mvar 3) (maNil)))) (maNil)))))) (gset 11) (mdrp [11] (mifS (mtnot (mtru (mcall fn__law_scene (maSlot 1 (maCons (mvar 7) (maCons (mvar 11) (maCons (mvar 8) (maSlot 10 (maNil))))))))) (mret (mC (.bool false))) (mnil))))
noncomputable def lws12 : MS := mset 12 (mrep (mlst (maCons (mC (.int 0)) (maNil))) (mvar 3))
noncomputable def lws13 : MS := msub 12 (mbin itemSl (mixN 5 (mC (.int 1))) (mC (.int 0))) (mixN 6 (mvar 9))
noncomputable def lws14 : MS := msub 12 (mbin itemSl (mixN 5 (mC (.int 1))) (mC (.int 1))) (mixN 6 (mbin addD (mvar 9) (mC (.int 1))))
noncomputable def lws15 : MS := mpre [13, 14, 15] (mfor (miSeq (mtup (maCons (mlst (maNil)) (maCons (mlst (maCons (mvar 9) (maNil))) (maCons (mlst (maCons (mbin addD (mvar 9) (mC (.int 2))) (maNil))) (maCons (mlst (maCons (mbin addD (mvar 9) (mC (.int 8))) (maNil))) (maNil))))))) (gset 13) (mdrp [13, 14, 15] (mseq (mset 14 (mlstN 12)) (mseq (mpre [15] (mfor (miSeq (mvar 13)) (gset 15) (mdrp [15] (msub 14 (mbin addD (mixN 14 (mixN 6 (mvar 15))) (mC (.int 1))) (mixN 6 (mvar 15)))))) (mifS (mtnot (mtru (mcall fn__law_says (maCons (mcall fn_is_closed (maCons (mvar 7) (maCons (mtupN 14) (maNil)))) (maCons (mbin eqSl (mrd1 lenD 13) (mC (.int 0))) (maSlot 10 (maCons (mC (.int 2)) (maNil)))))))) (mret (mC (.bool false))) (mnil))))))
noncomputable def lws16 : MS := mret (mbin eqSl (mcallB lenD (maCons (mlc (miSeq (mvar 10)) (gset 16) (mtB (mbin eqSl (mvar 16) (mC (.int 0)))) (mvar 16) [16]) (maNil))) (mC (.int 0)))
noncomputable def lwr16 : MS := lws16
noncomputable def lwr15 : MS := mseq lws15 lwr16
noncomputable def lwr14 : MS := mseq lws14 lwr15
noncomputable def lwr13 : MS := mseq lws13 lwr14
noncomputable def lwr12 : MS := mseq lws12 lwr13
noncomputable def lwr11 : MS := mseq lws11 lwr12
noncomputable def lwr10 : MS := mseq lws10 lwr11
noncomputable def lwr9 : MS := mseq lws9 lwr10
noncomputable def lwr8 : MS := mseq lws8 lwr9
noncomputable def lwr7 : MS := mseq lws7 lwr8
noncomputable def lwr6 : MS := mseq lws6 lwr7
noncomputable def lwr5 : MS := mseq lws5 lwr6
noncomputable def lwr4 : MS := mseq lws4 lwr5
noncomputable def lwr3 : MS := mseq lws3 lwr4
noncomputable def lwr2 : MS := mseq lws2 lwr3
noncomputable def lwr1 : MS := mseq lws1 lwr2
theorem lw_eq : body_law = lwr1 := rfl
theorem tally_end {ns : List Int} (h : ns.length = 4) (h0 : ∀ i, i < 4 → 1 ≤ gt ns i) : ((((tI ns).filter fun d => decide (valI d = 0))).length : Int) = 0 := by
  have : (tI ns).filter (fun d => decide (valI d = 0)) = [] := List.filter_eq_nil_iff.mpr fun d hd => by
    obtain ⟨t, ht, rfl⟩ := List.mem_map.mp hd
    obtain ⟨i, hi, rfl⟩ := List.getElem_of_mem ht
    have := h0 i (by omega)
    have e : gt ns i = ns[i] := by simp [gt, List.getD_eq_getElem?_getD, List.getElem?_eq_getElem hi]
    rw [e] at this
    intro hc
    have hc : ns[i] = 0 := of_decide_eq_true hc
    omega
  rw [this]
  rfl
theorem turn_nx {g : MG} {b : MS} {ds : List D} {Q : Fl → Ev → Prop} {ev : Ev} : turnS g b ds Q .nx ev ↔ wpL g b ds ev Q := Iff.rfl
theorem four1 {r : Nat} (h : r < 4) : ∃ t : Nat, t ≤ 8 ∧ ([PyData.int 2, .int 3, .int 6, .int 7] : List D)[r]? = some (.int t) := by
  match r, h with
  | 0, _ => exact ⟨2, by decide, rfl⟩
  | 1, _ => exact ⟨3, by decide, rfl⟩
  | 2, _ => exact ⟨6, by decide, rfl⟩
  | 3, _ => exact ⟨7, by decide, rfl⟩
theorem four2 {r : Nat} (h : r < 4) : ∃ t : Nat, t ≤ 8 ∧ ([PyData.int 0, .int 1, .int 4, .int 5] : List D)[r]? = some (.int t) := by
  match r, h with
  | 0, _ => exact ⟨0, by decide, rfl⟩
  | 1, _ => exact ⟨1, by decide, rfl⟩
  | 2, _ => exact ⟨4, by decide, rfl⟩
  | 3, _ => exact ⟨5, by decide, rfl⟩
theorem ring_nn {n m l0 a : Nat} {o : List Nat} : ∀ t ∈ ring n o m l0 a, 0 ≤ t := fun t ht => by
  unfold ring at ht
  rcases List.mem_or_eq_of_mem_set ht with ht | rfl
  · rcases List.mem_or_eq_of_mem_set ht with ht | rfl
    · rw [List.eq_of_mem_replicate ht]; exact Int.le_refl _
    · omega
  · omega
theorem law_wp (ns : List Int) (hn : ns.length ≤ 63) : wpF fn_law [.frz (.list (tI ns))] (fun s _ => s = .frz (.bool true)) := by
  have hsz := size_big
  have r11 : ∀ (m bn : Nat) (ds : List D) (wide : Bool) (rs ms : List Row) (o : List Nat) (b : List Stn) (l0 l1 a more : Nat) (x1 x2 x3 x4 : D), 2 ≤ m → m ≤ 15 → Pool ds → rs.length = m → MadeOk m ms l0 l1 a more → Bk (m + 9) (rs ++ ms) o b → Wb b → 1 ≤ bn → bn ≤ 200 → wpS lwr11 [some (.frz (.list (tI ns))), some (.own ds), some (.frz (.bool wide)), some (.frz (.int ((m + 9 : Nat) : Int))), some (.frz (.list (rs.map encR))), some (.own [.list (ms.map encR), .tuple [.int l0, .int a], x1, x2, x3, x4]), some (.frz (.list (enN o))), some (.frz (encB b)), some (.frz (.int bn)), some (.frz (.int m)), some (.own (tI [0, 0, 0, 0])), none, none, none, none, none, none] (kFn [.frz (.list (tI ns))] (fun s _ => s = .frz (.bool true))) := by
    intro m bn ds wide rs ms o b l0 l1 a more x1 x2 x3 x4 hm1 hm2 hp hrl hmo hbk hwb hb1 hb2
    have hol := hbk.ol
    have hbl := hbk.bl
    unfold lwr11 lws11
    refine wS_seq.mpr ?_
    walk_at "ws"
    refine z__law_draw ds hp 4 (by decide) (by decide) (fun r ds hr hp => ?_)
    obtain ⟨t1, ht1, hr1⟩ := four1 hr
    have a1 : (m : Int) + (t1 : Int) = ((m + t1 : Nat) : Int) := by omega
    exists hr1, a1, og_at (show m + t1 < o.length by omega)
    refine z__law_draw ds hp 4 (by decide) (by decide) (fun r ds hr hp => ?_)
    obtain ⟨t2, ht2, hr2⟩ := four2 hr
    have a2 : (m : Int) + (t2 : Int) = ((m + t2 : Nat) : Int) := by omega
    exists hr2, a2, og_at (show m + t2 < o.length by omega)
    refine z__law_draw ds hp (m + 9) (by omega) (by omega) (fun r3 ds hr3 hp => ?_)
    walk_at "ws"
    refine qL_inv (fun i ev => ∃ (n2 : List Int) (ds : List D), Gr [0, 0, 0, 0] n2 ∧ (0 < i → 1 ≤ gt n2 0 ∧ 1 ≤ gt n2 1) ∧ Pool ds ∧ ev = [some (.frz (.list (tI ns))), some (.own ds), some (.frz (.bool wide)), some (.frz (.int ((m + 9 : Nat) : Int))), some (.frz (.list (rs.map encR))), some (.own [.list (ms.map encR), .tuple [.int l0, .int a], x1, x2, x3, x4]), some (.frz (.list (enN o))), some (.frz (encB b)), some (.frz (.int bn)), some (.frz (.int m)), some (.own (tI n2)), none, none, none, none, none, none]) ⟨[0, 0, 0, 0], ds, Gr.refl rfl, fun h => absurd h (Nat.lt_irrefl 0), hp, rfl⟩ (fun i d ev hd hP => ?_) (fun ev hP => ?_)
    · obtain ⟨n2, ds, hg, hi, hp, rfl⟩ := hP
      have hst : ∃ x : Nat, x < b.length ∧ d = .int x := by
        have := List.mem_of_getElem? hd
        simp only [List.mem_cons, List.not_mem_nil, or_false] at this
        rcases this with rfl | rfl | rfl
        · exact ⟨_, by rw [hbl]; exact hbk.lt (by omega), rfl⟩
        · exact ⟨_, by rw [hbl]; exact hbk.lt (by omega), rfl⟩
        · exact ⟨_, by rw [hbl]; exact hr3, rfl⟩
      obtain ⟨x, hx, rfl⟩ := hst
      walk_at "ws"
      refine ⟨by decide, ?_⟩
      refine z__law_scene b hwb ds hp x hx bn (by omega) (by omega) n2 hg.l (fun n3 ds hg3 h0 h1 hp => ?_)
      walk_at "ws"
      have p0 := hg.g 0 (by decide)
      have p1 := hg.g 1 (by decide)
      have q0 : gt [0, 0, 0, 0] 0 = 0 := rfl
      have q1 : gt [0, 0, 0, 0] 1 = 0 := rfl
      exact ⟨n3, ds, hg.trans hg3, fun _ => ⟨by omega, by omega⟩, hp, rfl, rfl⟩
    · clear hp
      obtain ⟨n2, ds, hg, hi, hp, rfl⟩ := hP
      have hi := hi (by show 0 < 3; decide)
      unfold lwr12 lws12
      walk_at "ws"
      refine wS_seq.mpr ?_
      walk_at "ws"
      refine ⟨⟨by omega, by omega, by omega⟩, ?_⟩
      rw [rep_one, Int.toNat_natCast, show List.replicate (m + 9) (PyData.int 0) = tI (List.replicate (m + 9) 0) by simp [tI]]
      generalize hz0 : List.replicate (m + 9) (0 : Int) = z0
      have hzl : z0.length = m + 9 := by rw [← hz0, List.length_replicate]
      unfold lwr13 lws13
      refine wS_seq.mpr ?_
      walk_at "sb"
      exists og_at (show m < o.length by omega)
      refine ⟨og o m, rfl, by rw [List.length_map, hzl]; exact hbk.lt (by omega), ?_⟩
      rw [tI_set]
      unfold lwr14 lws14
      refine wS_seq.mpr ?_
      walk_at "sb"
      have m1 : (m : Int) + 1 = ((m + 1 : Nat) : Int) := by omega
      exists m1, og_at (show m + 1 < o.length by omega)
      refine ⟨og o (m + 1), rfl, by rw [List.length_map, List.length_set, hzl]; exact hbk.lt (by omega), ?_⟩
      rw [tI_set, show (z0.set (og o m) l0).set (og o (m + 1)) a = ring (m + 9) o m l0 a by rw [← hz0]; rfl]
      unfold lwr15 lws15
      refine wS_seq.mpr ?_
      walk_at "ws"
      refine qL_inv (fun i ev => ∃ (n3 : List Int), Gr n2 n3 ∧ (0 < i → 1 ≤ gt n3 3) ∧ (1 < i → 1 ≤ gt n3 2) ∧ ev = [some (.frz (.list (tI ns))), some (.own ds), some (.frz (.bool wide)), some (.frz (.int ((m + 9 : Nat) : Int))), some (.frz (.list (rs.map encR))), some (.own [.list (ms.map encR), .tuple [.int l0, .int a], x1, x2, x3, x4]), some (.frz (.list (enN o))), some (.frz (encB b)), some (.frz (.int bn)), some (.frz (.int m)), some (.own (tI n3)), none, some (.own (tI (ring (m + 9) o m l0 a))), none, none, none, none]) ⟨n2, Gr.refl hg.l, fun h => absurd h (Nat.lt_irrefl 0), fun h => absurd h (by decide), rfl⟩ (fun i d ev hd hP => ?_) (fun ev hP => ?_)
      · obtain ⟨n3, hg3, h3, h2, rfl⟩ := hP
        have gl := hg3.l
        have said : ∀ (T : List Int) (t : Bool), T.length = m + 9 → (∀ x ∈ T, 0 ≤ x) → closedB b T = t → closedD b (.tuple (tI T)) = t := fun T t hT h0 hc => by
          have e : isTab b.length (.tuple (tI T)) = true := isTab_tI (by rw [hT, hbl]) h0
          simp only [closedD, e, tabI_tI, Bool.true_and]
          exact hc
        have rt := ring_true hbk hwb hrl hmo
        have rf := ring_false hbk hrl hmo
        have rn := ring_nn (n := m + 9) (m := m) (l0 := l0) (a := a) (o := o)
        have rl := ring_len (n := m + 9) (m := m) (l0 := l0) (a := a) (o := o)
        generalize hring : ring (m + 9) o m l0 a = T0 at rt rf rn rl
        have cases4 : (d = .list [] ∧ i = 0) ∨ ∃ x : Nat, (x = m ∨ x = m + 2 ∨ x = m + 8) ∧ d = .list [.int x] ∧ 0 < i := by
          match i, hd with
          | 0, hd => cases hd; exact .inl ⟨rfl, rfl⟩
          | 1, hd => cases hd; exact .inr ⟨m, .inl rfl, rfl, by decide⟩
          | 2, hd => cases hd; exact .inr ⟨m + 2, .inr (.inl rfl), rfl, by decide⟩
          | 3, hd => cases hd; exact .inr ⟨m + 8, .inr (.inr rfl), rfl, by decide⟩
          | i + 4, hd => cases hd
        rcases cases4 with ⟨rfl, rfl⟩ | ⟨x, hx, rfl, hi0⟩
        · walk_at "ws"
          walk_at "st"
          refine wS_seq.mpr ?_
          walk_at "ws"
          rw [wL_nil]
          walk_at "ws"
          refine z_is_closed b hwb.toWf _ ?_
          rw [said T0 true rl rn rt]
          walk_at "ws"
          have e0 : decide (((0 : Nat) : Int) = 0) = true := rfl
          rw [e0]
          refine z__law_says true n3 2 (by rw [gl]; decide) ?_
          walk_at "ws"
          have g0 := hg.g 3 (by decide)
          have g1 := hg3.g 3 (by decide)
          have q3 : gt [0, 0, 0, 0] 3 = 0 := rfl
          refine ⟨bump n3 3, hg3.trans (bump_gr gl 3), fun _ => ?_, fun h => absurd h (by decide), rfl⟩
          rw [bump_at (by rw [gl]; decide)]
          omega
        · have hx9 : x < m + 9 := by omega
          have hxo : x < o.length := by omega
          have hxl : og o x < T0.length := by rw [rl]; exact hbk.lt hx9
          walk_at "ws"
          walk_at "st"
          refine wS_seq.mpr ?_
          walk_at "ws"
          rw [wL_cons]
          walk_at "ws"
          walk_at "sb"
          exists og_at hxo, tI_at hxl
          refine ⟨og o x, rfl, by rw [List.length_map]; exact hxl, ?_⟩
          rw [tI_set]
          exists turn_nx, @wL_nil
          have rfx := rf x hx
          refine z_is_closed b hwb.toWf _ ?_
          rw [said (T0.set (og o x) (gt T0 (og o x) + 1)) false (by rw [List.length_set, rl]) (fun t ht => ?_) rfx]
          · walk_at "ws"
            have e0 : decide (((1 : Nat) : Int) = 0) = false := rfl
            rw [e0]
            refine z__law_says false n3 2 (by rw [gl]; decide) ?_
            walk_at "ws"
            have g0 := hg.g 2 (by decide)
            have g1 := hg3.g 2 (by decide)
            have q3 : gt [0, 0, 0, 0] 2 = 0 := rfl
            have gr := bump_gr gl 2
            refine ⟨bump n3 2, hg3.trans gr, fun _ => Int.le_trans (h3 hi0) (gr.g 3 (by decide)), fun _ => ?_, rfl⟩
            rw [bump_at (by rw [gl]; decide)]
            omega
          · rcases List.mem_or_eq_of_mem_set ht with ht | rfl
            · exact rn t ht
            · have := rn _ (gt_mem hxl)
              omega
      · obtain ⟨n3, hg3, h3, h2, rfl⟩ := hP
        have h3 := h3 (by show 0 < 4; decide)
        have h2 := h2 (by show 1 < 4; decide)
        unfold lwr16 lws16
        walk_at "ws"
        have gl := hg3.l
        refine qC_pure (fun d => decide (valI d = 0)) (fun d => d) (by rw [List.length_map, gl]; omega) (fun j d hd => ?_) ?_
        · obtain ⟨t, ht, rfl⟩ := List.mem_map.mp (List.mem_of_getElem? hd)
          walk_at "ws"
          by_cases h0 : t = 0 <;> simp [h0, valI]
        · rw [List.map_id']
          have te := tally_end gl fun i hi4 => by
            have g0 := hg3.g 0 (by decide)
            have g1 := hg3.g 1 (by decide)
            match i, hi4 with
            | 0, _ => omega
            | 1, _ => omega
            | 2, _ => exact h2
            | 3, _ => exact h3
          walk_at "ws"
          rw [te]
          rfl
  have r4 : ∀ (m : Nat) (ds : List D) (wide : Bool), 2 ≤ m → m ≤ 15 → Pool ds → wpS lwr4 [some (.frz (.list (tI ns))), some (.own ds), some (.frz (.bool wide)), some (.frz (.int ((m + 9 : Nat) : Int))), none, none, none, none, none, none, none, none, none, none, none, none, none] (kFn [.frz (.list (tI ns))] (fun s _ => s = .frz (.bool true))) := by
    intro m ds wide hm1 hm2 hp
    have hm9 : ((m + 9 : Nat) : Int) - 9 = (m : Int) := by omega
    unfold lwr4 lws4
    refine wS_seq.mpr ?_
    exists hm9
    refine z__law_drawn ds hp m (by omega) (by omega) (fun rs os ds hrl hol hro hp => ?_)
    walk_at "ws"
    unfold lwr5 lws5
    refine wS_seq.mpr ?_
    exists hm9
    refine z__law_made ds hp m (by omega) (fun ms l0 l1 a more ds x1 x2 x3 x4 hmo hp => ?_)
    walk_at "ws"
    unfold lwr6 lws6
    refine wS_seq.mpr ?_
    walk_at "ws"
    refine z__law_order ds hp (m + 9) (by omega) (fun o ds ho hp => ?_)
    walk_at "ws"
    unfold lwr7 lws7
    refine wS_seq.mpr ?_
    walk_at "ws"
    have hml : ms.length = 9 := by
      obtain ⟨_, _, _, _, _, _, _, _, _, _, rfl, _⟩ := hmo.rs
      rfl
    have hR : (rs ++ ms).length = m + 9 := by rw [List.length_append, hrl, hml]
    have rok := rows_ok hrl hro hmo
    refine ⟨by rw [List.length_map, List.length_map]; omega, ?_⟩
    rw [← List.map_append]
    refine z__law_book ds hp (rs ++ ms) o (by omega) (by rw [hR]; exact ho) (fun i hi => ?_) (fun b ds hbl hbs hp => ?_)
    · rw [hR] at hi
      obtain ⟨_, _, _, e1, e2⟩ := rok.h i hi
      exact ⟨e1, fun g hg => by rw [hR]; exact (e2 g hg).1⟩
    · have hbk : Bk (m + 9) (rs ++ ms) o b := ⟨hR, ho, by rw [hbl, hR], fun i hi => hbs i (by rw [hR]; exact hi)⟩
      have hwb := hbk.wb rok (by omega) (by omega)
      walk_at "ws"
      unfold lwr8 lws8
      refine wS_seq.mpr ?_
      walk_at "ws"
      have go : ∀ (r : Nat) (ds : List D), r < 200 → Pool ds → wpS lwr9 [some (.frz (.list (tI ns))), some (.own ds), some (.frz (.bool wide)), some (.frz (.int ((m + 9 : Nat) : Int))), some (.frz (.list (rs.map encR))), some (.own [.list (ms.map encR), .tuple [.int l0, .int a], x1, x2, x3, x4]), some (.frz (.list (enN o))), some (.frz (encB b)), some (.frz (.int (1 + (r : Int)))), none, none, none, none, none, none, none, none] (kFn [.frz (.list (tI ns))] (fun s _ => s = .frz (.bool true))) := by
        intro r ds hr hp
        unfold lwr9 lws9
        refine wS_seq.mpr ?_
        exists hm9
        unfold lwr10 lws10
        refine wS_seq.mpr ?_
        walk_at "ws"
        refine ⟨by decide, ?_⟩
        rw [show (1 : Int) + (r : Int) = ((1 + r : Nat) : Int) by omega]
        exact r11 m (1 + r) ds wide rs ms o b l0 l1 a more x1 x2 x3 x4 hm1 hm2 hp hrl hmo hbk hwb (by omega) (by omega)
      cases wide with
      | true =>
        walk_at "ws"
        refine z__law_draw ds hp 200 (by decide) (by decide) (fun r ds hr hp => ?_)
        walk_at "ws"
        exact go r ds hr hp
      | false =>
        walk_at "ws"
        refine z__law_draw ds hp 12 (by decide) (by decide) (fun r ds hr hp => ?_)
        walk_at "ws"
        exact go r ds (by omega) hp
  unfold fn_law
  rw [lw_eq]
  walk_at "ws"
  unfold lwr1 lws1
  refine wS_seq.mpr ?_
  walk_at "ws"
  refine z__law_pool ns hn (fun ds hp => ?_)
  walk_at "ws"
  unfold lwr2 lws2
  refine wS_seq.mpr ?_
  walk_at "ws"
  refine z__law_draw ds hp 13 (by decide) (by decide) (fun r ds hr hp => ?_)
  walk_at "ws"
  generalize decide ((r : Int) = 9) = wide
  unfold lwr3 lws3
  refine wS_seq.mpr ?_
  walk_at "ws"
  cases wide with
  | true =>
    walk_at "ws"
    refine z__law_draw ds hp 7 (by decide) (by decide) (fun r ds hr hp => ?_)
    walk_at "ws"
    rw [show (9 : Int) + (9 + (r : Int)) = ((9 + r + 9 : Nat) : Int) by omega]
    exact r4 (9 + r) ds true (by omega) (by omega) hp
  | false =>
    walk_at "ws"
    refine z__law_draw ds hp 5 (by decide) (by decide) (fun r ds hr hp => ?_)
    walk_at "ws"
    rw [show (9 : Int) + (2 + (r : Int)) = ((2 + r + 9 : Nat) : Int) by omega]
    exact r4 (2 + r) ds false (by omega) (by omega) hp
theorem law_ok : ∀ ns : List Int, ns.length ≤ 63 → ∃ outs, fn_law [.frz (.list (ns.map PyData.int))] = some (.frz (.bool true), outs) := by
  intro ns hn
  obtain ⟨r, e, q⟩ := law_wp ns hn
  exact ⟨r.2, by rw [← q]; exact e⟩
end Law
end
set_option Elab.async false
set_option linter.all false
set_option maxRecDepth 100000
set_option maxHeartbeats 16000000
open PySem PySem.W PySem.Calls PyProof.Rows
theorem PySem.Challenge.cw_alwayswritten_k91_whole_spoilt_tables_cl_holds : PySem.Challenge.rw_alwayswritten_k91_whole_spoilt_tables_cl.Holds := by
  w_on; o_law
  refine HandSHeadRun.head_any (r := OpenLaw.row PySem.Challenge.rw_alwayswritten_k91_whole_spoilt_tables_cl) (q := view (OpenLaw.row PySem.Challenge.rw_alwayswritten_k91_whole_spoilt_tables_cl).prog [32]) (H := Law.hk) (ob := Law.ob) (M := 6000) (loose := Law.loose) (d := HandSHeadRun.topDef (OpenLaw.row PySem.Challenge.rw_alwayswritten_k91_whole_spoilt_tables_cl).prog 32) (kwd := []) Law.ob_eq
    (by kernel_rfl) (fun s => by kernel_rfl) Law.run (by kernel_rfl) (by kernel_rfl) (by kernel_rfl) (by rfl) (by first | assumption | decide +kernel) (by decide +kernel) ⟨rfl, rfl, rfl, rfl, rfl, by decide +kernel⟩ ?hw ?hc
  case hw => w_witness2
  case hc =>
    refine L2.walk_ofE (l := PySem.Challenge.rw_alwayswritten_k91_whole_spoilt_tables_cl) (n := 63) (k := 7) (x := "script") (CX := L2.CX0) rfl (by decide) (by kernel_rfl) ⟨rfl, by decide, by decide⟩ ?F (fun _ _ _ _ z => z)
    intro w mg fa h Y G hmg0
    obtain ⟨K, KX, c⟩ := Y
    have hmg : mg ("law" : PySem.Str) = some (.ref fa) := by
      have e : (HandSHeadRun.topDef (OpenLaw.row PySem.Challenge.rw_alwayswritten_k91_whole_spoilt_tables_cl).prog 32).name = ("law" : PySem.Str) := by kernel_rfl
      rw [← e]
      exact hmg0
    obtain ⟨fd, hb, hF⟩ := Law.facts (P := (PySem.Challenge.rw_alwayswritten_k91_whole_spoilt_tables_cl).prog) (w := w) KX G hmg c
    exact ⟨K, fd, MM.spM K 1 Law.fn_law, KX, hb, fun H a ns hl _ hS => Law.law_end Law.law_ok K H a ns hl hS, hF⟩
