import PyProof.Rows.All
import Wide.All
import OpenK.AllK
import Wide.FinOn
import HandS.ForMost
import HandS.Style
import HandS.TupAny
import HandS.TupLe
import HandS.IsInst
import HandS.Deep
import PySem.Challenge.RW_pegfigures_k40_whole_parts_as_turnings
set_option Elab.async false
set_option linter.all false
set_option maxRecDepth 100000
set_option maxHeartbeats 4000000
/-! PL: a pure layer. Pieces of syntax against plain Lean functions on data. -/
namespace PL
open PySem PySem.Spec PyProof.Rows L2

abbrev D := PyData
/-- the locals by slot -/
abbrev Lo := List (Option D)
/-- what depends on the draws so far, and may fail -/
abbrev M (α : Type) := List Int → Option (α × List Int)
def mp {α : Type} (a : α) : M α := fun h => some (a, h)
def mb {α β : Type} (m : M α) (k : α → M β) : M β := fun h => match m h with
  | some (a, h') => k a h'
  | none => none
def ml {α : Type} (o : Option α) : M α := fun h => match o with
  | some a => some (a, h)
  | none => none
theorem mb_some {α β : Type} {m : M α} {k : α → M β} {h h' : List Int} {b : β} (e : mb m k h = some (b, h')) : ∃ a h1, m h = some (a, h1) ∧ k a h1 = some (b, h') := by
  unfold mb at e
  cases q : m h with
  | none => rw [q] at e; cases e
  | some p => rw [q] at e; exact ⟨p.1, p.2, rfl, e⟩
theorem ml_some {α : Type} {o : Option α} {h h' : List Int} {a : α} (e : ml o h = some (a, h')) : o = some a ∧ h' = h := by
  unfold ml at e
  cases o with
  | none => cases e
  | some x => cases e; exact ⟨rfl, rfl⟩
theorem mp_some {α : Type} {x a : α} {h h' : List Int} (e : mp x h = some (a, h')) : a = x ∧ h' = h := by
  cases e; exact ⟨rfl, rfl⟩

/-- the draws: where their objects stand, what is true of them behind a history, what they give -/
structure Orc where
  slot : Option Nat
  adr : Addr
  OC : Addr → Prop
  OR : List Int → Hp → Prop
  o : List Int → Int → Int
  alloc : ∀ h H, OR h H → ∀ p, OC p → H p ≠ none
  stable : ∀ h H H', OR h H → (∀ p o, OC p → H p = some o → H' p = some o) → OR h H'
/-- no draws -/
def Orc.no : Orc := ⟨none, 0, fun _ => False, fun _ _ => True, fun _ _ => 0, fun _ _ _ _ h => h.elim, fun _ _ _ _ _ => trivial⟩

/-- from the frozen heap F within H to F' within H' -/
structure Stp (Ω : Orc) (F H F' H' : Hp) : Prop where
  sf : Same F F'
  fh : Same F' H'
  kp : ∀ p o, H p = some o → ¬ Ω.OC p → H' p = some o
  ap : ∀ p, H p ≠ none → F p = none → F' p = none
  al : ∀ p, H p ≠ none → H' p ≠ none
/-- .. where all stays -/
structure Stq (F H F' H' : Hp) : Prop where
  sf : Same F F'
  fh : Same F' H'
  kp : Same H H'
  ap : ∀ p, H p ≠ none → F p = none → F' p = none
section
variable {Ω : Orc} {F H F1 H1 F2 H2 : Hp}
theorem Stp.refl (s : Same F H) : Stp Ω F H F H := ⟨Same.refl _, s, fun _ _ h _ => h, fun _ _ h => h, fun _ h => h⟩
theorem Stp.trans (a : Stp Ω F H F1 H1) (b : Stp Ω F1 H1 F2 H2) : Stp Ω F H F2 H2 :=
  ⟨a.sf.trans b.sf, b.fh, fun p o h n => b.kp p o (a.kp p o h n) n, fun p h n => b.ap p (a.al p h) (a.ap p h n), fun p h => b.al p (a.al p h)⟩
theorem Same.some {H H' : Hp} (s : Same H H') {p : Addr} (h : H p ≠ none) : H' p ≠ none := by
  cases e : H p with
  | none => exact absurd e h
  | some o => rw [s p o e]; simp
theorem Stq.stp (s : Stq F H F1 H1) : Stp Ω F H F1 H1 := ⟨s.sf, s.fh, fun p o h _ => s.kp p o h, s.ap, fun _ h => Same.some s.kp h⟩
theorem Stq.refl (s : Same F H) : Stq F H F H := ⟨Same.refl _, s, Same.refl _, fun _ _ h => h⟩
theorem Stq.orc {h : List Int} (s : Stq F H F1 H1) (o : Ω.OR h H) : Ω.OR h H1 := Ω.stable h H H1 o fun p o _ e => s.kp p o e
/-- a new object, frozen at once -/
theorem same_upd {H : Hp} {p : Addr} {o : HO} (h : H p = none) : Same H (upd H p o) := fun b x e => by
  rw [upd_ne (ne_of_none e h)]
  exact e
theorem same_upd2 {F H : Hp} {p : Addr} {o : HO} (s : Same F H) : Same F H → Same (upd F p o) (upd H p o) := fun _ b x e => by
  by_cases hb : b = p
  · subst hb; rw [upd_same] at e ⊢; exact e
  · rw [upd_ne hb] at e ⊢; exact s b x e
theorem Stq.new {p : Addr} {o : HO} (s : Same F H) (n : H p = none) : Stq F H (upd F p o) (upd H p o) :=
  ⟨same_upd (s.free n), same_upd2 s s, same_upd n, fun q h z => by
    have : q ≠ p := by rintro rfl; exact h n
    rw [upd_ne this]; exact z⟩
end

/-! ### data -/
theorem sqT_mono {K : PySem.W.Frag} {H H' : Hp} {a : Addr} {xs : List V} (e : Same H H') (h : SqT K H a xs) : SqT K H' a xs := by
  rcases h with (h | ⟨o, h⟩) | h
  · exact .inl (.inl (e _ _ h))
  · exact .inl (.inr ⟨o, e _ _ h⟩)
  · exact .inr h
mutual
theorem Dp_mono {K : PySem.W.Frag} {H H' : Hp} (e : Same H H') : ∀ {d : D} {v : V}, Dp K H v d → Dp K H' v d
  | .none, _, .non => .non
  | .bool _, _, .bl b => .bl b
  | .int _, _, .int i => .int i
  | .str _, _, .str x => .str x
  | .list _, _, .lst s a => .lst (e.seq s) (DpAll_mono e a)
  | .tuple _, _, .tup s a => .tup (sqT_mono e s) (DpAll_mono e a)
theorem DpAll_mono {K : PySem.W.Frag} {H H' : Hp} (e : Same H H') : ∀ {ds : List D} {vs : List V}, DpAll K H vs ds → DpAll K H' vs ds
  | [], _, .nil => .nil
  | _ :: _, _, .cons a b => .cons (Dp_mono e a) (DpAll_mono e b)
end
theorem DpAll.length {K : PySem.W.Frag} {H : Hp} : ∀ {ds : List D} {vs : List V}, DpAll K H vs ds → vs.length = ds.length
  | [], _, .nil => rfl
  | _ :: _, _, .cons _ b => by simp [DpAll.length b]
theorem DpAll.append {K : PySem.W.Frag} {H : Hp} : ∀ {ds es : List D} {vs us : List V}, DpAll K H vs ds → DpAll K H us es → DpAll K H (vs ++ us) (ds ++ es)
  | [], _, _, _, .nil, b => b
  | _ :: _, _, _, _, .cons a r, b => .cons a (DpAll.append r b)
theorem DpAll.get {K : PySem.W.Frag} {H : Hp} : ∀ {ds : List D} {vs : List V} {i : Nat} {d : D}, DpAll K H vs ds → ds[i]? = some d → ∃ v, vs[i]? = some v ∧ Dp K H v d
  | [], [], _, _, .nil, h => by simp at h
  | d :: _, v :: _, 0, e, .cons a _, h => by simp at h; subst h; exact ⟨v, rfl, a⟩
  | _ :: ds, _ :: vs, i + 1, e, .cons _ b, h => by simpa using DpAll.get (i := i) b (by simpa using h)
theorem DpAll.get' {K : PySem.W.Frag} {H : Hp} : ∀ {ds : List D} {vs : List V} {i : Nat} {v : V}, DpAll K H vs ds → vs[i]? = some v → ∃ d, ds[i]? = some d ∧ Dp K H v d
  | [], [], _, _, .nil, h => by simp at h
  | d :: _, v :: _, 0, e, .cons a _, h => by simp at h; subst h; exact ⟨d, rfl, a⟩
  | _ :: ds, _ :: vs, i + 1, e, .cons _ b, h => by simpa using DpAll.get' (i := i) b (by simpa using h)
theorem DpAll.take {K : PySem.W.Frag} {H : Hp} : ∀ (n : Nat) {ds : List D} {vs : List V}, DpAll K H vs ds → DpAll K H (vs.take n) (ds.take n)
  | 0, _, _, _ => .nil
  | _ + 1, _, _, .nil => .nil
  | n + 1, _, _, .cons a b => .cons a (DpAll.take n b)
theorem DpAll.drop {K : PySem.W.Frag} {H : Hp} : ∀ (n : Nat) {ds : List D} {vs : List V}, DpAll K H vs ds → DpAll K H (vs.drop n) (ds.drop n)
  | 0, _, _, h => h
  | _ + 1, _, _, .nil => .nil
  | n + 1, _, _, .cons _ b => DpAll.drop n b
theorem DpAll.reverse {K : PySem.W.Frag} {H : Hp} : ∀ {ds : List D} {vs : List V}, DpAll K H vs ds → DpAll K H vs.reverse ds.reverse
  | [], _, .nil => .nil
  | _ :: _, _, .cons a b => by
    rw [List.reverse_cons, List.reverse_cons]
    exact DpAll.append (DpAll.reverse b) (.cons a .nil)

/-! ### the state -/
/-- a list that only one slot holds -/
def OwnAt (K : PySem.W.Frag) (Ω : Orc) (H0 F H : Hp) (p : Addr) (d : D) : Prop :=
  ∃ xs ds, d = .list ds ∧ H p = some (.lst xs) ∧ DpAll K F xs ds ∧ F p = none ∧ H0 p = none ∧ ¬ Ω.OC p
structure SR (K : PySem.W.Frag) (Ω : Orc) (ow : List Nat) (F0 H0 F H : Hp) (σ : L2.St) (ρ : Lo) (h : List Int) : Prop where
  st : Stp Ω F0 H0 F H
  len : σ.length = ρ.length
  val : ∀ i d, i ∉ ow → ρ[i]? = some (some d) → ∃ v, σ[i]? = some (some v) ∧ Dp K F v d
  own : ∀ i d, i ∈ ow → ρ[i]? = some (some d) → ∃ p, σ[i]? = some (some (.ref p)) ∧ OwnAt K Ω H0 F H p d
  apart : ∀ i j p d e, i ∈ ow → j ∈ ow → ρ[i]? = some (some d) → ρ[j]? = some (some e) → σ[i]? = some (some (.ref p)) → σ[j]? = some (some (.ref p)) → i = j
  orc : Ω.OR h H
  ocf : ∀ p, Ω.OC p → F p = none
  pool : ∀ i, Ω.slot = some i → σ[i]? = some (some (.ref Ω.adr)) ∧ ρ[i]? = some none
section
variable {K : PySem.W.Frag} {Ω : Orc} {ow : List Nat} {F0 H0 F H F1 H1 : Hp} {σ : L2.St} {ρ : Lo} {h h1 : List Int}
theorem OwnAt.next {p : Addr} {d : D} (o : OwnAt K Ω H0 F H p d) (s : Stp Ω F H F1 H1) : OwnAt K Ω H0 F1 H1 p d := by
  obtain ⟨xs, ds, rfl, e, a, n, n0, oc⟩ := o
  exact ⟨xs, ds, rfl, s.kp p _ e oc, DpAll_mono s.sf a, s.ap p (by rw [e]; simp) n, n0, oc⟩
theorem SR.next (S : SR K Ω ow F0 H0 F H σ ρ h) (s : Stp Ω F H F1 H1) (o : Ω.OR h1 H1) : SR K Ω ow F0 H0 F1 H1 σ ρ h1 :=
  ⟨S.st.trans s, S.len, fun i d hi e => let ⟨v, a, b⟩ := S.val i d hi e; ⟨v, a, Dp_mono s.sf b⟩, fun i d hi e => let ⟨p, a, b⟩ := S.own i d hi e; ⟨p, a, b.next s⟩, S.apart, o,
    fun p hp => s.ap p (Ω.alloc h H S.orc p hp) (S.ocf p hp), S.pool⟩
theorem SR.fh (S : SR K Ω ow F0 H0 F H σ ρ h) : Same F H := S.st.fh
/-- fewer slots are known to hold what no other holds -/
theorem SR.thaw (S : SR K Ω ow F0 H0 F H σ ρ h) (ow' : List Nat) (sub : ∀ i ∈ ow', i ∈ ow) :
    ∃ F', Stp Ω F0 H0 F' H ∧ Same F F' ∧ SR K Ω ow' F0 H0 F' H σ ρ h := by
  classical
  refine ⟨fun p => if (∃ i d, i ∈ ow ∧ i ∉ ow' ∧ ρ[i]? = some (some d) ∧ σ[i]? = some (some (.ref p))) then H p else F p, ?_⟩
  generalize hF : (fun p => if (∃ i d, i ∈ ow ∧ i ∉ ow' ∧ ρ[i]? = some (some d) ∧ σ[i]? = some (some (.ref p))) then H p else F p) = F'
  have at1 : ∀ {p : Addr}, (∃ i d, i ∈ ow ∧ i ∉ ow' ∧ ρ[i]? = some (some d) ∧ σ[i]? = some (some (.ref p))) → F' p = H p := fun {p} q => by rw [← hF]; exact if_pos q
  have at2 : ∀ {p : Addr}, ¬ (∃ i d, i ∈ ow ∧ i ∉ ow' ∧ ρ[i]? = some (some d) ∧ σ[i]? = some (some (.ref p))) → F' p = F p := fun {p} q => by rw [← hF]; exact if_neg q
  have own' : ∀ {p : Addr}, (∃ i d, i ∈ ow ∧ i ∉ ow' ∧ ρ[i]? = some (some d) ∧ σ[i]? = some (some (.ref p))) → ∃ d, OwnAt K Ω H0 F H p d := fun {p} ⟨i, d, h1, _, h3, h4⟩ => by
    obtain ⟨p', e, o⟩ := S.own i d h1 h3
    rw [h4] at e
    cases e
    exact ⟨d, o⟩
  have sf : Same F F' := fun p o e => by
    by_cases q : ∃ i d, i ∈ ow ∧ i ∉ ow' ∧ ρ[i]? = some (some d) ∧ σ[i]? = some (some (.ref p))
    · rw [at1 q]; exact S.fh p o e
    · rw [at2 q]; exact e
  have st : Stp Ω F0 H0 F' H := ⟨S.st.sf.trans sf, fun p o e => by
      by_cases q : ∃ i d, i ∈ ow ∧ i ∉ ow' ∧ ρ[i]? = some (some d) ∧ σ[i]? = some (some (.ref p))
      · rw [at1 q] at e; exact e
      · rw [at2 q] at e; exact S.fh p o e, S.st.kp, fun p hp n => by
      by_cases q : ∃ i d, i ∈ ow ∧ i ∉ ow' ∧ ρ[i]? = some (some d) ∧ σ[i]? = some (some (.ref p))
      · obtain ⟨d, _, _, _, _, _, _, n0, _⟩ := own' q
        exact absurd n0 hp
      · rw [at2 q]; exact S.st.ap p hp n, S.st.al⟩
  refine ⟨st, sf, ⟨st, S.len, fun i d hi e => ?_, fun i d hi e => ?_, fun i j p d e hi hj => S.apart i j p d e (sub i hi) (sub j hj), S.orc, fun p hp => ?_, S.pool⟩⟩
  · by_cases hw : i ∈ ow
    · obtain ⟨p, e1, xs, ds, rfl, e2, a, n, n0, oc⟩ := S.own i d hw e
      refine ⟨_, e1, .lst (.inl (.inl ?_)) (DpAll_mono sf a)⟩
      rw [at1 ⟨i, _, hw, hi, e, e1⟩]
      exact e2
    · obtain ⟨v, e1, a⟩ := S.val i d hw e
      exact ⟨v, e1, Dp_mono sf a⟩
  · obtain ⟨p, e1, xs, ds, rfl, e2, a, n, n0, oc⟩ := S.own i d (sub i hi) e
    refine ⟨p, e1, xs, ds, rfl, e2, DpAll_mono sf a, ?_, n0, oc⟩
    rw [at2]
    · exact n
    · rintro ⟨j, d', h1, h2, h3, h4⟩
      have := S.apart i j p _ d' (sub i hi) h1 e h3 e1 h4
      subst this
      exact h2 hi
  · rw [at2]
    · exact S.ocf p hp
    · intro q
      obtain ⟨d, _, _, _, _, _, _, _, oc⟩ := own' q
      exact oc hp
end

/-! ### judgements -/
/-- the largest readings -/
def WE (X : Cx) (e : Expr) : TE := fun σ H Q => ∀ pins s, Inv X pins σ H s → wpAny (model X.prog X.w) X.A (eval e X.env) (EP X pins σ Q) X.xe s
def WT (X : Cx) (e : Expr) : TT := fun σ H Q => ∀ pins s, Inv X pins σ H s → wpAny (model X.prog X.w) X.A (isTrue e X.env (eval e X.env)) (TP X pins σ Q) X.xe s
def WW (X : Cx) (e : Expr) : TT := fun σ H Q => ∀ whole pins s, Inv X pins σ H s → wpAny (model X.prog X.w) X.A (isTrue e X.env whole) (TP X pins σ Q) X.xe s
def WA (X : Cx) (es : List Expr) : TA := fun σ H Q => ∀ pos pins s, Inv X pins σ H s → wpAny (model X.prog X.w) X.A (spliced (backTo pos (starEach es X.env))) (AP X pins σ Q) X.xe s
def WS (X : Cx) (st : Stmt) : TS := fun Dn σ H => ∀ pins s, Inv X pins σ H s → wpAny (model X.prog X.w) X.A (exec st X.env) (SP X pins Dn) X.xe s
def WSs (X : Cx) (st : List Stmt) : TS := fun Dn σ H => ∀ pins s, Inv X pins σ H s → wpAny (model X.prog X.w) X.A (execs st X.env) (SP X pins Dn) X.xe s
section
variable {X : Cx} {e : Expr} {es : List Expr} {st : Stmt} {sts : List Stmt} {t : TE} {tt : TT} {ta : TA} {ts : TS} {σ : L2.St} {H : Hp}
theorem we : PE X e (WE X e) := ⟨fun pins s _ _ _ I h => h pins s I⟩
theorem wt : PT X e (WT X e) := ⟨fun pins s _ _ _ I h => h pins s I⟩
theorem ww : PW X e (WW X e) := ⟨fun whole pins s _ _ _ I h => h whole pins s I⟩
theorem wa : PA X es (WA X es) := ⟨fun pos pins s _ _ _ I h => h pos pins s I⟩
theorem ws : PS X st (WS X st) := ⟨fun pins s _ _ _ I h => h pins s I⟩
theorem wss : PSs X sts (WSs X sts) := ⟨fun pins s _ _ _ I h => h pins s I⟩
theorem we_of {Q : VK} (p : PE X e t) (h : t σ H Q) : WE X e σ H Q := fun pins s I => p.run pins s σ H Q I h
theorem wt_of {Q} (p : PT X e tt) (h : tt σ H Q) : WT X e σ H Q := fun pins s I => p.run pins s σ H Q I h
theorem ww_of {Q} (p : PW X e tt) (h : tt σ H Q) : WW X e σ H Q := fun w pins s I => p.run w pins s σ H Q I h
theorem wa_of {Q} (p : PA X es ta) (h : ta σ H Q) : WA X es σ H Q := fun pos pins s I => p.run pos pins s σ H Q I h
theorem ws_of {Dn} (p : PS X st ts) (h : ts Dn σ H) : WS X st Dn σ H := fun pins s I => p.run pins s σ H Dn I h
theorem wss_of {Dn} (p : PSs X sts ts) (h : ts Dn σ H) : WSs X sts Dn σ H := fun pins s I => p.run pins s σ H Dn I h
end

section
variable (X : Cx) (Ω : Orc) (ow : List Nat)
/-- an expression gives the data that f says -/
def EV (e : Expr) (f : Lo → M D) : Prop := ∀ F0 H0 F H σ ρ h d h' Q, SR X.K Ω ow F0 H0 F H σ ρ h → f ρ h = some (d, h') →
  (∀ v F' H', Stp Ω F H F' H' → Ω.OR h' H' → Dp X.K F' v d → Q v H') → WE X e σ H Q
def ET (e : Expr) (f : Lo → M Bool) : Prop := ∀ F0 H0 F H σ ρ h b h' Q, SR X.K Ω ow F0 H0 F H σ ρ h → f ρ h = some (b, h') →
  (∀ F' H', Stp Ω F H F' H' → Ω.OR h' H' → Q b H') → WT X e σ H Q
def EW (e : Expr) (f : Lo → M Bool) : Prop := ∀ F0 H0 F H σ ρ h b h' Q, SR X.K Ω ow F0 H0 F H σ ρ h → f ρ h = some (b, h') →
  (∀ F' H', Stp Ω F H F' H' → Ω.OR h' H' → Q b H') → WW X e σ H Q
def EA (es : List Expr) (f : Lo → M (List D)) : Prop := ∀ F0 H0 F H σ ρ h ds h' Q, SR X.K Ω ow F0 H0 F H σ ρ h → f ρ h = some (ds, h') →
  (∀ vs F' H', Stp Ω F H F' H' → Ω.OR h' H' → DpAll X.K F' vs ds → Q vs H') → WA X es σ H Q
/-- an expression gives a new list that nothing else holds -/
def EO (e : Expr) (f : Lo → M D) : Prop := ∀ F0 H0 F H σ ρ h d h' Q, SR X.K Ω ow F0 H0 F H σ ρ h → f ρ h = some (d, h') →
  (∀ p F' H', Stp Ω F H F' H' → Ω.OR h' H' → H p = none → OwnAt X.K Ω H0 F' H' p d → Q (.ref p) H') → WE X e σ H Q
end
/-- how a statement ends -/
inductive Fl where
  | nx (ρ : Lo) | ct (ρ : Lo) | ret (d : D)
/-- a statement does what f says; ow, ow': the slots that alone hold their lists, before and behind; oc: at a continue -/
def FlOk (X : Cx) (Ω : Orc) (oc ow' : List Nat) (F0 H0 : Hp) (Dn : Ends) (h' : List Int) : Fl → Prop
  | .nx ρ' => ∀ F' H' σ', SR X.K Ω ow' F0 H0 F' H' σ' ρ' h' → Dn.nx σ' H'
  | .ct ρ' => ∀ F' H' σ', SR X.K Ω oc F0 H0 F' H' σ' ρ' h' → Dn.ct σ' H'
  | .ret d => ∀ v F' H', Stp Ω F0 H0 F' H' → Ω.OR h' H' → Dp X.K F' v d → Dn.rt v H'
def ES (X : Cx) (Ω : Orc) (oc ow : List Nat) (st : Stmt) (ow' : List Nat) (f : Lo → M Fl) : Prop := ∀ F0 H0 F H σ ρ h r h' Dn, SR X.K Ω ow F0 H0 F H σ ρ h → f ρ h = some (r, h') →
  FlOk X Ω oc ow' F0 H0 Dn h' r → WS X st Dn σ H
def ESs (X : Cx) (Ω : Orc) (oc ow : List Nat) (sts : List Stmt) (ow' : List Nat) (f : Lo → M Fl) : Prop := ∀ F0 H0 F H σ ρ h r h' Dn, SR X.K Ω ow F0 H0 F H σ ρ h → f ρ h = some (r, h') →
  FlOk X Ω oc ow' F0 H0 Dn h' r → WSs X sts Dn σ H
end PL

namespace PL
open PySem PySem.Spec PyProof.Rows L2

/-! ### operators on data -/
section
variable (X : Cx)
def OpS (f : Value → Value → Sem Value) (g : D → D → Option D) : Prop :=
  ∃ r, OpR X f r ∧ ∀ F H x y dx dy d Q, Same F H → Dp X.K F x dx → Dp X.K F y dy → g dx dy = some d → (∀ v F' H', Stq F H F' H' → Dp X.K F' v d → Q v H') → r x y H Q
def UnS (f : Value → Sem Value) (g : D → Option D) : Prop :=
  ∃ r, UnR X f r ∧ ∀ F H x dx d Q, Same F H → Dp X.K F x dx → g dx = some d → (∀ v F' H', Stq F H F' H' → Dp X.K F' v d → Q v H') → r x H Q
def CallS (f : Value) (g : List D → Option D) : Prop :=
  ∃ r, CallR X f r ∧ ∀ F H vs ds d Q, Same F H → DpAll X.K F vs ds → g ds = some d → (∀ v F' H', Stq F H F' H' → Dp X.K F' v d → Q v H') → r vs H Q
def IxS (g : D → D → Option D) : Prop :=
  ∃ r, IxR X r ∧ ∀ F H x y dx dy d Q, Same F H → Dp X.K F x dx → Dp X.K F y dy → g dx dy = some d → (∀ v F' H', Stq F H F' H' → Dp X.K F' v d → Q v H') → r x y H Q
end

/-! ### semantic combinators -/
abbrev SE := Lo → M D
abbrev ST := Lo → M Bool
abbrev SA := Lo → M (List D)
abbrev SS := Lo → M Fl
def rd (i : Nat) (ρ : Lo) : Option D := match ρ[i]? with
  | some (some d) => some d
  | _ => none
def eVar (i : Nat) : SE := fun ρ => ml (rd i ρ)
def eC (d : D) : SE := fun _ => mp d
def eOp (g : D → D → Option D) (a b : SE) : SE := fun ρ => mb (a ρ) fun x => mb (b ρ) fun y => ml (g x y)
def eUn (g : D → Option D) (a : SE) : SE := fun ρ => mb (a ρ) fun x => ml (g x)
def asB : D → Option Bool
  | .bool b => some b
  | _ => none
def tV (a : SE) : ST := fun ρ => mb (a ρ) fun x => ml (asB x)
def tAn (a b : ST) : ST := fun ρ => mb (a ρ) fun c => if c = true then b ρ else mp false
def tOu (a b : ST) : ST := fun ρ => mb (a ρ) fun c => if c = true then mp true else b ρ
def tNo (a : ST) : ST := fun ρ => mb (a ρ) fun c => mp (!c)
def eB (t : ST) : SE := fun ρ => mb (t ρ) fun c => mp (.bool c)
def eIf (t : ST) (a b : SE) : SE := fun ρ => mb (t ρ) fun c => if c = true then a ρ else b ρ
def aNil : SA := fun _ => mp []
def aCons (a : SE) (b : SA) : SA := fun ρ => mb (a ρ) fun x => mb (b ρ) fun xs => mp (x :: xs)
def eTup (a : SA) : SE := fun ρ => mb (a ρ) fun xs => if xs.length ≤ 1000 then mp (.tuple xs) else fun _ => none
def eLst (a : SA) : SE := fun ρ => mb (a ρ) fun xs => if xs.length ≤ 1000 then mp (.list xs) else fun _ => none
def eCall (F : List D → Option D) (a : SA) : SE := fun ρ => mb (a ρ) fun xs => ml (F xs)
def eChain (g g' : D → D → Option D) (a b c : SE) : SE := fun ρ => mb (a ρ) fun x => mb (b ρ) fun y => mb (ml (g x y)) fun z => mb (ml (asB z)) fun k =>
  if k = true then mb (c ρ) fun w => ml (g' y w) else mp (.bool false)

theorem rd_some {i : Nat} {ρ : Lo} {d : D} (e : rd i ρ = some d) : ρ[i]? = some (some d) := by
  unfold rd at e
  split at e
  · cases e; assumption
  · cases e

section
variable {X : Cx} {Ω : Orc} {ow : List Nat} {a b c : Expr} {fa fb fc : SE} {pos : Pos} {ta tb : ST}

/-! ### names, constants -/
theorem ev_var (i : Nat) {x : Str} (hN : X.N[i]? = some x := by rfl) (hv : Vis X.env.scope x := by first | exact Or.inl rfl | exact Or.inr (Or.inl rfl) | exact Or.inr (Or.inr rfl)) (ho : i ∉ ow := by decide)
    (hd : (x == ("__debug__" : Str)) = false := by decide) (hcd : (x == ("__classdict__" : Str)) = false := by decide) : EV X Ω ow (.Name x pos) (eVar i) := by
  intro F0 H0 F H σ ρ h d h' Q S e q
  obtain ⟨e1, rfl⟩ := ml_some e
  obtain ⟨v, e2, dv⟩ := S.val i d ho (rd_some e1)
  exact we_of (pe_var hN hv hd hcd) ⟨v, e2, q v F H (Stp.refl S.fh) S.orc dv⟩
theorem ev_const {e : Expr} {v : V} {d : D} (p : PE X e (tC v)) (hd : ∀ F, Dp X.K F v d) : EV X Ω ow e (eC d) := by
  intro F0 H0 F H σ ρ h d' h' Q S e q
  obtain ⟨rfl, rfl⟩ := mp_some e
  exact we_of p (q v F H (Stp.refl S.fh) S.orc (hd F))
theorem ev_int {i : Int} {j : Nat} : EV X Ω ow (.Constant (.int i) j pos) (eC (.int i)) := ev_const pe_int fun _ => .int i
theorem ev_bl {i : Bool} {j : Nat} : EV X Ω ow (.Constant (.bool i) j pos) (eC (.bool i)) := ev_const pe_bl fun _ => .bl i
theorem ev_non {j : Nat} : EV X Ω ow (.Constant .none j pos) (eC .none) := ev_const pe_non fun _ => .non
theorem ev_str {x : Str} {j : Nat} : EV X Ω ow (.Constant (.str x) j pos) (eC (.str x)) := ev_const pe_str fun _ => .str x

/-! ### operators -/
theorem ev_op {op : Operator} {g : D → D → Option D} (ho : OpS X (binaryOp op) g) (ha : EV X Ω ow a fa) (hb : EV X Ω ow b fb) : EV X Ω ow (.BinOp a op b pos) (eOp g fa fb) := by
  intro F0 H0 F H σ ρ h d h' Q S e q
  obtain ⟨x, h1, e1, e⟩ := mb_some e
  obtain ⟨y, h2, e2, e⟩ := mb_some e
  obtain ⟨e3, rfl⟩ := ml_some e
  obtain ⟨r, hr, hq⟩ := ho
  refine we_of (pe_op hr we we) ?_
  refine ha _ _ _ _ _ _ _ _ _ _ S e1 fun v F1 H1 s1 o1 d1 => ?_
  refine hb _ _ _ _ _ _ _ _ _ _ (S.next s1 o1) e2 fun w F2 H2 s2 o2 d2 => ?_
  exact hq _ _ _ _ _ _ _ _ s2.fh (Dp_mono s2.sf d1) d2 e3 fun v3 F3 H3 s3 d3 => q _ _ _ ((s1.trans s2).trans s3.stp) (s3.orc o2) d3
theorem ev_un {op : UnaryOp} {g : D → Option D} (ho : UnS X (unaryOp op) g) (ha : EV X Ω ow a fa) : EV X Ω ow (.UnaryOp op a pos) (eUn g fa) := by
  intro F0 H0 F H σ ρ h d h' Q S e q
  obtain ⟨x, h1, e1, e⟩ := mb_some e
  obtain ⟨e3, rfl⟩ := ml_some e
  obtain ⟨r, hr, hq⟩ := ho
  refine we_of (pe_un hr we) ?_
  refine ha _ _ _ _ _ _ _ _ _ _ S e1 fun v F1 H1 s1 o1 d1 => ?_
  exact hq _ _ _ _ _ _ s1.fh d1 e3 fun v3 F3 H3 s3 d3 => q _ _ _ (s1.trans s3.stp) (s3.orc o1) d3
theorem ev_cmp {op : CmpOp} {g : D → D → Option D} (ho : OpS X (compareOp op) g) (ha : EV X Ω ow a fa) (hb : EV X Ω ow b fb) (hm : behindInMarks op b = false := by rfl) : EV X Ω ow (.Compare a [op] [b] pos) (eOp g fa fb) := by
  intro F0 H0 F H σ ρ h d h' Q S e q
  obtain ⟨x, h1, e1, e⟩ := mb_some e
  obtain ⟨y, h2, e2, e⟩ := mb_some e
  obtain ⟨e3, rfl⟩ := ml_some e
  obtain ⟨r, hr, hq⟩ := ho
  refine we_of (pe_cmpR hr we we hm) ?_
  refine ha _ _ _ _ _ _ _ _ _ _ S e1 fun v F1 H1 s1 o1 d1 => ?_
  refine hb _ _ _ _ _ _ _ _ _ _ (S.next s1 o1) e2 fun w F2 H2 s2 o2 d2 => ?_
  exact hq _ _ _ _ _ _ _ _ s2.fh (Dp_mono s2.sf d1) d2 e3 fun v3 F3 H3 s3 d3 => q _ _ _ ((s1.trans s2).trans s3.stp) (s3.orc o2) d3
theorem asB_some {K : PySem.W.Frag} {H : Hp} {d : D} {b : Bool} {v : V} (e : asB d = some b) (h : Dp K H v d) : v = .bl b := by
  cases d with
  | bool x => cases e; cases h; rfl
  | _ => cases e
theorem et_cmp {op : CmpOp} {g : D → D → Option D} (ho : OpS X (compareOp op) g) (ha : EV X Ω ow a fa) (hb : EV X Ω ow b fb) (hm : behindInMarks op b = false := by rfl) : ET X Ω ow (.Compare a [op] [b] pos) (tV (eOp g fa fb)) := by
  intro F0 H0 F H σ ρ h k h' Q S e q
  obtain ⟨z, h3, e, z0⟩ := mb_some e
  obtain ⟨ez, rfl⟩ := ml_some z0
  obtain ⟨x, h1, e1, e⟩ := mb_some e
  obtain ⟨y, h2, e2, e⟩ := mb_some e
  obtain ⟨e3, rfl⟩ := ml_some e
  obtain ⟨r, hr, hq⟩ := ho
  refine wt_of (pt_cmpR hr we we hm) ?_
  refine ha _ _ _ _ _ _ _ _ _ _ S e1 fun v F1 H1 s1 o1 d1 => ?_
  refine hb _ _ _ _ _ _ _ _ _ _ (S.next s1 o1) e2 fun w F2 H2 s2 o2 d2 => ?_
  exact hq _ _ _ _ _ _ _ _ s2.fh (Dp_mono s2.sf d1) d2 e3 fun v3 F3 H3 s3 d3 => ⟨k, asB_some ez d3, q _ _ ((s1.trans s2).trans s3.stp) (s3.orc o2)⟩
/-- a test that is an expression with a bool -/
theorem et_val {e : Expr} {f : SE} (h : EV X Ω ow e f) (he : ∀ whole, isTrue e X.env whole = (do let v ← whole; standAt e.pos; holding [v] (truthy v)) := by intro _; rfl) : ET X Ω ow e (tV f) := by
  intro F0 H0 F H σ ρ hh k h' Q S e1 q
  obtain ⟨z, h3, e, z0⟩ := mb_some e1
  obtain ⟨ez, rfl⟩ := ml_some z0
  refine wt_of (pt_val we he) ?_
  exact h _ _ _ _ _ _ _ _ _ _ S e fun v F1 H1 s1 o1 d1 => ⟨k, asB_some ez d1, q _ _ s1 o1⟩
theorem ev_chain {op op' : CmpOp} {g g' : D → D → Option D} (ho : OpS X (compareOp op) g) (ho' : OpS X (compareOp op') g') (ha : EV X Ω ow a fa) (hb : EV X Ω ow b fb) (hc : EV X Ω ow c fc)
    (r1 : ∀ {r r'}, OpR X (compareOp op) r → OpR X (compareOp op') r' → PE X (.Compare a [op, op'] [b, c] pos) (tChain r r' (WE X a) (WE X b) (WE X c)) := by intro r r' h1 h2; exact pe_chain h1 h2 we we we) : EV X Ω ow (.Compare a [op, op'] [b, c] pos) (eChain g g' fa fb fc) := by
  intro F0 H0 F H σ ρ h d h' Q S e q
  obtain ⟨x, h1, e1, e⟩ := mb_some e
  obtain ⟨y, h2, e2, ea⟩ := mb_some e
  obtain ⟨z, h3, z3, eb⟩ := mb_some ea
  obtain ⟨k, h4, z4, e⟩ := mb_some eb
  obtain ⟨e3, y3⟩ := ml_some z3
  obtain ⟨e4, y4⟩ := ml_some z4
  clear ea eb z3 z4
  subst y4 y3
  obtain ⟨r, hr, hq⟩ := ho
  obtain ⟨r', hr', hq'⟩ := ho'
  refine we_of (r1 hr hr') ?_
  refine ha _ _ _ _ _ _ _ _ _ _ S e1 fun v F1 H1 s1 o1 d1 => ?_
  refine hb _ _ _ _ _ _ _ _ _ _ (S.next s1 o1) e2 fun w F2 H2 s2 o2 d2 => ?_
  refine hq _ _ _ _ _ _ _ _ s2.fh (Dp_mono s2.sf d1) d2 e3 fun v3 F3 H3 s3 d3 => ⟨k, asB_some e4 d3, ?_⟩
  have s03 := (s1.trans s2).trans s3.stp (Ω := Ω)
  cases k with
  | false =>
    rw [if_neg Bool.false_ne_true]
    rw [if_neg Bool.false_ne_true] at e
    obtain ⟨rfl, rfl⟩ := mp_some e
    exact q _ _ _ s03 (s3.orc o2) (.bl false)
  | true =>
    rw [if_pos rfl]
    rw [if_pos rfl] at e
    obtain ⟨w', h5, e5, e⟩ := mb_some e
    obtain ⟨e6, rfl⟩ := ml_some e
    refine hc _ _ _ _ _ _ _ _ _ _ (S.next s03 (s3.orc o2)) e5 fun u F4 H4 s4 o4 d4 => ?_
    exact hq' _ _ _ _ _ _ _ _ s4.fh (Dp_mono (s3.sf.trans s4.sf) d2) d4 e6 fun v5 F5 H5 s5 d5 => q _ _ _ ((s03.trans s4).trans s5.stp) (s5.orc o4) d5
theorem et_chain {op op' : CmpOp} {g g' : D → D → Option D} (ho : OpS X (compareOp op) g) (ho' : OpS X (compareOp op') g') (ha : EV X Ω ow a fa) (hb : EV X Ω ow b fb) (hc : EV X Ω ow c fc)
    (r1 : ∀ {r r'}, OpR X (compareOp op) r → OpR X (compareOp op') r' → PT X (.Compare a [op, op'] [b, c] pos) (tTest (tChain r r' (WE X a) (WE X b) (WE X c))) := by intro r r' h1 h2; exact pt_chain h1 h2 we we we) : ET X Ω ow (.Compare a [op, op'] [b, c] pos) (tV (eChain g g' fa fb fc)) := by
  intro F0 H0 F H σ ρ h kk h' Q S e q
  obtain ⟨zz, hz, e, z0⟩ := mb_some e
  obtain ⟨ez, rfl⟩ := ml_some z0
  obtain ⟨x, h1, e1, e⟩ := mb_some e
  obtain ⟨y, h2, e2, ea⟩ := mb_some e
  obtain ⟨z, h3, z3, eb⟩ := mb_some ea
  obtain ⟨k, h4, z4, e⟩ := mb_some eb
  obtain ⟨e3, y3⟩ := ml_some z3
  obtain ⟨e4, y4⟩ := ml_some z4
  clear ea eb z3 z4
  subst y4 y3
  obtain ⟨r, hr, hq⟩ := ho
  obtain ⟨r', hr', hq'⟩ := ho'
  refine wt_of (r1 hr hr') ?_
  refine ha _ _ _ _ _ _ _ _ _ _ S e1 fun v F1 H1 s1 o1 d1 => ?_
  refine hb _ _ _ _ _ _ _ _ _ _ (S.next s1 o1) e2 fun w F2 H2 s2 o2 d2 => ?_
  refine hq _ _ _ _ _ _ _ _ s2.fh (Dp_mono s2.sf d1) d2 e3 fun v3 F3 H3 s3 d3 => ⟨k, asB_some e4 d3, ?_⟩
  have s03 := (s1.trans s2).trans s3.stp (Ω := Ω)
  cases k with
  | false =>
    rw [if_neg Bool.false_ne_true]
    rw [if_neg Bool.false_ne_true] at e
    obtain ⟨rfl, rfl⟩ := mp_some e
    cases ez
    exact ⟨_, rfl, q _ _ s03 (s3.orc o2)⟩
  | true =>
    rw [if_pos rfl]
    rw [if_pos rfl] at e
    obtain ⟨w', h5, e5, e⟩ := mb_some e
    obtain ⟨e6, rfl⟩ := ml_some e
    refine hc _ _ _ _ _ _ _ _ _ _ (S.next s03 (s3.orc o2)) e5 fun u F4 H4 s4 o4 d4 => ?_
    exact hq' _ _ _ _ _ _ _ _ s4.fh (Dp_mono (s3.sf.trans s4.sf) d2) d4 e6 fun v5 F5 H5 s5 d5 => ⟨_, asB_some ez d5, q _ _ ((s03.trans s4).trans s5.stp) (s5.orc o4)⟩

/-! ### and, or, not, if -/
variable {rest : List Expr}
theorem ew_and1 (ha : ET X Ω ow a ta) : EW X Ω ow (.BoolOp .And [a] pos) ta := fun F0 H0 F H σ ρ h k h' Q S e q => ww_of (pw_and1 wt) (ha _ _ _ _ _ _ _ _ _ _ S e q)
theorem ew_or1 (ha : ET X Ω ow a ta) : EW X Ω ow (.BoolOp .Or [a] pos) ta := fun F0 H0 F H σ ρ h k h' Q S e q => ww_of (pw_or1 wt) (ha _ _ _ _ _ _ _ _ _ _ S e q)
theorem ew_and (ha : ET X Ω ow a ta) (hb : EW X Ω ow (.BoolOp .And (b :: rest) pos) tb) : EW X Ω ow (.BoolOp .And (a :: b :: rest) pos) (tAn ta tb) := by
  intro F0 H0 F H σ ρ h k h' Q S e q
  obtain ⟨c, h1, e1, e⟩ := mb_some e
  refine ww_of (pw_and wt ww) (ha _ _ _ _ _ _ _ _ _ _ S e1 fun F1 H1 s1 o1 => ?_)
  cases c with
  | true =>
    rw [if_pos rfl] at e ⊢
    exact hb _ _ _ _ _ _ _ _ _ _ (S.next s1 o1) e fun F2 H2 s2 o2 => q _ _ (s1.trans s2) o2
  | false =>
    rw [if_neg Bool.false_ne_true] at e ⊢
    obtain ⟨rfl, rfl⟩ := mp_some e
    exact q _ _ s1 o1
theorem ew_or (ha : ET X Ω ow a ta) (hb : EW X Ω ow (.BoolOp .Or (b :: rest) pos) tb) : EW X Ω ow (.BoolOp .Or (a :: b :: rest) pos) (tOu ta tb) := by
  intro F0 H0 F H σ ρ h k h' Q S e q
  obtain ⟨c, h1, e1, e⟩ := mb_some e
  refine ww_of (pw_or wt ww) (ha _ _ _ _ _ _ _ _ _ _ S e1 fun F1 H1 s1 o1 => ?_)
  cases c with
  | true =>
    rw [if_pos rfl] at e ⊢
    obtain ⟨rfl, rfl⟩ := mp_some e
    exact q _ _ s1 o1
  | false =>
    rw [if_neg Bool.false_ne_true] at e ⊢
    exact hb _ _ _ _ _ _ _ _ _ _ (S.next s1 o1) e fun F2 H2 s2 o2 => q _ _ (s1.trans s2) o2
theorem et_w {e : Expr} (h : EW X Ω ow e ta) : ET X Ω ow e ta := fun F0 H0 F H σ ρ hh k h' Q S e1 q => wt_of ww.pt (h _ _ _ _ _ _ _ _ _ _ S e1 q)
theorem et_not (ha : ET X Ω ow a ta) : ET X Ω ow (.UnaryOp .Not a pos) (tNo ta) := by
  intro F0 H0 F H σ ρ h k h' Q S e q
  obtain ⟨c, h1, e1, e⟩ := mb_some e
  obtain ⟨rfl, rfl⟩ := mp_some e
  exact wt_of (pt_not wt) (ha _ _ _ _ _ _ _ _ _ _ S e1 q)
/-- as values: each part a bool -/
theorem ev_one {op : BoolOp} (ha : EV X Ω ow a fa) : EV X Ω ow (.BoolOp op [a] pos) (eB (tV fa)) := by
  intro F0 H0 F H σ ρ h d h' Q S e q
  obtain ⟨k, h1, e, e1⟩ := mb_some e
  obtain ⟨z, h3, e, z0⟩ := mb_some e
  obtain ⟨ez, rfl⟩ := ml_some z0
  obtain ⟨rfl, rfl⟩ := mp_some e1
  refine we_of (pe_one we) (ha _ _ _ _ _ _ _ _ _ _ S e fun v F1 H1 s1 o1 d1 => q _ _ _ s1 o1 ?_)
  rw [asB_some ez d1]
  exact .bl k
theorem ev_and (ha : EV X Ω ow a fa) (hb : EV X Ω ow (.BoolOp .And (b :: rest) pos) (eB tb)) : EV X Ω ow (.BoolOp .And (a :: b :: rest) pos) (eB (tAn (tV fa) tb)) := by
  intro F0 H0 F H σ ρ h d h' Q S e q
  obtain ⟨k, h1, e, e1⟩ := mb_some e
  obtain ⟨rfl, rfl⟩ := mp_some e1
  obtain ⟨c, h2, e2, e⟩ := mb_some e
  obtain ⟨z, h3, e2, z0⟩ := mb_some e2
  obtain ⟨ez, rfl⟩ := ml_some z0
  refine we_of (pe_and we we) (ha _ _ _ _ _ _ _ _ _ _ S e2 fun v F1 H1 s1 o1 d1 => ⟨c, asB_some ez d1, ?_⟩)
  cases c with
  | true =>
    rw [if_pos rfl] at e ⊢
    refine hb _ _ _ _ _ _ _ (.bool k) _ _ (S.next s1 o1) ?_ fun v F2 H2 s2 o2 d2 => q _ _ _ (s1.trans s2) o2 d2
    unfold eB mb
    rw [e]
    rfl
  | false =>
    rw [if_neg Bool.false_ne_true] at e ⊢
    obtain ⟨rfl, rfl⟩ := mp_some e
    exact q _ _ _ s1 o1 (.bl _)
theorem ev_or (ha : EV X Ω ow a fa) (hb : EV X Ω ow (.BoolOp .Or (b :: rest) pos) (eB tb)) : EV X Ω ow (.BoolOp .Or (a :: b :: rest) pos) (eB (tOu (tV fa) tb)) := by
  intro F0 H0 F H σ ρ h d h' Q S e q
  obtain ⟨k, h1, e, e1⟩ := mb_some e
  obtain ⟨rfl, rfl⟩ := mp_some e1
  obtain ⟨c, h2, e2, e⟩ := mb_some e
  obtain ⟨z, h3, e2, z0⟩ := mb_some e2
  obtain ⟨ez, rfl⟩ := ml_some z0
  refine we_of (pe_or we we) (ha _ _ _ _ _ _ _ _ _ _ S e2 fun v F1 H1 s1 o1 d1 => ⟨c, asB_some ez d1, ?_⟩)
  cases c with
  | true =>
    rw [if_pos rfl] at e ⊢
    obtain ⟨rfl, rfl⟩ := mp_some e
    exact q _ _ _ s1 o1 (.bl _)
  | false =>
    rw [if_neg Bool.false_ne_true] at e ⊢
    refine hb _ _ _ _ _ _ _ (.bool k) _ _ (S.next s1 o1) ?_ fun v F2 H2 s2 o2 d2 => q _ _ _ (s1.trans s2) o2 d2
    unfold eB mb
    rw [e]
    rfl
theorem ev_not (ha : EV X Ω ow a fa) : EV X Ω ow (.UnaryOp .Not a pos) (eB (tNo (tV fa))) := by
  intro F0 H0 F H σ ρ h d h' Q S e q
  obtain ⟨k, h1, e, e1⟩ := mb_some e
  obtain ⟨rfl, rfl⟩ := mp_some e1
  obtain ⟨c, h2, e2, e⟩ := mb_some e
  obtain ⟨z, h3, e2, z0⟩ := mb_some e2
  obtain ⟨ez, rfl⟩ := ml_some z0
  obtain ⟨rfl, rfl⟩ := mp_some e
  exact we_of (pe_not we) (ha _ _ _ _ _ _ _ _ _ _ S e2 fun v F1 H1 s1 o1 d1 => ⟨c, asB_some ez d1, q _ _ _ s1 o1 (.bl _)⟩)
theorem ev_if {t : Expr} (ht : ET X Ω ow t ta) (ha : EV X Ω ow a fa) (hb : EV X Ω ow b fb) : EV X Ω ow (.IfExp t a b pos) (eIf ta fa fb) := by
  intro F0 H0 F H σ ρ h d h' Q S e q
  obtain ⟨c, h1, e1, e⟩ := mb_some e
  refine we_of (pe_ifExp wt we we) (ht _ _ _ _ _ _ _ _ _ _ S e1 fun F1 H1 s1 o1 => ?_)
  cases c with
  | true =>
    rw [if_pos rfl] at e ⊢
    exact ha _ _ _ _ _ _ _ _ _ _ (S.next s1 o1) e fun v F2 H2 s2 o2 d2 => q _ _ _ (s1.trans s2) o2 d2
  | false =>
    rw [if_neg Bool.false_ne_true] at e ⊢
    exact hb _ _ _ _ _ _ _ _ _ _ (S.next s1 o1) e fun v F2 H2 s2 o2 d2 => q _ _ _ (s1.trans s2) o2 d2

/-! ### displays, calls -/
variable {es : List Expr} {sa : SA}
theorem ea_nil : EA X Ω ow [] aNil := by
  intro F0 H0 F H σ ρ h d h' Q S e q
  obtain ⟨rfl, rfl⟩ := mp_some e
  exact wa_of pa_nil (q _ _ _ (Stp.refl S.fh) S.orc .nil)
theorem ea_cons (ha : EV X Ω ow a fa) (hr : EA X Ω ow es sa) (hs : starEach (a :: es) X.env = (false, eval a X.env) :: starEach es X.env := by rfl) : EA X Ω ow (a :: es) (aCons fa sa) := by
  intro F0 H0 F H σ ρ h d h' Q S e q
  obtain ⟨x, h1, e1, e⟩ := mb_some e
  obtain ⟨xs, h2, e2, e⟩ := mb_some e
  obtain ⟨rfl, rfl⟩ := mp_some e
  refine wa_of (pa_cons we wa hs) (ha _ _ _ _ _ _ _ _ _ _ S e1 fun v F1 H1 s1 o1 d1 => ?_)
  exact hr _ _ _ _ _ _ _ _ _ _ (S.next s1 o1) e2 fun vs F2 H2 s2 o2 d2 => q _ _ _ (s1.trans s2) o2 (.cons (Dp_mono s2.sf d1) d2)
theorem line1000 {n : Nat} (h : n ≤ 1000) : n ≤ sizeLine := Nat.le_of_lt (small1000 h)
theorem ev_tup {k : Nat} (ha : EA X Ω ow es sa) : EV X Ω ow (.Tuple es k pos) (eTup sa) := by
  intro F0 H0 F H σ ρ h d h' Q S e q
  obtain ⟨xs, h1, e1, e⟩ := mb_some e
  split at e
  · rename_i hl
    obtain ⟨rfl, rfl⟩ := mp_some e
    refine we_of (pe_tup wa) (ha _ _ _ _ _ _ _ _ _ _ S e1 fun vs F1 H1 s1 o1 d1 => ⟨line1000 (by rw [DpAll.length d1]; exact hl), fun p np => ?_⟩)
    have s2 : Stq F1 H1 (upd F1 p (.tup vs)) (upd H1 p (.tup vs)) := Stq.new s1.fh np
    exact q _ _ _ (s1.trans s2.stp) (s2.orc o1) (.tup (.inl (.inl upd_same)) (DpAll_mono s2.sf d1))
  · cases e
theorem eo_lst (ha : EA X Ω ow es sa) : EO X Ω ow (.List es pos) (eLst sa) := by
  intro F0 H0 F H σ ρ h d h' Q S e q
  obtain ⟨xs, h1, e1, e⟩ := mb_some e
  split at e
  · rename_i hl
    obtain ⟨rfl, rfl⟩ := mp_some e
    refine we_of (pe_lst wa) (ha _ _ _ _ _ _ _ _ _ _ S e1 fun vs F1 H1 s1 o1 d1 => ⟨line1000 (by rw [DpAll.length d1]; exact hl), fun p np => ?_⟩)
    have st := S.st.trans s1
    have n0 : H0 p = none := by
      cases z : H0 p with
      | none => rfl
      | some o => exact absurd np (st.al p (by rw [z]; simp))
    have nH : H p = none := by
      cases z : H p with
      | none => rfl
      | some o => exact absurd np (s1.al p (by rw [z]; simp))
    have oc : ¬ Ω.OC p := fun z => Ω.alloc _ _ o1 p z np
    refine q p F1 (upd H1 p (.lst vs)) ⟨s1.sf, s1.fh.trans (same_upd np), fun b o z n => ?_, s1.ap, fun b z => ?_⟩ (Ω.stable _ _ _ o1 fun b o _ z => same_upd np b o z) nH ⟨vs, xs, rfl, upd_same, d1, s1.fh.free np, n0, oc⟩
    · exact same_upd np b o (s1.kp b o z n)
    · exact Same.some (same_upd np) (s1.al b z)
  · cases e
/-- a new list as any other -/
theorem ev_of_eo {e : Expr} {f : SE} (h : EO X Ω ow e f) : EV X Ω ow e f := by
  intro F0 H0 F H σ ρ hh d h' Q S e1 q
  refine h _ _ _ _ _ _ _ _ _ _ S e1 fun p F1 H1 s1 o1 np o => ?_
  obtain ⟨xs, ds, rfl, ep, a, n, n0, oc⟩ := o
  have sF : Same F1 (upd F1 p (.lst xs)) := same_upd n
  refine q _ (upd F1 p (.lst xs)) H1 ⟨s1.sf.trans sF, fun b o z => ?_, s1.kp, fun b z w => ?_, s1.al⟩ o1 (.lst (.inl (.inl upd_same)) (DpAll_mono sF a))
  · by_cases hb : b = p
    · subst hb; rw [upd_same] at z; rw [ep]; exact z
    · rw [upd_ne hb] at z; exact s1.fh b o z
  · have hb : b ≠ p := by rintro rfl; exact z np
    rw [upd_ne hb]
    exact s1.ap b z w
theorem ev_callB {x : Str} {p : Pos} {id : String} {g : List D → Option D} (hc : CallS X (.builtin id) g) (hm : X.mg x = none) (ha : EA X Ω ow (a :: es) sa) (hg : Gl X x := by rfl) (hv : bootBuiltins x = some (.builtin id) := by decide +kernel)
    (hn : x ≠ "__name__" := by decide) (hdb : (x == ("__debug__" : Str)) = false := by decide)
    (he : starEach (a :: es) X.env = (false, eval a X.env) :: starEach es X.env := by rfl) (hpl : (backTo pos (starEach es X.env)).any (·.1) = false := by rfl) : EV X Ω ow (.Call (.Name x p) (a :: es) [] pos) (eCall g sa) := by
  intro F0 H0 F H σ ρ h d h' Q S e q
  obtain ⟨xs, h1, e1, e⟩ := mb_some e
  obtain ⟨e2, rfl⟩ := ml_some e
  obtain ⟨r, hr, hq⟩ := hc
  refine we_of (pe_callB hr hg hm hv wa hn hdb he hpl) (ha _ _ _ _ _ _ _ _ _ _ S e1 fun vs F1 H1 s1 o1 d1 => ?_)
  exact hq _ _ _ _ _ _ s1.fh d1 e2 fun v F2 H2 s2 d2 => q _ _ _ (s1.trans s2.stp) (s2.orc o1) d2
theorem ev_callTy {x : Str} {p : Pos} {id : String} {g : List D → Option D} (hc : CallS X (.type id) g) (hm : X.mg x = none) (ha : EA X Ω ow (a :: es) sa) (hg : Gl X x := by rfl) (hv : bootBuiltins x = some (.type id) := by decide +kernel)
    (hn : x ≠ "__name__" := by decide) (hdb : (x == ("__debug__" : Str)) = false := by decide)
    (he : starEach (a :: es) X.env = (false, eval a X.env) :: starEach es X.env := by rfl) (hpl : (backTo pos (starEach es X.env)).any (·.1) = false := by rfl) : EV X Ω ow (.Call (.Name x p) (a :: es) [] pos) (eCall g sa) := by
  intro F0 H0 F H σ ρ h d h' Q S e q
  obtain ⟨xs, h1, e1, e⟩ := mb_some e
  obtain ⟨e2, rfl⟩ := ml_some e
  obtain ⟨r, hr, hq⟩ := hc
  refine we_of (pe_callTy hr hg hm hv wa hn hdb he hpl) (ha _ _ _ _ _ _ _ _ _ _ S e1 fun vs F1 H1 s1 o1 d1 => ?_)
  exact hq _ _ _ _ _ _ s1.fh d1 e2 fun v F2 H2 s2 d2 => q _ _ _ (s1.trans s2.stp) (s2.orc o1) d2
/-- subscripts -/
theorem ev_ix {g : D → D → Option D} (ho : IxS X g) (ha : EV X Ω ow a fa) (hb : EV X Ω ow b fb) (hs : PlainIx b := by intro _ _; rfl) : EV X Ω ow (.Subscript a b pos) (eOp g fa fb) := by
  intro F0 H0 F H σ ρ h d h' Q S e q
  obtain ⟨x, h1, e1, e⟩ := mb_some e
  obtain ⟨y, h2, e2, e⟩ := mb_some e
  obtain ⟨e3, rfl⟩ := ml_some e
  obtain ⟨r, hr, hq⟩ := ho
  refine we_of (pe_ix hr we we hs) ?_
  refine ha _ _ _ _ _ _ _ _ _ _ S e1 fun v F1 H1 s1 o1 d1 => ?_
  refine hb _ _ _ _ _ _ _ _ _ _ (S.next s1 o1) e2 fun w F2 H2 s2 o2 d2 => ?_
  exact hq _ _ _ _ _ _ _ _ s2.fh (Dp_mono s2.sf d1) d2 e3 fun v3 F3 H3 s3 d3 => q _ _ _ ((s1.trans s2).trans s3.stp) (s3.orc o2) d3

/-! ### calls of the program's own defs -/
/-- the promise of a def that computes F -/
def spF (K : PySem.W.Frag) (F : List D → Option D) (n : Nat) : Sp := fun vs H Q _ => vs.length = n ∧ ∃ Fz ds r, Same Fz H ∧ DpAll K Fz vs ds ∧ F ds = some r ∧ ∀ v F' H', Stq Fz H F' H' → Dp K F' v r → Q v H'
variable {K0 : PySem.W.Frag} {k : Nat} {f : Addr} {fd : FuncData} {ps : List Str}
theorem ev_call {x : Str} {p : Pos} {Fn : List D → Option D} {n : Nat} (G : FnOk X.prog X.w X.K X.mg X.base CX0 k f fd ps (spF X.K Fn n)) (hr : Room k X.A) (hm : X.mg x = some (.ref f)) (hk : PySem.W.keepIn X.K (.ref f) = true) (hb : Binds X.K fd ps [])
    (ha : EA X Ω ow (a :: es) sa) (hn : (a :: es).length = n := by rfl) (hl : ∀ ρ h ds h', sa ρ h = some (ds, h') → ds.length = n) (hg : Gl X x := by rfl) (hdb : (x == ("__debug__" : Str)) = false := by decide) (he : starEach (a :: es) X.env = (false, eval a X.env) :: starEach es X.env := by rfl) (hpl : (backTo pos (starEach es X.env)).any (·.1) = false := by rfl) :
    EV X Ω ow (.Call (.Name x p) (a :: es) [] pos) (eCall Fn sa) := by
  intro F0 H0 F H σ ρ h d h' Q S e q
  obtain ⟨xs, h1, e1, e⟩ := mb_some e
  obtain ⟨e2, rfl⟩ := ml_some e
  refine we_of (pe_call G hr hg hm hk hb .nil pass0 wa hdb he hpl) (ha _ _ _ _ _ _ _ _ _ _ S e1 fun vs F1 H1 s1 o1 d1 => ?_)
  rw [List.append_nil]
  exact ⟨by rw [DpAll.length d1]; exact hl _ _ _ _ e1, F1, xs, d, s1.fh, d1, e2, fun v F2 H2 s2 d2 => q _ _ _ (s1.trans s2.stp) (s2.orc o1) d2⟩
end
end PL

namespace PL
open PySem PySem.Spec PyProof.Rows L2

/-! ### stores -/
section
variable {K : PySem.W.Frag} {Ω : Orc} {ow : List Nat} {F0 H0 F H F1 H1 : Hp} {σ : L2.St} {ρ : Lo} {h h1 : List Int}
theorem get_set_ne {α : Type} {l : List α} {i j : Nat} {x : α} (h : i ≠ j) : (l.set i x)[j]? = l[j]? := List.getElem?_set_ne h
theorem SR.set {i : Nat} {v : V} {d : D} (S : SR K Ω ow F0 H0 F H σ ρ h) (hi : i ∉ ow) (hs : Ω.slot ≠ some i) (dv : Dp K F v d) : SR K Ω ow F0 H0 F H (σ.set i (some v)) (ρ.set i (some d)) h := by
  have other : ∀ j, j ∈ ow → i ≠ j := fun j hj e => hi (e ▸ hj)
  refine ⟨S.st, by simp [S.len], fun j e hj he => ?_, fun j e hj he => ?_, fun j k p d' e hj hk h1 h2 h3 h4 => ?_, S.orc, S.ocf, fun j hj => ?_⟩
  · by_cases hij : i = j
    · subst hij
      have hl : i < ρ.length := by
        have := List.getElem?_eq_some_iff.mp he
        obtain ⟨q, _⟩ := this
        simpa using q
      rw [List.getElem?_set_self hl] at he
      cases he
      exact ⟨v, List.getElem?_set_self (by rw [S.len]; exact hl), dv⟩
    · rw [get_set_ne hij] at he ⊢
      exact S.val j e hj he
  · rw [get_set_ne (other j hj)] at he ⊢
    exact S.own j e hj he
  · rw [get_set_ne (other j hj)] at h1 h3
    rw [get_set_ne (other k hk)] at h2 h4
    exact S.apart j k p d' e hj hk h1 h2 h3 h4
  · have hij : i ≠ j := fun e => hs (e ▸ hj)
    rw [get_set_ne hij, get_set_ne hij]
    exact S.pool j hj
theorem SR.setO {i : Nat} {p : Addr} {d : D} {Hb Fb : Hp} {hb : List Int} (S : SR K Ω ow F0 H0 F H σ ρ h) (Sb : SR K Ω ow F0 H0 Fb Hb σ ρ hb) (np : Hb p = none) (hi : i ∉ ow) (hs : Ω.slot ≠ some i) (o : OwnAt K Ω H0 F H p d) : SR K Ω (i :: ow) F0 H0 F H (σ.set i (some (.ref p))) (ρ.set i (some d)) h := by
  have other : ∀ j, j ∈ ow → i ≠ j := fun j hj e => hi (e ▸ hj)
  have lt : ∀ {e}, (ρ.set i (some d))[i]? = some (some e) → i < ρ.length ∧ e = d := fun {e} he => by
    have := List.getElem?_eq_some_iff.mp he
    obtain ⟨q, _⟩ := this
    have hl : i < ρ.length := by simpa using q
    rw [List.getElem?_set_self hl] at he
    cases he
    exact ⟨hl, rfl⟩
  have none_at : ∀ j, j ∈ ow → ∀ e, ρ[j]? = some (some e) → σ[j]? = some (some (.ref p)) → False := fun j hj e he hp => by
    obtain ⟨p', e1, _, _, _, e2, _⟩ := Sb.own j e hj he
    rw [hp] at e1
    cases e1
    rw [np] at e2
    cases e2
  refine ⟨S.st, by simp [S.len], fun j e hj he => ?_, fun j e hj he => ?_, fun j k q d' e hj hk h1 h2 h3 h4 => ?_, S.orc, S.ocf, fun j hj => ?_⟩
  · simp only [List.mem_cons, not_or] at hj
    rw [get_set_ne (Ne.symm hj.1)] at he ⊢
    exact S.val j e hj.2 he
  · rcases List.mem_cons.mp hj with rfl | hj
    · obtain ⟨hl, rfl⟩ := lt he
      exact ⟨p, List.getElem?_set_self (by rw [S.len]; exact hl), o⟩
    · rw [get_set_ne (other j hj)] at he ⊢
      exact S.own j e hj he
  · rcases List.mem_cons.mp hj with ej | hj1
    · rcases List.mem_cons.mp hk with ek | hk1
      · exact ej.trans ek.symm
      · subst ej
        obtain ⟨hl, rfl⟩ := lt h1
        rw [List.getElem?_set_self (by rw [S.len]; exact hl)] at h3
        cases h3
        rw [get_set_ne (other k hk1)] at h2 h4
        exact (none_at k hk1 e h2 h4).elim
    · rcases List.mem_cons.mp hk with ek | hk1
      · subst ek
        obtain ⟨hl, rfl⟩ := lt h2
        rw [List.getElem?_set_self (by rw [S.len]; exact hl)] at h4
        cases h4
        rw [get_set_ne (other j hj1)] at h1 h3
        exact (none_at j hj1 d' h1 h3).elim
      · rw [get_set_ne (other j hj1)] at h1 h3
        rw [get_set_ne (other k hk1)] at h2 h4
        exact S.apart j k q d' e hj1 hk1 h1 h2 h3 h4
  · have hij : i ≠ j := fun e => hs (e ▸ hj)
    rw [get_set_ne hij, get_set_ne hij]
    exact S.pool j hj
/-- the list in slot i changes -/
theorem SR.chg {i : Nat} {p : Addr} {d : D} {xs : List V} {ds : List D} (S : SR K Ω ow F0 H0 F H σ ρ h) (hi : i ∈ ow) (hρ : ρ[i]? = some (some d)) (hσ : σ[i]? = some (some (.ref p))) (a : DpAll K F xs ds) :
    SR K Ω ow F0 H0 F (upd H p (.lst xs)) σ (ρ.set i (some (.list ds))) h := by
  obtain ⟨p', e1, xs', ds', rfl, e2, a', n, n0, oc⟩ := S.own i d hi hρ
  rw [hσ] at e1
  cases e1
  have hl : i < ρ.length := (List.getElem?_eq_some_iff.mp hρ).1
  have fp : ∀ {q : Addr} {o}, F q = some o → q ≠ p := fun {q o} e z => by subst z; rw [n] at e; cases e
  have lt : ∀ {e}, (ρ.set i (some (.list ds)))[i]? = some (some e) → e = .list ds := fun {e} he => by
    rw [List.getElem?_set_self hl] at he
    cases he
    rfl
  refine ⟨⟨S.st.sf, fun q o e => by rw [upd_ne (fp e)]; exact S.fh q o e, fun q o e z => ?_, S.st.ap, fun q z => ?_⟩, by simp [S.len], fun j e hj he => ?_, fun j e hj he => ?_, fun j k q d' e hj hk h1 h2 h3 h4 => ?_, ?_, S.ocf, fun j hj => ?_⟩
  · rw [upd_ne (by rintro rfl; rw [n0] at e; cases e)]
    exact S.st.kp q o e z
  · by_cases hq : q = p
    · subst hq; rw [upd_same]; simp
    · rw [upd_ne hq]; exact S.st.al q z
  · have hij : i ≠ j := fun z => hj (z ▸ hi)
    rw [get_set_ne hij] at he
    exact S.val j e hj he
  · by_cases hij : i = j
    · subst hij
      rw [lt he]
      exact ⟨p, hσ, xs, ds, rfl, upd_same, a, n, n0, oc⟩
    · rw [get_set_ne hij] at he
      obtain ⟨q, e3, xs2, ds2, rfl, e4, a2, n2, n3, oc2⟩ := S.own j e hj he
      have hq : q ≠ p := fun z => hij (S.apart i j p _ _ hi hj hρ he hσ (by rw [e3, z]))
      exact ⟨q, e3, xs2, ds2, rfl, by rw [upd_ne hq]; exact e4, a2, n2, n3, oc2⟩
  · have g : ∀ {j e}, j ∈ ow → (ρ.set i (some (.list ds)))[j]? = some (some e) → ∃ e', ρ[j]? = some (some e') := fun {j e} hj he => by
      by_cases hij : i = j
      · subst hij; exact ⟨_, hρ⟩
      · rw [get_set_ne hij] at he; exact ⟨e, he⟩
    obtain ⟨d1, g1⟩ := g hj h1
    obtain ⟨d2, g2⟩ := g hk h2
    exact S.apart j k q d1 d2 hj hk g1 g2 h3 h4
  · exact Ω.stable _ _ _ S.orc fun q o z e => by rw [upd_ne (by rintro rfl; exact oc z)]; exact e
  · obtain ⟨b1, b2⟩ := S.pool j hj
    have hij : i ≠ j := fun e => by rw [e, b2] at hρ; cases hρ
    rw [get_set_ne hij]
    exact ⟨b1, b2⟩
/-- all slots out of the list are as they were -/
def AgreeOff (sl : List Nat) (σ σ' : L2.St) : Prop := σ'.length = σ.length ∧ ∀ j, j ∉ sl → σ'[j]? = σ[j]?
theorem AgreeOff.wipe {sl : List Nat} {σ σ' : L2.St} (a : AgreeOff sl σ σ') {vs : List Nat} (sub : ∀ i ∈ sl, i ∈ vs) : L2.wipe σ' vs = L2.wipe σ vs := by
  have get : ∀ (τ : L2.St) (ws : List Nat) (j : Nat), (L2.wipe τ ws)[j]? = if j ∈ ws then (if j < τ.length then some none else none) else τ[j]? := by
    intro τ ws
    induction ws with
    | nil => intro j; simp [L2.wipe]
    | cons w ws ih =>
      intro j
      show ((L2.wipe τ ws).set w none)[j]? = _
      by_cases hw : w = j
      · subst hw
        by_cases hl : w < τ.length
        · rw [List.getElem?_set_self (by rw [wipe_length]; exact hl)]; simp [hl]
        · rw [List.getElem?_eq_none (by rw [List.length_set, wipe_length]; omega)]; simp [hl]
      · rw [get_set_ne hw, ih j]
        have : j ≠ w := fun e => hw e.symm
        simp [this]
  apply List.ext_getElem?
  intro j
  rw [get, get, a.1]
  by_cases hj : j ∈ vs
  · simp [hj]
  · simp only [hj, if_false]
    exact a.2 j fun z => hj (sub j z)
end

/-! ### targets -/
def WG (X : Cx) (tg : Expr) : TG := fun v σ H Q => ∀ pins s u, Inv X pins σ H s → RelV v u → wpAny (model X.prog X.w) X.A (assign tg X.env u) (fun _ s' => ∃ σ' H', Inv X pins σ' H' s' ∧ Q σ' H') X.xe s
def WGs (X : Cx) (tgs : List Expr) : TGs := fun vs σ H Q => ∀ pins s us, Inv X pins σ H s → Vals vs us → wpAny (model X.prog X.w) X.A (assignInOrder ((assignEach tgs X.env).map (·.2)) us) (fun _ s' => ∃ σ' H', Inv X pins σ' H' s' ∧ Q σ' H') X.xe s
theorem wg {X : Cx} {tg : Expr} : PG X tg (WG X tg) := ⟨fun pins s _ _ _ u _ I r h => h pins s u I r⟩
theorem wgs {X : Cx} {tgs : List Expr} : PGs X tgs (WGs X tgs) := ⟨fun pins s _ _ _ us _ I r h => h pins s us I r⟩
theorem wg_of {X : Cx} {tg : Expr} {t : TG} {v σ H Q} (p : PG X tg t) (h : t v σ H Q) : WG X tg v σ H Q := fun pins s u I r => p.run pins s σ H v u Q I r h
theorem wgs_of {X : Cx} {tgs : List Expr} {t : TGs} {vs σ H Q} (p : PGs X tgs t) (h : t vs σ H Q) : WGs X tgs vs σ H Q := fun pins s us I r => p.run pins s σ H vs us Q I r h
abbrev SG := D → Lo → Option Lo
abbrev SGs := List D → Lo → Option Lo
def EG (X : Cx) (Ω : Orc) (ow : List Nat) (tg : Expr) (sl : List Nat) (t : SG) : Prop := ∀ F0 H0 F H σ ρ h d v ρ' Q, SR X.K Ω ow F0 H0 F H σ ρ h → Dp X.K F v d → t d ρ = some ρ' →
  (∀ σ', AgreeOff sl σ σ' → SR X.K Ω ow F0 H0 F H σ' ρ' h → Q σ' H) → WG X tg v σ H Q
def EGs (X : Cx) (Ω : Orc) (ow : List Nat) (tgs : List Expr) (sl : List Nat) (t : SGs) : Prop := ∀ F0 H0 F H σ ρ h ds vs ρ' Q, SR X.K Ω ow F0 H0 F H σ ρ h → DpAll X.K F vs ds → t ds ρ = some ρ' →
  (∀ σ', AgreeOff sl σ σ' → SR X.K Ω ow F0 H0 F H σ' ρ' h → Q σ' H) → WGs X tgs vs σ H Q
def gN (i : Nat) : SG := fun d ρ => some (ρ.set i (some d))
def gsNil : SGs := fun ds ρ => match ds with
  | [] => some ρ
  | _ => none
def gsCons (t : SG) (u : SGs) : SGs := fun ds ρ => match ds with
  | d :: r => (t d ρ).bind fun ρ1 => u r ρ1
  | [] => none
def gT (n : Nat) (t : SGs) : SG := fun d ρ => match d with
  | .tuple ds => if ds.length = n then t ds ρ else none
  | _ => none
section
variable {X : Cx} {Ω : Orc} {ow oc : List Nat} {pos : Pos}
theorem eg_name (i : Nat) {x : Str} (hN : X.N.Nodup) (hs : Ω.slot ≠ some i) (hi : X.N[i]? = some x := by rfl) (hx : Loc X.env.scope x := by first | exact Or.inl rfl | exact Or.inr rfl) (ho : i ∉ ow := by decide)
    (hf : X.fn x = true ∨ X.env.scope.names.lookup x = some .local := by first | exact .inl rfl | exact .inr rfl) : EG X Ω ow (.Name x pos) [i] (gN i) := by
  intro F0 H0 F H σ ρ h d v ρ' Q S dv e q
  cases e
  refine wg_of (pg_name hN hi hx hf) (q _ ⟨by simp, fun j hj => ?_⟩ (S.set ho hs dv))
  exact get_set_ne (by simpa [eq_comm] using hj)
theorem egs_nil : EGs X Ω ow [] [] gsNil := by
  intro F0 H0 F H σ ρ h ds vs ρ' Q S dv e q
  cases ds with
  | cons _ _ => cases e
  | nil =>
    cases e
    cases dv
    exact wgs_of pgs_nil ⟨rfl, q σ ⟨rfl, fun _ _ => rfl⟩ S⟩
theorem egs_cons {e : Expr} {es : List Expr} {sl sl' : List Nat} {t : SG} {u : SGs} (h1 : EG X Ω ow e sl t) (h2 : EGs X Ω ow es sl' u) (hs : (assignEach (e :: es) X.env).map (·.2) = assign e X.env :: (assignEach es X.env).map (·.2) := by rfl) : EGs X Ω ow (e :: es) (sl ++ sl') (gsCons t u) := by
  intro F0 H0 F H σ ρ h ds vs ρ' Q S dv e q
  cases ds with
  | nil => cases e
  | cons d ds =>
    cases dv with
    | cons d1 dr =>
      obtain ⟨ρ1, e1, e2⟩ := Option.bind_eq_some_iff.mp e
      refine wgs_of (pgs_cons wg wgs hs) ⟨_, _, rfl, h1 _ _ _ _ _ _ _ _ _ _ _ S d1 e1 fun σ1 a1 S1 => ?_⟩
      refine h2 _ _ _ _ _ _ _ _ _ _ _ S1 dr e2 fun σ2 a2 S2 => q σ2 ⟨a2.1.trans a1.1, fun j hj => ?_⟩ S2
      simp only [List.mem_append, not_or] at hj
      exact (a2.2 j hj.2).trans (a1.2 j hj.1)
theorem eg_tup {es : List Expr} {k n : Nat} {sl : List Nat} {t : SGs} (hc : X.calm = true) (hg : EGs X Ω ow es sl t) (hn : (assignEach es X.env).length = n := by rfl) (hst : (assignEach es X.env).findIdx? (·.1) = none := by rfl) : EG X Ω ow (.Tuple es k pos) sl (gT n t) := by
  intro F0 H0 F H σ ρ h d v ρ' Q S dv e q
  cases d with
  | tuple ds =>
    have e' : (if ds.length = n then t ds ρ else none) = some ρ' := e
    split at e'
    · rename_i hl
      cases dv with
      | tup sq da =>
        refine wg_of (pg_tup hc wgs hn hst) ⟨_, _, rfl, sqT_mono S.fh sq, by rw [DpAll.length da]; exact hl, hg _ _ _ _ _ _ _ _ _ _ _ S da e' q⟩
    · cases e'
  | _ => cases e

/-! ### statements -/
def sRet (f : SE) : SS := fun ρ => mb (f ρ) fun d => mp (.ret d)
def sSet (g : SG) (f : SE) : SS := fun ρ => mb (f ρ) fun d => mb (ml (g d ρ)) fun ρ' => mp (.nx ρ')
def sIf (t : ST) (a b : SS) : SS := fun ρ => mb (t ρ) fun c => if c = true then a ρ else b ρ
def sNil : SS := fun ρ => mp (.nx ρ)
def sSeq (a b : SS) : SS := fun ρ => mb (a ρ) fun r => match r with
  | .nx ρ' => b ρ'
  | .ct ρ' => mp (.ct ρ')
  | .ret d => mp (.ret d)
def sCt : SS := fun ρ => mp (.ct ρ)
variable {a : Expr} {fa : SE} {ow' ow2 : List Nat}
theorem es_ret (ha : EV X Ω ow a fa) : ES X Ω oc ow (.Return (some a) pos) ow' (sRet fa) := by
  intro F0 H0 F H σ ρ h r h' Dn S e q
  obtain ⟨d, h1, e1, e⟩ := mb_some e
  obtain ⟨rfl, rfl⟩ := mp_some e
  exact ws_of (ps_ret we) (ha _ _ _ _ _ _ _ _ _ _ S e1 fun v F1 H1 s1 o1 d1 => q v F1 H1 (S.st.trans s1) o1 d1)
theorem es_asg {tg : Expr} {sl : List Nat} {g : SG} (ha : EV X Ω ow a fa) (hg : EG X Ω ow tg sl g) (hs : swapsWithSole [tg] a pos.line X.env = pure false := by rfl) (hw : swappedStores [tg] a X.env = pure none := by rfl)
    (h1 : (assignEach [tg] X.env).map (·.2) = [assign tg X.env] := by rfl) : ES X Ω oc ow (.Assign [tg] a pos) ow (sSet g fa) := by
  intro F0 H0 F H σ ρ h r h' Dn S e q
  obtain ⟨d, h2, e1, e⟩ := mb_some e
  obtain ⟨ρ1, h3, z2, e⟩ := mb_some e
  obtain ⟨rfl, rfl⟩ := mp_some e
  obtain ⟨e2, rfl⟩ := ml_some z2
  refine ws_of (ps_asg we wg hs hw h1) (ha _ _ _ _ _ _ _ _ _ _ S e1 fun v F1 H1 s1 o1 d1 => ?_)
  exact hg _ _ _ _ _ _ _ _ _ _ _ (S.next s1 o1) d1 e2 fun σ' _ S' => q _ _ _ S'
theorem es_set (i : Nat) {x : Str} {pos' : Pos} (hN : X.N.Nodup) (ho : Ω.slot ≠ some i) (ha : EV X Ω ow a fa) (hi : X.N[i]? = some x := by rfl) (hx : Loc X.env.scope x := by first | exact Or.inl rfl | exact Or.inr rfl) (hw : i ∉ ow := by decide)
    (hs : swapsWith a (some (.Name x pos')) pos.line X.env = pure false := by rfl) (hf : X.fn x = true ∨ X.env.scope.names.lookup x = some .local := by first | exact .inl rfl | exact .inr rfl) :
    ES X Ω oc ow (.Assign [.Name x pos'] a pos) ow (sSet (gN i) fa) := by
  intro F0 H0 F H σ ρ h r h' Dn S e q
  obtain ⟨d, h2, e1, e⟩ := mb_some e
  obtain ⟨ρ1, h3, z2, e⟩ := mb_some e
  obtain ⟨rfl, rfl⟩ := mp_some e
  obtain ⟨e2, rfl⟩ := ml_some z2
  cases e2
  refine ws_of (ps_set hN hi hx we hs hf) (ha _ _ _ _ _ _ _ _ _ _ S e1 fun v F1 H1 s1 o1 d1 => ?_)
  exact q _ _ _ ((S.next s1 o1).set hw ho d1)
theorem es_setO (i : Nat) {x : Str} {pos' : Pos} (hN : X.N.Nodup) (ho : Ω.slot ≠ some i) (ha : EO X Ω ow a fa) (hi : X.N[i]? = some x := by rfl) (hx : Loc X.env.scope x := by first | exact Or.inl rfl | exact Or.inr rfl) (hw : i ∉ ow := by decide)
    (hs : swapsWith a (some (.Name x pos')) pos.line X.env = pure false := by rfl) (hf : X.fn x = true ∨ X.env.scope.names.lookup x = some .local := by first | exact .inl rfl | exact .inr rfl) :
    ES X Ω oc ow (.Assign [.Name x pos'] a pos) (i :: ow) (sSet (gN i) fa) := by
  intro F0 H0 F H σ ρ h r h' Dn S e q
  obtain ⟨d, h2, e1, e⟩ := mb_some e
  obtain ⟨ρ1, h3, z2, e⟩ := mb_some e
  obtain ⟨rfl, rfl⟩ := mp_some e
  obtain ⟨e2, rfl⟩ := ml_some z2
  cases e2
  refine ws_of (ps_set hN hi hx we hs hf) (ha _ _ _ _ _ _ _ _ _ _ S e1 fun p F1 H1 s1 o1 np d1 => ?_)
  exact q _ _ _ ((S.next s1 o1).setO S np hw ho d1)
/-- a, b = x, y -/
def aPar2 (i j : Nat) (sa : SA) : SS := fun ρ => mb (sa ρ) fun ds => match ds with
  | [d, e] => mp (.nx ((ρ.set i (some d)).set j (some e)))
  | _ => fun _ => none
theorem es_par (i j : Nat) {x y : Str} {b : Expr} {sa : SA} {px py pt : Pos} {kt k2 : Nat} {pt2 : Pos} (hc : X.calm = true) (hN : X.N.Nodup) (hso : Ω.slot ≠ some i) (hsp : Ω.slot ≠ some j) (ha : EA X Ω ow [a, b] sa)
    (hi : X.N[i]? = some x := by rfl) (hj : X.N[j]? = some y := by rfl) (hij : i ≠ j := by decide) (hoi : i ∉ ow := by decide) (hoj : j ∉ ow := by decide)
    (hx : X.env.scope.names.lookup x = some .local := by rfl) (hy : X.env.scope.names.lookup y = some .local := by rfl)
    (hw : swappedStores [.Tuple [.Name x px, .Name y py] kt pt] (.Tuple [a, b] k2 pt2) X.env = pure (some [x, y]) := by rfl)
    (hs : swapsWithSole [.Tuple [.Name x px, .Name y py] kt pt] (.Tuple [a, b] k2 pt2) pos.line X.env = pure false := by rfl) :
    ES X Ω oc ow (.Assign [.Tuple [.Name x px, .Name y py] kt pt] (.Tuple [a, b] k2 pt2) pos) ow (aPar2 i j sa) := by
  intro F0 H0 F H σ ρ h r h' Dn S e q
  obtain ⟨ds, h2, e1, e⟩ := mb_some e
  match ds, e, e1 with
  | [d1, d2], e, e1 =>
    obtain ⟨rfl, rfl⟩ := mp_some e
    refine ws_of (ps_par hc hN hi hj hij hx hy wa hw hs) (ha _ _ _ _ _ _ _ _ _ _ S e1 fun vs F1 H1 s1 o1 da => ?_)
    cases da with
    | cons a1 ar =>
      cases ar with
      | cons a2 ar =>
        cases ar
        exact ⟨_, _, rfl, q _ _ _ (((S.next s1 o1).set hoi hso a1).set hoj hsp a2)⟩
theorem es_if {t : Expr} {ta : ST} {A B : List Stmt} {fA fB : SS} (ht : ET X Ω ow t ta) (hA : ESs X Ω oc ow A ow' fA) (hB : ESs X Ω oc ow B ow' fB) : ES X Ω oc ow (.If t A B pos) ow' (sIf ta fA fB) := by
  intro F0 H0 F H σ ρ h r h' Dn S e q
  obtain ⟨c, h1, e1, e⟩ := mb_some e
  refine ws_of (ps_if wt wss wss) (ht _ _ _ _ _ _ _ _ _ _ S e1 fun F1 H1 s1 o1 => ?_)
  cases c with
  | true =>
    rw [if_pos rfl] at e ⊢
    exact hA _ _ _ _ _ _ _ _ _ _ (S.next s1 o1) e q
  | false =>
    rw [if_neg Bool.false_ne_true] at e ⊢
    exact hB _ _ _ _ _ _ _ _ _ _ (S.next s1 o1) e q
theorem es_ct : ES X Ω ow ow (.Continue pos) ow' sCt := by
  intro F0 H0 F H σ ρ h r h' Dn S e q
  obtain ⟨rfl, rfl⟩ := mp_some e
  exact ws_of ps_continue (q _ _ _ S)
theorem ess_nil : ESs X Ω oc ow [] ow sNil := by
  intro F0 H0 F H σ ρ h r h' Dn S e q
  obtain ⟨rfl, rfl⟩ := mp_some e
  exact wss_of pss_nil (q _ _ _ S)
theorem ess_cons {st : Stmt} {sts : List Stmt} {f g : SS} (h1 : ES X Ω oc ow st ow' f) (h2 : ESs X Ω oc ow' sts ow2 g) : ESs X Ω oc ow (st :: sts) ow2 (sSeq f g) := by
  intro F0 H0 F H σ ρ h r h' Dn S e q
  obtain ⟨r1, h3, e1, e⟩ := mb_some e
  refine wss_of (pss_cons ws wss) (h1 _ _ _ _ _ _ _ _ _ _ S e1 ?_)
  cases r1 with
  | nx ρ' => exact fun F' H' σ' S' => h2 _ _ _ _ _ _ _ _ _ _ S' e q
  | ct ρ' =>
    obtain ⟨rfl, rfl⟩ := mp_some e
    exact q
  | ret d =>
    obtain ⟨rfl, rfl⟩ := mp_some e
    exact q
/-- the last one of a block -/
theorem ess_one {st : Stmt} {f : SS} (h1 : ES X Ω oc ow st ow' f) : ESs X Ω oc ow [st] ow' f := by
  intro F0 H0 F H σ ρ h r h' Dn S e q
  exact wss_of (pss_one ws) (h1 _ _ _ _ _ _ _ _ _ _ S e q)
/-- before a statement: fewer slots hold what no other holds -/
theorem es_fz (ow2 : List Nat) {st : Stmt} {f : SS} (h : ES X Ω oc ow2 st ow' f) (sub : ∀ i ∈ ow2, i ∈ ow := by decide) : ES X Ω oc ow st ow' f := by
  intro F0 H0 F H σ ρ hh r h' Dn S e q
  obtain ⟨F', _, _, S'⟩ := S.thaw ow2 sub
  exact h _ _ _ _ _ _ _ _ _ _ S' e q
theorem ess_fz (ow2 : List Nat) {st : List Stmt} {f : SS} (h : ESs X Ω oc ow2 st ow' f) (sub : ∀ i ∈ ow2, i ∈ ow := by decide) : ESs X Ω oc ow st ow' f := by
  intro F0 H0 F H σ ρ hh r h' Dn S e q
  obtain ⟨F', _, _, S'⟩ := S.thaw ow2 sub
  exact h _ _ _ _ _ _ _ _ _ _ S' e q
/-- behind a block -/
theorem ess_drop (ow2 : List Nat) {st : List Stmt} {f : SS} (h : ESs X Ω oc ow st ow2 f) (sub : ∀ i ∈ ow', i ∈ ow2 := by decide) : ESs X Ω oc ow st ow' f := by
  intro F0 H0 F H σ ρ hh r h' Dn S e q
  refine h _ _ _ _ _ _ _ _ _ _ S e ?_
  cases r with
  | nx ρ' =>
    intro F' H' σ' S'
    obtain ⟨F2, _, _, S2⟩ := S'.thaw ow' sub
    exact q _ _ _ S2
  | ct ρ' => exact q
  | ret d => exact q
/-- a test may look at all that the slots hold -/
theorem et_all {e : Expr} {t : ST} (h : ET X Ω [] e t) : ET X Ω ow e t := by
  intro F0 H0 F H σ ρ hh b h' Q S e1 q
  obtain ⟨F1, st1, sf, S1⟩ := S.thaw [] (fun i hi => nomatch hi)
  refine h _ _ _ _ _ _ _ _ _ _ S1 e1 fun F' H' s' o' => ?_
  refine q F H' ⟨Same.refl _, fun p o z => ?_, s'.kp, fun p _ z => z, s'.al⟩ o'
  exact s'.kp p o (S.fh p o z) fun oc => by rw [S.ocf p oc] at z; cases z
end
end PL

namespace PL
open PySem PySem.Spec PyProof.Rows L2

/-! ### what is walked -/
/-- the walk J gives the data ds, as long as the frozen heap F stands -/
structure Walk (K : PySem.W.Frag) (J : It) (F : Hp) (ds : List D) : Prop where
  go : ∀ i H, i < ds.length → Same F H → J.go i H
  yld : ∀ i H x H', i < ds.length → Same F H → J.yld i H x H' → H' = H ∧ ∃ d, ds[i]? = some d ∧ Dp K F x d
  stop : ∀ i H, ds.length ≤ i → Same F H → J.stop i H
def WI (X : Cx) (tg iter : Expr) : TI := fun σ H R => ∀ pins s, Inv X pins σ H s → wpAny (model X.prog X.w) X.A (eval iter X.env) (fun v s1 => wpAny (model X.prog X.w) X.A (pyIter v) (PIE X pins σ tg R) X.xe s1) X.xe s
theorem wi {X : Cx} {tg iter : Expr} : PI X tg iter (WI X tg iter) := ⟨fun pins s _ _ _ I h => h pins s I⟩
theorem wi_of {X : Cx} {tg iter : Expr} {t : TI} {σ H R} (p : PI X tg iter t) (h : t σ H R) : WI X tg iter σ H R := fun pins s I => p.run pins s σ H R I h
abbrev SI := Lo → M (List D)
def EI (X : Cx) (Ω : Orc) (ow : List Nat) (tg iter : Expr) (f : SI) : Prop := ∀ F0 H0 F H σ ρ h ds h' R, SR X.K Ω ow F0 H0 F H σ ρ h → f ρ h = some (ds, h') →
  (∀ J F' H', Stp Ω F H F' H' → Ω.OR h' H' → Walk X.K J F' ds → R J H') → WI X tg iter σ H R
section
variable {X : Cx} {tg : Expr}
def iAny (K : PySem.W.Frag) (tl : TE) : TI := fun σ H R => tl σ H fun x H1 => (∃ a, x = .ref a ∧ (∃ xs, SqL K H1 a xs) ∧ R (Itl K a) H1) ∨ (∃ a, x = .ref a ∧ (∃ xs, SqT K H1 a xs) ∧ R (Itt K a) H1)
theorem pi_any {l : Expr} {tl : TE} (hl : PE X l tl) : PI X tg l (iAny X.K tl) := by
  refine ⟨fun pins s σ H R I h => ?_⟩
  refine thn (hl.run pins s σ H _ I h) fun v s1 ⟨x, H1, I1, r1, q1⟩ => ?_
  rcases q1 with ⟨a, e, ⟨xs, hq⟩, q⟩ | ⟨a, e, ⟨xs, hq⟩, q⟩
  · subst e
    cases r1
    obtain ⟨its, rv, p, hz⟩ := I1.list hq
    refine wpAny_pyIter_list p.isList ?_
    refine ⟨s1.heap.objs.size, [s1.heap.objs.size], _, _, H1, rfl, I1.kept (t' := s1.toks) fun b o e => Heap.get?_push_of_some _ e, turn_list a _, ⟨_, Heap.get?_push_size _ rfl, rfl, rfl⟩, fun b hb => ?_, q⟩
    have e : b = s1.heap.objs.size := by simpa using hb
    subst e
    exact I1.fpOk (Nat.le_refl _) (I1.hok.fresh (Nat.le_refl _))
  · subst e
    cases r1
    obtain ⟨its, rv, p, hz⟩ := I1.tuple hq
    refine wpAny_pyIter_tuple (show s1.heap.IsTuple a its.toArray from p) ?_
    refine ⟨s1.heap.objs.size, [s1.heap.objs.size], _, _, H1, rfl, I1.kept (t' := s1.toks) fun b o e => Heap.get?_push_of_some _ e, turn_tuple a _, ⟨_, Heap.get?_push_size _ rfl, rfl, rfl⟩, fun b hb => ?_, q⟩
    have e : b = s1.heap.objs.size := by simpa using hb
    subst e
    exact I1.fpOk (Nat.le_refl _) (I1.hok.fresh (Nat.le_refl _))
end
theorem walk_list {K : PySem.W.Frag} {F : Hp} {a : Addr} {xs : List V} {ds : List D} (sq : SqL K F a xs) (da : DpAll K F xs ds) (inj : ∀ H ys, Same F H → SqL K H a ys → ys = xs) : Walk K (Itl K a) F ds := by
  have hl := DpAll.length da
  refine ⟨fun i H hi s => ?_, fun i H x H' hi s y => ?_, fun i H hi s => ⟨xs, s.seq sq, by omega⟩⟩
  · exact ⟨xs, xs[i]'(by omega), s.seq sq, List.getElem?_eq_getElem (by omega)⟩
  · obtain ⟨e, y⟩ := y
    have e1 := y xs (s.seq sq)
    obtain ⟨d, h1, h2⟩ := DpAll.get' da e1
    exact ⟨e, d, h1, h2⟩
theorem walk_tup {K : PySem.W.Frag} {F : Hp} {a : Addr} {xs : List V} {ds : List D} (sq : SqT K F a xs) (da : DpAll K F xs ds) : Walk K (Itt K a) F ds := by
  have hl := DpAll.length da
  refine ⟨fun i H hi s => ?_, fun i H x H' hi s y => ?_, fun i H hi s => ⟨xs, sqT_mono s sq, by omega⟩⟩
  · exact ⟨xs, xs[i]'(by omega), sqT_mono s sq, List.getElem?_eq_getElem (by omega)⟩
  · obtain ⟨e, y⟩ := y
    have e1 := y xs (sqT_mono s sq)
    obtain ⟨d, h1, h2⟩ := DpAll.get' da e1
    exact ⟨e, d, h1, h2⟩
theorem walk_list' {K : PySem.W.Frag} {F : Hp} {a : Addr} {xs : List V} {ds : List D} (sq : SqL K F a xs) (da : DpAll K F xs ds) : Walk K (Itl K a) F ds := by
  have hl := DpAll.length da
  refine ⟨fun i H hi s => ?_, fun i H x H' hi s y => ?_, fun i H hi s => ⟨xs, s.seq sq, by omega⟩⟩
  · exact ⟨xs, xs[i]'(by omega), s.seq sq, List.getElem?_eq_getElem (by omega)⟩
  · obtain ⟨e, y⟩ := y
    have e1 := y xs (s.seq sq)
    obtain ⟨d, h1, h2⟩ := DpAll.get' da e1
    exact ⟨e, d, h1, h2⟩
def rgD (lo : Int) (n : Nat) : List D := (List.range n).map fun i => .int (lo + (i : Nat))
theorem rgD_len (lo : Int) (n : Nat) : (rgD lo n).length = n := by simp [rgD]
theorem walk_rng {K : PySem.W.Frag} {F : Hp} {lo : Int} {n : Nat} : Walk K (Itr lo n) F (rgD lo n) := by
  refine ⟨fun i H hi s => by rw [rgD_len] at hi; exact hi, fun i H x H' hi s y => ?_, fun i H hi s => by rw [rgD_len] at hi; exact hi⟩
  obtain ⟨e, rfl⟩ := y
  rw [rgD_len] at hi
  exact ⟨e, .int (lo + (i : Nat)), by simp [rgD, hi], .int _⟩
def items : D → Option (List D)
  | .list ds => some ds
  | .tuple ds => some ds
  | _ => none
/-- over a list or tuple -/
def iSeq (f : SE) : SI := fun ρ => mb (f ρ) fun d => ml (items d)
def small62 (i : Int) : Bool := decide (-(2 ^ 62) ≤ i) && decide (i < 2 ^ 62)
theorem small62_iff {i : Int} (h : small62 i = true) : -(2 ^ 62) ≤ i ∧ i < 2 ^ 62 := by
  unfold small62 at h
  simpa using h
def rg1 : List D → Option (List D)
  | [.int j] => if small62 j = true then some (rgD 0 j.toNat) else none
  | _ => none
def rg2 : List D → Option (List D)
  | [.int i, .int j] => if (small62 i && small62 j) = true then some (rgD i (j - i).toNat) else none
  | _ => none
def rgDn (i j : Int) : List D := (List.range (i - j).toNat).map fun k => .int (i - (k : Nat))
/-- range(i, j, -1) -/
def rg3 : List D → Option (List D)
  | [.int i, .int j, .int c] => if (small62 i && small62 j && decide (c = -1)) = true then some (rgDn i j) else none
  | _ => none
def iRg (g : List D → Option (List D)) (a : SA) : SI := fun ρ => mb (a ρ) fun ds => ml (g ds)
section
variable {X : Cx} {Ω : Orc} {ow oc : List Nat} {pos p : Pos} {tg a b : Expr} {fa : SE} {sa : SA}
theorem ei_seq (ha : EV X Ω ow a fa) : EI X Ω ow tg a (iSeq fa) := by
  intro F0 H0 F H σ ρ h ds h' R S e q
  obtain ⟨d, h1, e1, e⟩ := mb_some e
  obtain ⟨e2, rfl⟩ := ml_some e
  refine wi_of (pi_any we) (ha _ _ _ _ _ _ _ _ _ _ S e1 fun v F1 H1 s1 o1 d1 => ?_)
  cases d1 with
  | lst sq da =>
    cases e2
    exact .inl ⟨_, rfl, ⟨_, s1.fh.seq sq⟩, q _ _ _ s1 o1 (walk_list' sq da)⟩
  | tup sq da =>
    cases e2
    exact .inr ⟨_, rfl, ⟨_, sqT_mono s1.fh sq⟩, q _ _ _ s1 o1 (walk_tup sq da)⟩
  | _ => cases e2
theorem ei_rg1 (hm : X.mg "range" = none) (ha : EA X Ω ow [a] sa) (hg : Gl X "range" := by rfl) (hs : starEach [a] X.env = [(false, eval a X.env)] := by rfl) : EI X Ω ow tg (.Call (.Name "range" p) [a] [] pos) (iRg rg1 sa) := by
  intro F0 H0 F H σ ρ h ds h' R S e q
  obtain ⟨d, h1, e1, e⟩ := mb_some e
  obtain ⟨e2, rfl⟩ := ml_some e
  refine wi_of (pi_range1 hg hm wa hs) (ha _ _ _ _ _ _ _ _ _ _ S e1 fun vs F1 H1 s1 o1 d1 => ?_)
  match d, d1, e2 with
  | [.int j], .cons (.int _) .nil, e2 =>
    have e2 : (if small62 j = true then some (rgD 0 j.toNat) else none) = some ds := e2
    split at e2
    · rename_i hj
      cases e2
      obtain ⟨b1, b2⟩ := small62_iff hj
      exact ⟨j, rfl, b1, b2, q _ _ _ s1 o1 walk_rng⟩
    · cases e2
theorem ei_rg2 (hm : X.mg "range" = none) (ha : EA X Ω ow [a, b] sa) (hg : Gl X "range" := by rfl) (hs : starEach [a, b] X.env = [(false, eval a X.env), (false, eval b X.env)] := by rfl) (hs2 : starEach [b] X.env = [(false, eval b X.env)] := by rfl) :
    EI X Ω ow tg (.Call (.Name "range" p) [a, b] [] pos) (iRg rg2 sa) := by
  intro F0 H0 F H σ ρ h ds h' R S e q
  obtain ⟨d, h1, e1, e⟩ := mb_some e
  obtain ⟨e2, rfl⟩ := ml_some e
  refine wi_of (pi_range2 hg hm wa hs hs2) (ha _ _ _ _ _ _ _ _ _ _ S e1 fun vs F1 H1 s1 o1 d1 => ?_)
  match d, d1, e2 with
  | [.int i, .int j], .cons (.int _) (.cons (.int _) .nil), e2 =>
    have e2 : (if (small62 i && small62 j) = true then some (rgD i (j - i).toNat) else none) = some ds := e2
    split at e2
    · rename_i hj
      cases e2
      rw [Bool.and_eq_true] at hj
      obtain ⟨b1, b2⟩ := small62_iff hj.1
      obtain ⟨b3, b4⟩ := small62_iff hj.2
      exact ⟨i, j, rfl, ⟨b1, b2, b3, b4⟩, q _ _ _ s1 o1 walk_rng⟩
    · cases e2

/-! ### for -/
/-- the frozen heap F1 laid over H0 -/
def bsH (F1 H0 : Hp) : Hp := fun p => match F1 p with
  | some o => some o
  | none => H0 p
section
variable {K : PySem.W.Frag} {F0 H0 F1 H1 F2 H2 : Hp} {σ : L2.St} {ρ : Lo} {h : List Int}
theorem bsH_some {p : Addr} {o : HO} (e : F1 p = some o) : bsH F1 H0 p = some o := by unfold bsH; rw [e]
theorem bsH_none {p : Addr} (e : F1 p = none) : bsH F1 H0 p = H0 p := by unfold bsH; rw [e]
theorem Stp.up (s1 : Stp Ω F0 H0 F1 H1) (s2 : Stp Ω F0 H0 F2 H2) (sf : Same F1 F2) : Stp Ω F1 (bsH F1 H0) F2 H2 := by
  refine ⟨sf, s2.fh, fun p o e n => ?_, fun p e n => ?_, fun p e => ?_⟩
  · cases z : F1 p with
    | some u => rw [bsH_some z] at e; cases e; exact s2.fh p _ (sf p _ z)
    | none => rw [bsH_none z] at e; exact s2.kp p o e n
  · rw [bsH_none n] at e
    exact s2.ap p e (s1.sf.free n)
  · cases z : F1 p with
    | some u => rw [s2.fh p _ (sf p _ z)]; simp
    | none => rw [bsH_none z] at e; exact s2.al p e
theorem Stp.down (s1 : Stp Ω F0 H0 F1 H1) (s2 : Stp Ω F1 (bsH F1 H0) F2 H2) : Stp Ω F0 H0 F2 H2 := by
  refine ⟨s1.sf.trans s2.sf, s2.fh, fun p o e n => ?_, fun p e n => ?_, fun p e => ?_⟩
  · refine s2.kp p o ?_ n
    cases z : F1 p with
    | some u =>
      have := s1.kp p o e n
      rw [s1.fh p u z] at this
      cases this
      exact bsH_some z
    | none => rw [bsH_none z]; exact e
  · have n1 := s1.ap p e n
    exact s2.ap p (by rw [bsH_none n1]; exact e) n1
  · refine s2.al p ?_
    cases z : F1 p with
    | some u => rw [bsH_some z]; simp
    | none => rw [bsH_none z]; exact e
theorem SR.up (s1 : Stp Ω F0 H0 F1 H1) (S : SR K Ω ow F0 H0 F2 H2 σ ρ h) (sf : Same F1 F2) : SR K Ω ow F1 (bsH F1 H0) F2 H2 σ ρ h := by
  refine ⟨Stp.up s1 S.st sf, S.len, S.val, fun i d hi e => ?_, S.apart, S.orc, S.ocf, S.pool⟩
  obtain ⟨p, e1, xs, ds, e2, e3, a, n, n0, oc⟩ := S.own i d hi e
  exact ⟨p, e1, xs, ds, e2, e3, a, n, by rw [bsH_none (sf.free n)]; exact n0, oc⟩
theorem SR.down (s1 : Stp Ω F0 H0 F1 H1) (S : SR K Ω ow F1 (bsH F1 H0) F2 H2 σ ρ h) : SR K Ω ow F0 H0 F2 H2 σ ρ h := by
  refine ⟨Stp.down s1 S.st, S.len, S.val, fun i d hi e => ?_, S.apart, S.orc, S.ocf, S.pool⟩
  obtain ⟨p, e1, xs, ds, e2, e3, a, n, n0, oc⟩ := S.own i d hi e
  refine ⟨p, e1, xs, ds, e2, e3, a, n, ?_, oc⟩
  cases z : F1 p with
  | some u => rw [bsH_some z] at n0; cases n0
  | none => rw [bsH_none z] at n0; exact n0
end
/-- a block keeps what is frozen -/
def FlOk' (X : Cx) (Ω : Orc) (oc ow' : List Nat) (F0 H0 F1 : Hp) (Dn : Ends) (h' : List Int) : Fl → Prop
  | .nx ρ' => ∀ F' H' σ', SR X.K Ω ow' F0 H0 F' H' σ' ρ' h' → Same F1 F' → Dn.nx σ' H'
  | .ct ρ' => ∀ F' H' σ', SR X.K Ω oc F0 H0 F' H' σ' ρ' h' → Same F1 F' → Dn.ct σ' H'
  | .ret d => ∀ v F' H', Stp Ω F0 H0 F' H' → Ω.OR h' H' → Dp X.K F' v d → Dn.rt v H'
theorem ess_keep {sts : List Stmt} {ow' : List Nat} {f : SS} {F0 H0 F1 H1 F2 H2 : Hp} {σ : L2.St} {ρ : Lo} {h h' : List Int} {r : Fl} {Dn : Ends} (hb : ESs X Ω oc ow sts ow' f) (s1 : Stp Ω F0 H0 F1 H1) (S : SR X.K Ω ow F0 H0 F2 H2 σ ρ h) (sf : Same F1 F2)
    (e : f ρ h = some (r, h')) (q : FlOk' X Ω oc ow' F0 H0 F1 Dn h' r) : WSs X sts Dn σ H2 := by
  refine hb _ _ _ _ _ _ _ _ _ _ (SR.up s1 S sf) e ?_
  cases r with
  | nx ρ' => exact fun F' H' σ' S' => q F' H' σ' (SR.down s1 S') S'.st.sf
  | ct ρ' => exact fun F' H' σ' S' => q F' H' σ' (SR.down s1 S') S'.st.sf
  | ret d => exact fun v F' H' s' => q v F' H' (Stp.down s1 s')
def forL (t : SG) (body : SS) : List D → Lo → M Fl
  | [], ρ => mp (.nx ρ)
  | d :: ds, ρ => mb (ml (t d ρ)) fun ρ1 => mb (body ρ1) fun r => match r with
    | .nx ρ2 => forL t body ds ρ2
    | .ct ρ2 => forL t body ds ρ2
    | .ret z => mp (.ret z)
def sFor (fi : SI) (t : SG) (body : SS) : SS := fun ρ => mb (fi ρ) fun ds => forL t body ds ρ
theorem drop_cons {α : Type} {l : List α} {i : Nat} {d : α} (h : l[i]? = some d) : l.drop i = d :: l.drop (i + 1) := by
  obtain ⟨hl, e⟩ := List.getElem?_eq_some_iff.mp h
  rw [List.drop_eq_getElem_cons hl, e]
theorem es_for {iter : Expr} {body : List Stmt} {fi : SI} {t : SG} {fb : SS} {sl : List Nat} (hp : PassesOwn (model X.prog X.w) X.A X.env X.xe) (hc : X.calm = true) (hi : EI X Ω ow tg iter fi) (hg : EG X Ω ow tg sl t) (hb : ESs X Ω ow ow body ow fb)
    (hs : ∀ x, foldedSetIterable iter X.env x = pure x := by intro _; rfl) : ES X Ω oc ow (.For tg iter body [] pos) ow (sFor fi t fb) := by
  intro F0 H0 F H σ ρ h r h' Dn S e q
  obtain ⟨ds, h1, e1, e⟩ := mb_some e
  refine ws_of (ps_for hp hc wi wg wss hs) (hi _ _ _ _ _ _ _ _ _ _ S e1 fun J F1 H1 s1 o1 W => ?_)
  have s01 := S.st.trans s1
  refine ⟨fun i m σ2 H2 => m = ds.length - i ∧ i ≤ ds.length ∧ ∃ F2 ρ2 h2, SR X.K Ω ow F0 H0 F2 H2 σ2 ρ2 h2 ∧ Same F1 F2 ∧ forL t fb (ds.drop i) ρ2 h2 = some (r, h'),
    ⟨ds.length, rfl, Nat.zero_le _, F1, ρ, h1, S.next s1 o1, Same.refl _, e⟩, ?_⟩
  rintro i m σ2 H2 ⟨rfl, hle, F2, ρ2, h2, S2, sF, e2⟩
  by_cases hlt : i < ds.length
  · refine .inr ⟨W.go i H2 hlt (sF.trans S2.fh), fun σ3 H3 => i + 1 ≤ ds.length ∧ ∃ F3 ρ3 h3, SR X.K Ω ow F0 H0 F3 H3 σ3 ρ3 h3 ∧ Same F1 F3 ∧ forL t fb (ds.drop (i + 1)) ρ3 h3 = some (r, h'), fun σ3 H3 ⟨z1, z2⟩ => ⟨ds.length - (i + 1), by omega, rfl, z1, z2⟩, fun x H3 y => ?_⟩
    obtain ⟨rfl, d, hd, dx⟩ := W.yld i H2 x H3 hlt (sF.trans S2.fh) y
    rw [drop_cons hd] at e2
    obtain ⟨ρ3, h3, z3, e4⟩ := mb_some e2
    obtain ⟨e3, y3⟩ := ml_some z3
    obtain ⟨r5, h5, e5, e6⟩ := mb_some e4
    subst y3
    refine hg _ _ _ _ _ _ _ _ _ _ _ S2 (Dp_mono sF dx) e3 fun σ4 _ S4 => ?_
    refine ess_keep hb s01 S4 sF e5 ?_
    cases r5 with
    | nx ρ' => exact fun F' H' σ' S' sF' => ⟨hlt, F', ρ', h5, S', sF', e6⟩
    | ct ρ' => exact fun F' H' σ' S' sF' => ⟨hlt, F', ρ', h5, S', sF', e6⟩
    | ret d =>
      obtain ⟨rfl, rfl⟩ := mp_some e6
      exact q
  · have ei : i = ds.length := by omega
    subst ei
    rw [List.drop_length] at e2
    obtain ⟨rfl, rfl⟩ := mp_some e2
    exact .inl ⟨W.stop _ H2 (Nat.le_refl _) (sF.trans S2.fh), q _ _ _ S2⟩

/-! ### while -/
def whL (c : ST) (b : SS) : Nat → Lo → M Fl
  | 0, _ => fun _ => none
  | n + 1, ρ => mb (c ρ) fun k => if k = true then mb (b ρ) fun r => match r with
      | .nx ρ2 => whL c b n ρ2
      | .ct ρ2 => whL c b n ρ2
      | .ret z => mp (.ret z)
    else mp (.nx ρ)
def sWh (n : Nat) (c : ST) (b : SS) : SS := whL c b n
theorem es_wh (n : Nat) {t : Expr} {ta : ST} {body : List Stmt} {fb : SS} (hp : PassesOwn (model X.prog X.w) X.A X.env X.xe) (ht : ET X Ω ow t ta) (hb : ESs X Ω ow ow body ow fb) : ES X Ω oc ow (.While t body [] pos) ow (sWh n ta fb) := by
  intro F0 H0 F H σ ρ h r h' Dn S e q
  refine ws_of (ps_while hp wt wss) ?_
  refine ⟨fun m σ2 H2 => ∃ F2 ρ2 h2, SR X.K Ω ow F0 H0 F2 H2 σ2 ρ2 h2 ∧ whL ta fb m ρ2 h2 = some (r, h'), ⟨n, F, ρ, h, S, e⟩, ?_⟩
  rintro m σ2 H2 ⟨F2, ρ2, h2, S2, e2⟩
  cases m with
  | zero => cases e2
  | succ m =>
    obtain ⟨k, h3, e3, e4⟩ := mb_some e2
    refine ht _ _ _ _ _ _ _ _ _ _ S2 e3 fun F3 H3 s3 o3 => ?_
    cases k with
    | false =>
      rw [if_neg Bool.false_ne_true] at e4 ⊢
      obtain ⟨rfl, rfl⟩ := mp_some e4
      exact q _ _ _ (S2.next s3 o3)
    | true =>
      rw [if_pos rfl] at e4 ⊢
      obtain ⟨r5, h5, e5, e6⟩ := mb_some e4
      refine ⟨fun σ3 H3 => ∃ F2 ρ2 h2, SR X.K Ω ow F0 H0 F2 H3 σ3 ρ2 h2 ∧ whL ta fb m ρ2 h2 = some (r, h'), fun σ' H' z => ⟨m, Nat.lt_succ_self m, z⟩, ?_⟩
      refine hb _ _ _ _ _ _ _ _ _ _ (S2.next s3 o3) e5 ?_
      cases r5 with
      | nx ρ' => exact fun F' H' σ' S' => ⟨F', ρ', h5, S', e6⟩
      | ct ρ' => exact fun F' H' σ' S' => ⟨F', ρ', h5, S', e6⟩
      | ret d =>
        obtain ⟨rfl, rfl⟩ := mp_some e6
        exact q

/-! ### lists that one slot holds: append, pop -/
def big : Nat := 1000000
theorem big_line {n : Nat} (h : n ≤ big) : n < sizeLine := by
  have e : sizeLine = 16777216 := sizeLine_eq
  have : big = 1000000 := rfl
  omega
def appAt (i : Nat) (d : D) (ρ : Lo) : Option Lo := match rd i ρ with
  | some (.list ds) => if ds.length ≤ big then some (ρ.set i (some (.list (ds ++ [d])))) else none
  | _ => none
def sApp (i : Nat) (f : SE) : SS := fun ρ => mb (f ρ) fun d => mb (ml (appAt i d ρ)) fun ρ' => mp (.nx ρ')
theorem es_app (i : Nat) {x : Str} {px pa pc : Pos} (ha : EV X Ω ow a fa) (hw : i ∈ ow := by decide) (hN : X.N[i]? = some x := by rfl) (hv : Vis X.env.scope x := by first | exact Or.inl rfl | exact Or.inr (Or.inl rfl) | exact Or.inr (Or.inr rfl))
    (r1 : PE X (.Name x px) (tVar i) → PA X [a] (tCons (WE X a) tNil) → PS X (.Expr (.Call (.Attribute (.Name x px) "append" pa) [a] [] pc) pos) (tDrop (tBM X.K "list" rAppend (tVar i) (tCons (WE X a) tNil))) := by
      intro h1 h2; exact ps_expr (pe_bm PySem.F.plainAttrs_list PySem.F.slot_list_append PySem.F.type_list_append mt_append h1 h2))
    (r2 : PA X [a] (tCons (WE X a) tNil) := by exact pa_cons we pa_nil)
    (hd : (x == ("__debug__" : Str)) = false := by decide) (hcd : (x == ("__classdict__" : Str)) = false := by decide) :
    ES X Ω oc ow (.Expr (.Call (.Attribute (.Name x px) "append" pa) [a] [] pc) pos) ow (sApp i fa) := by
  intro F0 H0 F H σ ρ h r h' Dn S e q
  obtain ⟨d, h1, e1, e⟩ := mb_some e
  obtain ⟨ρ', h2, z2, e⟩ := mb_some e
  obtain ⟨rfl, rfl⟩ := mp_some e
  obtain ⟨e2, y2⟩ := ml_some z2
  subst y2
  refine ws_of (r1 (pe_var hN hv hd hcd) r2) ?_
  unfold appAt at e2
  split at e2
  · rename_i ds hrd
    split at e2
    · rename_i hb
      cases e2
      obtain ⟨p, ep, xs, ds', ed, eH, da, n, n0, oc'⟩ := S.own i _ hw (rd_some hrd)
      cases ed
      refine ⟨_, ep, .inl ⟨rfl, _, .inl (.inl eH)⟩, ha _ _ _ _ _ _ _ _ _ _ S e1 fun v F1 H1 s1 o1 d1 => ?_⟩
      have S1 := S.next s1 o1
      have eH1 := s1.kp p _ eH oc'
      refine ⟨p, xs, v, rfl, rfl, eH1, big_line (by rw [DpAll.length da]; exact hb), ?_⟩
      exact q _ _ _ (S1.chg hw (rd_some hrd) ep (DpAll.append (DpAll_mono s1.sf da) (.cons d1 .nil)))
    · cases e2
  · cases e2
def popAt (i : Nat) (ρ : Lo) : Option Lo := match rd i ρ with
  | some (.list ds) => if ds = [] then none else some (ρ.set i (some (.list ds.dropLast)))
  | _ => none
end
end PL

namespace PL
open PySem PySem.Spec PyProof.Rows L2

/-! ### comprehensions -/
def wipeD (ρ : Lo) : List Nat → Lo
  | [] => ρ
  | v :: vs => (wipeD ρ vs).set v none
theorem wipeD_get (ρ : Lo) : ∀ (vs : List Nat) (j : Nat), (wipeD ρ vs)[j]? = if j ∈ vs then (if j < ρ.length then some none else none) else ρ[j]?
  | [], j => by simp [wipeD]
  | w :: ws, j => by
    have hlen : ∀ vs : List Nat, (wipeD ρ vs).length = ρ.length := by
      intro vs
      induction vs with
      | nil => rfl
      | cons v vs ih => show ((wipeD ρ vs).set v none).length = _; rw [List.length_set, ih]
    show ((wipeD ρ ws).set w none)[j]? = _
    by_cases hw : w = j
    · subst hw
      by_cases hl : w < ρ.length
      · rw [List.getElem?_set_self (by rw [hlen]; exact hl)]; simp [hl]
      · rw [List.getElem?_eq_none (by rw [List.length_set, hlen]; omega)]; simp [hl]
    · rw [get_set_ne hw, wipeD_get ρ ws j]
      have : j ≠ w := fun e => hw e.symm
      simp [this]
theorem wipeD_length (ρ : Lo) : ∀ vs : List Nat, (wipeD ρ vs).length = ρ.length
  | [] => rfl
  | v :: vs => by show ((wipeD ρ vs).set v none).length = _; rw [List.length_set, wipeD_length ρ vs]
theorem wipe_get (τ : L2.St) : ∀ (ws : List Nat) (j : Nat), j ∉ ws → (L2.wipe τ ws)[j]? = τ[j]?
  | [], j, _ => rfl
  | w :: ws, j, h => by
    simp only [List.mem_cons, not_or] at h
    show ((L2.wipe τ ws).set w none)[j]? = _
    rw [get_set_ne (fun e => h.1 e.symm), wipe_get τ ws j h.2]
section
variable {K : PySem.W.Frag} {Ω : Orc} {ow : List Nat} {F0 H0 F H F1 H1 : Hp} {σ : L2.St} {ρ : Lo} {h h1 : List Int}
theorem SR.wipe (S : SR K Ω ow F0 H0 F H σ ρ h) (vs : List Nat) (hv : ∀ i ∈ vs, i ∉ ow) (hs : ∀ i ∈ vs, Ω.slot ≠ some i) : SR K Ω ow F0 H0 F H (L2.wipe σ vs) (wipeD ρ vs) h := by
  have g : ∀ {i d}, (wipeD ρ vs)[i]? = some (some d) → i ∉ vs ∧ ρ[i]? = some (some d) := fun {i d} e => by
    rw [wipeD_get] at e
    by_cases hi : i ∈ vs
    · simp only [hi, if_true] at e
      split at e <;> cases e
    · simp only [hi, if_false] at e
      exact ⟨hi, e⟩
  refine ⟨S.st, by rw [wipe_length, wipeD_length]; exact S.len, fun i d hi e => ?_, fun i d hi e => ?_, fun i j p d e hi hj e1 e2 e3 e4 => ?_, S.orc, S.ocf, fun i hi => ?_⟩
  · obtain ⟨n, e⟩ := g e
    rw [wipe_get σ vs i n]
    exact S.val i d hi e
  · obtain ⟨n, e⟩ := g e
    rw [wipe_get σ vs i n]
    exact S.own i d hi e
  · obtain ⟨n1, e1⟩ := g e1
    obtain ⟨n2, e2⟩ := g e2
    rw [wipe_get σ vs i n1] at e3
    rw [wipe_get σ vs j n2] at e4
    exact S.apart i j p d e hi hj e1 e2 e3 e4
  · have n : i ∉ vs := fun z => hs i z hi
    rw [wipe_get σ vs i n, wipeD_get]
    simp only [n, if_false]
    exact S.pool i hi
/-- an object that no slot holds changes -/
theorem SR.chgX {q : Addr} {o : HO} (S : SR K Ω ow F0 H0 F H σ ρ h) (nF : F q = none) (n0 : H0 q = none) (oc : ¬ Ω.OC q) (nq : ∀ i d, i ∈ ow → ρ[i]? = some (some d) → σ[i]? ≠ some (some (.ref q))) :
    SR K Ω ow F0 H0 F (upd H q o) σ ρ h := by
  refine ⟨⟨S.st.sf, fun p u e => ?_, fun p u e z => ?_, S.st.ap, fun p z => ?_⟩, S.len, S.val, fun i d hi e => ?_, S.apart, Ω.stable _ _ _ S.orc fun p u z e => ?_, S.ocf, S.pool⟩
  · rw [upd_ne (by rintro rfl; rw [nF] at e; cases e)]; exact S.fh p u e
  · rw [upd_ne (by rintro rfl; rw [n0] at e; cases e)]; exact S.st.kp p u e z
  · by_cases hp : p = q
    · subst hp; rw [upd_same]; simp
    · rw [upd_ne hp]; exact S.st.al p z
  · obtain ⟨p, e1, xs, ds, rfl, e2, a, n, n0', oc'⟩ := S.own i d hi e
    have hp : p ≠ q := by rintro rfl; exact nq i _ hi e e1
    exact ⟨p, e1, xs, ds, rfl, by rw [upd_ne hp]; exact e2, a, n, n0', oc'⟩
  · rw [upd_ne (by rintro rfl; exact oc z)]; exact e
end
def WTs (X : Cx) (ifs : List Expr) : TT := fun σ H Q => ∀ pins s, Inv X pins σ H s → wpAny (model X.prog X.w) X.A (forIn ifs true fun c r => if r = true then do let ok ← isTrue c X.env (eval c X.env); pure (ForInStep.yield ok) else pure (ForInStep.yield r)) (TP X pins σ Q) X.xe s
theorem wts_of {X : Cx} {ifs : List Expr} {t : TT} {σ H Q} (p : L2.PTs X ifs t) (h : t σ H Q) : WTs X ifs σ H Q := fun pins s I => p.run pins s σ H Q I h
def ETs (X : Cx) (Ω : Orc) (ow : List Nat) (ifs : List Expr) (f : ST) : Prop := ∀ F0 H0 F H σ ρ h b h' Q, SR X.K Ω ow F0 H0 F H σ ρ h → f ρ h = some (b, h') →
  (∀ F' H', Stp Ω F H F' H' → Ω.OR h' H' → Q b H') → WTs X ifs σ H Q
def tYs : ST := fun _ => mp true
theorem ets_nil {X : Cx} {Ω : Orc} {ow : List Nat} : ETs X Ω ow [] tYs := by
  intro F0 H0 F H σ ρ h b h' Q S e q
  obtain ⟨rfl, rfl⟩ := mp_some e
  exact wts_of pts_nil (q _ _ (Stp.refl S.fh) S.orc)
theorem ets_one {X : Cx} {Ω : Orc} {ow : List Nat} {c : Expr} {t : ST} (hc : ET X Ω ow c t) : ETs X Ω ow [c] t := by
  intro F0 H0 F H σ ρ h b h' Q S e q
  exact wts_of (pts_one wt) (hc _ _ _ _ _ _ _ _ _ _ S e q)
section
variable (X : Cx) (scope : Scope)
/-- a block of X, whatever it starts at -/
abbrev Blk (s : Shared) (H : Hp) (C : Addr) (cl : List (Str × Addr)) (fp : List Addr) : Cx := X.blk s H scope (compEnvC scope cl C X.env) fp
def WGb (tg : Expr) : TG := fun v σ Hh Q => ∀ s H C cl fp, WG (Blk X scope s H C cl fp) tg v σ Hh Q
def WTb (ifs : List Expr) : TT := fun σ Hh Q => ∀ s H C cl fp, WTs (Blk X scope s H C cl fp) ifs σ Hh Q
def WEb (e : Expr) : TE := fun σ Hh Q => ∀ s H C cl fp, WE (Blk X scope s H C cl fp) e σ Hh Q
theorem wgb {tg : Expr} (s : Shared) (H : Hp) (C : Addr) (cl : List (Str × Addr)) (fp : List Addr) : PG (Blk X scope s H C cl fp) tg (WGb X scope tg) := ⟨fun pins s' _ _ _ u _ I r h => h s H C cl fp pins s' u I r⟩
theorem wtb {ifs : List Expr} (s : Shared) (H : Hp) (C : Addr) (cl : List (Str × Addr)) (fp : List Addr) : L2.PTs (Blk X scope s H C cl fp) ifs (WTb X scope ifs) := ⟨fun pins s' _ _ _ I h => h s H C cl fp pins s' I⟩
theorem web {e : Expr} (s : Shared) (H : Hp) (C : Addr) (cl : List (Str × Addr)) (fp : List Addr) : PE (Blk X scope s H C cl fp) e (WEb X scope e) := ⟨fun pins s' _ _ _ I h => h s H C cl fp pins s' I⟩
end
def compL (t : SG) (tt : ST) (fe : SE) (ρ : Lo) : List D → M (List D)
  | [] => mp []
  | d :: ds => mb (ml (t d ρ)) fun ρ1 => mb (tt ρ1) fun b => if b = true then mb (fe ρ1) fun y => mb (compL t tt fe ρ ds) fun ys => mp (y :: ys) else compL t tt fe ρ ds
def eComp (fi : SI) (t : SG) (tt : ST) (fe : SE) (vs : List Nat) : SE := fun ρ => mb (fi ρ) fun ds => if ds.length ≤ big then mb (compL t tt fe (wipeD ρ vs) ds) fun ys => mp (.list ys) else fun _ => none
section
variable {X : Cx} {Ω : Orc} {ow oc : List Nat} {pos : Pos} {tg iter elt : Expr} {ifs : List Expr} {scope : Scope} {own : List (Str × Nat)} {fi : SI} {t : SG} {tt : ST} {fe : SE} {sl : List Nat}
theorem lc_read {F0 H0 F H : Hp} {σ : L2.St} {ρ : Lo} {h h' : List Int} {d : D} {Q : VK} (hi : EI X Ω ow tg iter fi)
    (hg : ∀ s H C cl fp, EG (Blk X scope s H C cl fp) Ω ow tg sl t) (ht : ∀ s H C cl fp, ETs (Blk X scope s H C cl fp) Ω ow ifs tt) (he : ∀ s H C cl fp, EV (Blk X scope s H C cl fp) Ω ow elt fe)
    (hsl : ∀ i ∈ sl, i ∈ own.map (·.2)) (hv : ∀ i ∈ own.map (·.2), i ∉ ow) (hso : ∀ i ∈ own.map (·.2), Ω.slot ≠ some i)
    (S : SR X.K Ω ow F0 H0 F H σ ρ h) (e : eComp fi t tt fe (own.map (·.2)) ρ h = some (d, h'))
    (q : ∀ p F' H', Stp Ω F H F' H' → Ω.OR h' H' → H p = none → OwnAt X.K Ω H0 F' H' p d → Q (.ref p) H') :
    tLc (WI X tg iter) (WGb X scope tg) (WTb X scope ifs) (WEb X scope elt) (own.map (·.2)) σ H Q := by
  obtain ⟨ds, h1, e1, e⟩ := mb_some e
  split at e
  · rename_i hbig
    obtain ⟨ys, h2, e2, e⟩ := mb_some e
    obtain ⟨rfl, rfl⟩ := mp_some e
    refine hi _ _ _ _ _ _ _ _ _ _ S e1 fun J F1 H1 s1 o1 W => ?_
    intro Dd nD
    have S1 := S.next s1 o1
    have n0 : H0 Dd = none := by
      cases z : H0 Dd with
      | none => rfl
      | some o => exact absurd nD (S1.st.al Dd (by rw [z]; simp))
    have nH : H Dd = none := by
      cases z : H Dd with
      | none => rfl
      | some o => exact absurd nD (s1.al Dd (by rw [z]; simp))
    have oc : ¬ Ω.OC Dd := fun z => Ω.alloc _ _ o1 Dd z nD
    have nF1 : F1 Dd = none := S1.fh.free nD
    have nq : ∀ i d, i ∈ ow → ρ[i]? = some (some d) → σ[i]? ≠ some (some (.ref Dd)) := fun i d hi' e' z => by
      obtain ⟨p, e3, _, _, _, e4, _⟩ := S.own i d hi' e'
      rw [z] at e3
      cases e3
      rw [nH] at e4
      cases e4
    generalize hvs : own.map (·.2) = vs at *
    have nqw : ∀ i d, i ∈ ow → (wipeD ρ vs)[i]? = some (some d) → (L2.wipe σ vs)[i]? ≠ some (some (.ref Dd)) := fun i d hi' e' z => by
      rw [wipeD_get] at e'
      by_cases hiv : i ∈ vs
      · exact hv i hiv hi'
      · simp only [hiv, if_false] at e'
        rw [wipe_get σ vs i hiv] at z
        exact nq i d hi' e' z
    have Sw := (S1.wipe vs hv hso).chgX (o := .lst []) nF1 n0 oc nqw
    refine ⟨fun i m H2 => m = ds.length - i ∧ i ≤ ds.length ∧ ∃ F2 h2 acc ys1 ys2, SR X.K Ω ow F0 H0 F2 H2 (L2.wipe σ vs) (wipeD ρ vs) h2 ∧ Stp Ω F1 H1 F2 H2 ∧ H2 Dd = some (.lst acc) ∧ F2 Dd = none ∧ DpAll X.K F2 acc ys1 ∧ ys1.length ≤ i ∧
      compL t tt fe (wipeD ρ vs) (ds.drop i) h2 = some (ys2, h') ∧ ys = ys1 ++ ys2,
      ⟨ds.length, rfl, Nat.zero_le _, F1, h1, [], [], ys, Sw, ?_, upd_same, nF1, .nil, Nat.le_refl _, e2, rfl⟩, ?_⟩
    · refine ⟨Same.refl _, Sw.fh, fun p o z n => ?_, fun p _ z => z, fun p z => ?_⟩
      · rw [upd_ne (by rintro rfl; rw [nD] at z; cases z)]; exact z
      · exact Same.some (same_upd nD) z
    · rintro i m H2 ⟨rfl, hle, F2, h2, acc, ys1, ys2, S2, s12, eD, nF2, da, hlen, e3, ey⟩
      by_cases hlt : i < ds.length
      · refine .inr ⟨W.go i H2 hlt (s12.sf.trans S2.fh), fun H3 => i + 1 ≤ ds.length ∧ ∃ F2 h2 acc ys1 ys2, SR X.K Ω ow F0 H0 F2 H3 (L2.wipe σ vs) (wipeD ρ vs) h2 ∧ Stp Ω F1 H1 F2 H3 ∧ H3 Dd = some (.lst acc) ∧ F2 Dd = none ∧ DpAll X.K F2 acc ys1 ∧ ys1.length ≤ i + 1 ∧
          compL t tt fe (wipeD ρ vs) (ds.drop (i + 1)) h2 = some (ys2, h') ∧ ys = ys1 ++ ys2, fun H3 ⟨z1, z2⟩ => ⟨ds.length - (i + 1), by omega, rfl, z1, z2⟩, fun x H3 y => ?_⟩
        obtain ⟨rfl, d, hd, dx⟩ := W.yld i H2 x H3 hlt (s12.sf.trans S2.fh) y
        rw [drop_cons hd] at e3
        obtain ⟨ρ3, h3, z3, e4⟩ := mb_some e3
        obtain ⟨e5, y3⟩ := ml_some z3
        subst y3
        obtain ⟨b, h4, e6, e7⟩ := mb_some e4
        intro s' H' C cl fp
        refine hg s' H' C cl fp _ _ _ _ _ _ _ _ _ _ _ S2 (Dp_mono s12.sf dx) e5 fun σ4 ag S4 => ?_
        refine ⟨by rw [ag.wipe (vs := vs) hsl]; exact wipe_idem σ vs, fun s2' H2' C2 cl2 fp2 => ?_⟩
        refine ht s2' H2' C2 cl2 fp2 _ _ _ _ _ _ _ _ _ _ S4 e6 fun F5 H5 s5 o5 => ?_
        cases b with
        | false =>
          rw [if_neg Bool.false_ne_true] at e7 ⊢
          exact ⟨hlt, F5, h4, acc, ys1, ys2, S2.next s5 o5, s12.trans s5, s5.kp Dd _ eD oc, s5.ap Dd (by rw [eD]; simp) nF2, DpAll_mono s5.sf da, by omega, e7, ey⟩
        | true =>
          rw [if_pos rfl] at e7 ⊢
          obtain ⟨yv, h6, e8, e9⟩ := mb_some e7
          obtain ⟨ys3, h7, e10, e11⟩ := mb_some e9
          obtain ⟨rfl, rfl⟩ := mp_some e11
          intro s3' H3' C3 cl3 fp3
          refine he s3' H3' C3 cl3 fp3 _ _ _ _ _ _ _ _ _ _ (S4.next s5 o5) e8 fun v F6 H6 s6 o6 d6 => ?_
          have s56 := s5.trans s6
          have eD6 := s56.kp Dd _ eD oc
          have nF6 := s56.ap Dd (by rw [eD]; simp) nF2
          have S6 := (S2.next s56 o6).chgX (o := .lst (acc ++ [v])) nF6 n0 oc nqw
          refine ⟨acc, eD6, big_line (by rw [DpAll.length da]; omega), hlt, F6, h6, acc ++ [v], ys1 ++ [yv], ys3, S6, ?_, upd_same, nF6, DpAll.append (DpAll_mono s56.sf da) (.cons d6 .nil), by simp; omega, e10, by rw [ey]; simp⟩
          have s16 := s12.trans s56
          refine ⟨s16.sf, S6.fh, fun p o z n => ?_, s16.ap, fun p z => ?_⟩
          · rw [upd_ne (by rintro rfl; rw [nD] at z; cases z)]; exact s16.kp p o z n
          · by_cases hp : p = Dd
            · subst hp; rw [upd_same]; simp
            · rw [upd_ne hp]; exact s16.al p z
      · have ei : i = ds.length := by omega
        subst ei
        rw [List.drop_length] at e3
        obtain ⟨rfl, rfl⟩ := mp_some e3
        rw [List.append_nil] at ey
        subst ey
        refine .inl ⟨W.stop _ H2 (Nat.le_refl _) (s12.sf.trans S2.fh), q Dd F2 H2 (s1.trans s12) S2.orc nH ⟨acc, ys, rfl, eD, da, nF2, n0, oc⟩⟩
  · cases e
where
  wipe_idem (σ : L2.St) (vs : List Nat) : L2.wipe (L2.wipe σ vs) vs = L2.wipe σ vs := by
    have get : ∀ (τ : L2.St) (ws : List Nat) (j : Nat), (L2.wipe τ ws)[j]? = if j ∈ ws then (if j < τ.length then some none else none) else τ[j]? := by
      intro τ ws
      induction ws with
      | nil => intro j; simp [L2.wipe]
      | cons w ws ih =>
        intro j
        show ((L2.wipe τ ws).set w none)[j]? = _
        by_cases hw : w = j
        · subst hw
          by_cases hl : w < τ.length
          · rw [List.getElem?_set_self (by rw [wipe_length]; exact hl)]; simp [hl]
          · rw [List.getElem?_eq_none (by rw [List.length_set, wipe_length]; omega)]; simp [hl]
        · rw [get_set_ne hw, ih j]
          have : j ≠ w := fun e => hw e.symm
          simp [this]
    apply List.ext_getElem?
    intro j
    rw [get, get, wipe_length]
    by_cases hj : j ∈ vs <;> simp [hj]
theorem eo_lc (hc : X.calm = true) (hN : X.N.Nodup) (hi : EI X Ω ow tg iter fi) (ok : BlkOk X.N X.env.scope scope own)
    (hg : ∀ s H C cl fp, EG (Blk X scope s H C cl fp) Ω ow tg sl t) (ht : ∀ s H C cl fp, ETs (Blk X scope s H C cl fp) Ω ow ifs tt) (he : ∀ s H C cl fp, EV (Blk X scope s H C cl fp) Ω ow elt fe)
    (hso : ∀ i ∈ own.map (·.2), Ω.slot ≠ some i) (hsl : ∀ i ∈ sl, i ∈ own.map (·.2) := by decide) (hv : ∀ i ∈ own.map (·.2), i ∉ ow := by decide) (hs : ∀ x, foldedSetIterable iter X.env x = pure x := by intro _; rfl) :
    EO X Ω ow (.ListComp elt [⟨tg, iter, ifs, 0⟩] scope pos) (eComp fi t tt fe (own.map (·.2))) := by
  intro F0 H0 F H σ ρ h d h' Q S e q
  exact we_of (pe_lc hc hN wi ok (fun s H C cl fp => wgb X scope s H C cl fp) (fun s H C cl fp => wtb X scope s H C cl fp) (fun s H C cl fp => web X scope s H C cl fp) hs) (lc_read hi hg ht he hsl hv hso S e q)
/-- y = [..] on one line, y a local -/
theorem es_setLc (i : Nat) {y : Str} {py spos : Pos} (hc : X.calm = true) (hN : X.N.Nodup) (hoi : Ω.slot ≠ some i) (hi : EI X Ω ow tg iter fi) (ok : BlkOk X.N X.env.scope scope own)
    (hg : ∀ s H C cl fp, EG (Blk X scope s H C cl fp) Ω ow tg sl t) (ht : ∀ s H C cl fp, ETs (Blk X scope s H C cl fp) Ω ow ifs tt) (he : ∀ s H C cl fp, EV (Blk X scope s H C cl fp) Ω ow elt fe)
    (hso : ∀ i ∈ own.map (·.2), Ω.slot ≠ some i) (hsw : swapsWith (.ListComp elt [⟨tg, iter, ifs, 0⟩] scope pos) (some (.Name y py)) spos.line X.env = pure true) (hy : X.N[i]? = some y := by rfl) (hyl : X.env.scope.names.lookup y = some .local := by rfl) (hw : i ∉ ow := by decide)
    (hsl : ∀ i ∈ sl, i ∈ own.map (·.2) := by decide) (hv : ∀ i ∈ own.map (·.2), i ∉ ow := by decide) (hs : ∀ x, foldedSetIterable iter X.env x = pure x := by intro _; rfl) :
    ES X Ω oc ow (.Assign [.Name y py] (.ListComp elt [⟨tg, iter, ifs, 0⟩] scope pos) spos) (i :: ow) (sSet (gN i) (eComp fi t tt fe (own.map (·.2)))) := by
  intro F0 H0 F H σ ρ h r h' Dn S e q
  obtain ⟨d, h2, e1, e⟩ := mb_some e
  obtain ⟨ρ1, h3, z2, e⟩ := mb_some e
  obtain ⟨rfl, rfl⟩ := mp_some e
  obtain ⟨e2, rfl⟩ := ml_some z2
  cases e2
  refine ws_of (ps_setLc hc hN hy hyl hsw wi ok (fun s H C cl fp => wgb X scope s H C cl fp) (fun s H C cl fp => wtb X scope s H C cl fp) (fun s H C cl fp => web X scope s H C cl fp) hs) ?_
  exact lc_read hi hg ht he hsl hv hso S e1 fun p F1 H1 s1 o1 np d1 => q _ _ _ ((S.next s1 o1).setO S np hw hoi d1)
end

/-! ### a def -/
def startD (n : Nat) (ds : List D) : Lo := ds.map some ++ List.replicate (n - ds.length) none
/-- what a body hands back -/
def retOf (r : Option (Fl × List Int)) : Option D := match r with
  | some (.ret d, _) => some d
  | some (.nx _, _) => some .none
  | _ => none
theorem start_val {K : PySem.W.Frag} {F : Hp} : ∀ {ds : List D} {vs : List V} {n i : Nat} {d : D}, DpAll K F vs ds → (startD n ds)[i]? = some (some d) → ∃ v, (vs.map some ++ List.replicate (n - vs.length) none)[i]? = some (some v) ∧ Dp K F v d := by
  intro ds vs n i d da e
  unfold startD at e
  have hl := DpAll.length da
  by_cases hi : i < ds.length
  · rw [List.getElem?_append_left (by simpa using hi), List.getElem?_map] at e
    cases z : ds[i]? with
    | none => rw [z] at e; cases e
    | some d' =>
      rw [z] at e
      cases e
      obtain ⟨v, e1, e2⟩ := DpAll.get da z
      exact ⟨v, by rw [List.getElem?_append_left (by simp; omega), List.getElem?_map, e1]; rfl, e2⟩
  · rw [List.getElem?_append_right (by simpa using hi), List.getElem?_replicate] at e
    split at e <;> cases e
theorem fn_ok {P : Program} {w : World} {K : PySem.W.Frag} {mg : Str → Option Value} {base : Heap} {x qual : Str} {st : Stmt} {f : Addr} {fd : FuncData} {N ps : List Str} {k n : Nat} {oe : List Nat} {Fn : List D → Option D} {fb : Nat → SS}
    (G : Fun K x qual st f fd) (S : FnScope N ps (defScope st)) (hn : ps.length = n)
    (hb : ∀ nn cdv A outer s H E, Room k (A.deeper (envOfC qual (defScope st) s.heap.objs.size f cdv)) → ESs (cxOf CX0 P w K mg base N qual (defScope st) f cdv A outer s H E).nox Orc.no [] [] (defBody st) oe (fb nn))
    (hF : ∀ ds r, ds.length = n → Fn ds = some r → ∃ nn, retOf (fb nn (startD N.length ds) []) = some r) : FnOk P w K mg base CX0 (k + 1) f fd ps (spF K Fn n) := by
  refine G.ok S (fun vs H Q E h => by rw [h.1, hn]) (fun cdv A outer s H vs Q E hr h => ?_)
  obtain ⟨hv, F, ds, r, sF, da, hr', q⟩ := h
  have hd : ds.length = n := by rw [← DpAll.length da]; exact hv
  obtain ⟨nn, e⟩ := hF ds r hd hr'
  refine ⟨_, wss, ?_⟩
  have hps : ps.length ≤ N.length := by
    have := congrArg List.length S.pre
    rw [List.length_take] at this
    omega
  have SR0 : SR K Orc.no [] F H F H (L2.start N vs) (startD N.length ds) [] := by
    refine ⟨Stp.refl sF, ?_, fun i d _ e => ?_, fun i d hi => (nomatch hi), fun i j p d e hi => (nomatch hi), trivial, fun p hp => hp.elim, fun i hi => (nomatch hi)⟩
    · unfold L2.start startD
      simp [DpAll.length da]
    · exact start_val da e
  cases z : fb nn (startD N.length ds) [] with
  | none => rw [z] at e; cases e
  | some p =>
    obtain ⟨fl, h'⟩ := p
    rw [z] at e
    refine hb nn cdv A outer s H E hr _ _ _ _ _ _ _ _ _ _ SR0 z ?_
    have conv : ∀ {F' H' : Hp}, Stp Orc.no F H F' H' → Stq F H F' H' := fun {F' H'} s => ⟨s.sf, s.fh, fun p o e => s.kp p o e (fun z => z), s.ap⟩
    cases fl with
    | nx ρ' =>
      cases e
      exact fun F' H' σ' S' => q .non F' H' (conv S'.st) .non
    | ct ρ' => cases e
    | ret d =>
      cases e
      exact fun v F' H' s' _ dv => q v F' H' (conv s') dv
end PL

namespace PL
open PySem PySem.Spec PyProof.Rows L2

/-! ### the operators on data -/
def okD (d : D) : Bool := d.canLay0 && decide (d.depth ≤ 60)
theorem okD_lay {d : D} (h : okD d = true) : d.canLay0 = true := (Bool.and_eq_true_iff.mp h).1
theorem okD_depth {d : D} (h : okD d = true) : d.depth ≤ 60 := of_decide_eq_true (Bool.and_eq_true_iff.mp h).2
def small64 (i : Int) : Bool := decide (-(2 ^ 64) < i) && decide (i < 2 ^ 64)
def gAdd : D → D → Option D
  | .int i, .int j => some (.int (i + j))
  | .list xs, .list ys => if xs.length + ys.length ≤ big then some (.list (xs ++ ys)) else none
  | .tuple xs, .tuple ys => if xs.length + ys.length ≤ big then some (.tuple (xs ++ ys)) else none
  | .str x, .str y => if x.length + y.length ≤ big then some (.str (x ++ y)) else none
  | _, _ => none
def gSub : D → D → Option D
  | .int i, .int j => some (.int (i - j))
  | _, _ => none
def gMul : D → D → Option D
  | .int i, .int j => if (small64 i || small64 j) = true then some (.int (i * j)) else none
  | _, _ => none
def gFdiv : D → D → Option D
  | .int i, .int j => if j ≠ 0 ∧ j.natAbs < 1073741824 then some (.int (i.fdiv j)) else none
  | _, _ => none
def gMod : D → D → Option D
  | .int i, .int j => if j ≠ 0 then some (.int (i.fmod j)) else none
  | _, _ => none
def gPow : D → D → Option D
  | .int i, .int j => if 0 ≤ j ∧ j ≤ 1000000 ∧ i.natAbs < 2 ^ 64 then some (.int (i ^ j.toNat)) else none
  | _, _ => none
def gNeg : D → Option D
  | .int i => some (.int (-i))
  | _ => none
def gEq (x y : D) : Option D := if (okD x && okD y) = true then some (.bool (PyData.eqv x y)) else none
def gNe (x y : D) : Option D := if (okD x && okD y) = true then some (.bool (!PyData.eqv x y)) else none
def asInts : List D → Option (List Int)
  | [] => some []
  | .int i :: r => (asInts r).map (i :: ·)
  | _ => none
def gLt : D → D → Option D
  | .int i, .int j => some (.bool (decide (i < j)))
  | .tuple xs, .tuple ys => match asInts xs, asInts ys with
    | some ns, some ms => some (.bool (HT.lexLt ns ms))
    | _, _ => none
  | _, _ => none
def gLe : D → D → Option D
  | .int i, .int j => some (.bool (decide (i ≤ j)))
  | _, _ => none
def gGt : D → D → Option D
  | .int i, .int j => some (.bool (decide (j < i)))
  | _, _ => none
def gGe : D → D → Option D
  | .int i, .int j => some (.bool (decide (j ≤ i)))
  | _, _ => none
def gIn (x y : D) : Option D := match items y with
  | some ds => if (okD x && okD y) = true then some (.bool (ds.any fun z => PyData.eqv z x)) else none
  | none => none
def gNin (x y : D) : Option D := match items y with
  | some ds => if (okD x && okD y) = true then some (.bool (!ds.any fun z => PyData.eqv z x)) else none
  | none => none
def isNone : D → Bool
  | .none => true
  | _ => false
/-- is: with None, or of two bools -/
def gIs : D → D → Option D
  | x, .none => some (.bool (isNone x))
  | .bool a, .bool b => some (.bool (decide (a = b)))
  | _, _ => none
def gIsnt : D → D → Option D
  | x, .none => some (.bool (!isNone x))
  | .bool a, .bool b => some (.bool (!decide (a = b)))
  | _, _ => none
def gIx : D → D → Option D
  | .list xs, .int i => atI xs i
  | .tuple xs, .int i => atI xs i
  | _, _ => none

theorem DpAll.ints {K : PySem.W.Frag} {F : Hp} : ∀ {ds : List D} {vs : List V} {ns : List Int}, DpAll K F vs ds → asInts ds = some ns → vs = ns.map V.int
  | [], _, _, .nil, e => by cases e; rfl
  | d :: ds, _, ns, .cons a r, e => by
    cases d with
    | int i =>
      cases a
      obtain ⟨ms, e1, rfl⟩ := Option.map_eq_some_iff.mp e
      rw [DpAll.ints r e1]
      rfl
    | _ => cases e
theorem atI_rel {K : PySem.W.Frag} {F : Hp} {ds : List D} {vs : List V} {i : Int} {d : D} (da : DpAll K F vs ds) (e : atI ds i = some d) : ∃ v, atI vs i = some v ∧ Dp K F v d := by
  unfold atI at e ⊢
  rw [DpAll.length da]
  obtain ⟨j, e1, e2⟩ := Option.bind_eq_some_iff.mp e
  obtain ⟨v, e3, e4⟩ := DpAll.get da e2
  exact ⟨v, by rw [e1]; exact e3, e4⟩
section
variable {X : Cx}
/-- list + list, read wherever they stand -/
def rCatS (K : PySem.W.Frag) : R2 := fun x y H Q => ∃ l b xs zs, x = .ref l ∧ y = .ref b ∧ SqL K H l xs ∧ SqL K H b zs ∧ xs.length + zs.length ≤ sizeLine ∧ ∀ p, H p = none → Q (.ref p) (upd H p (.lst (xs ++ zs)))
theorem op_catS : OpR X (binaryOp .Add) (rCatS X.K) := by
  intro pins s σ H x y v u Q I rx ry h
  obtain ⟨l, b, xs, zs, rfl, rfl, hH, hB, hz, q⟩ := h
  cases rx
  cases ry
  obtain ⟨its, r, p, _⟩ := I.list hH
  obtain ⟨its2, r2, p2, _⟩ := I.list hB
  obtain ⟨⟨cls, dd, data, sl⟩, ho, hc, n, hd⟩ := p.isList
  obtain ⟨⟨cls2, dd2, data2, sl2⟩, ho2, hc2, n2, hd2⟩ := p2.isList
  simp only at hc hd hc2 hd2
  subst hc hd hc2 hd2
  have e1 := r.length
  have e2 := r2.length
  have e : its.toArray ++ its2.toArray = (its ++ its2).toArray := by simp
  refine concat_meets ⟨_, ho, rfl⟩ ⟨_, ho2, rfl⟩ noFill_list_add seq_list_add PySem.F.slot_list_add PySem.F.entry_list_add (PySem.F.args_list_add_2 _ _) (PyProof.Rows.list_addW l b its.toArray its2.toArray n n2 dd dd2 sl sl2 (by simp; omega)) ⟨ho, ho2, ?_⟩
  rw [e]
  exact ⟨.ref _, _, I.lnew (t' := s.toks) (r.append r2) (by rw [List.length_append]; omega), rfl, q _ I.fresh⟩
theorem Stq.newD {K : PySem.W.Frag} {F H : Hp} {p : Addr} {xs : List V} {ds : List D} (s : Same F H) (n : H p = none) (a : DpAll K F xs ds) : Stq F H (upd F p (.lst xs)) (upd H p (.lst xs)) ∧ Dp K (upd F p (.lst xs)) (.ref p) (.list ds) :=
  ⟨Stq.new s n, .lst (.inl (.inl upd_same)) (DpAll_mono (same_upd (s.free n)) a)⟩
theorem Stq.newT {K : PySem.W.Frag} {F H : Hp} {p : Addr} {xs : List V} {ds : List D} (s : Same F H) (n : H p = none) (a : DpAll K F xs ds) : Stq F H (upd F p (.tup xs)) (upd H p (.tup xs)) ∧ Dp K (upd F p (.tup xs)) (.ref p) (.tuple ds) :=
  ⟨Stq.new s n, .tup (.inl (.inl upd_same)) (DpAll_mono (same_upd (s.free n)) a)⟩
theorem os_add : OpS X (binaryOp .Add) gAdd := by
  refine ⟨_, op_add.or (op_catS.or (op_catA.or op_add_str)), fun F H x y dx dy d Q s hx hy e q => ?_⟩
  unfold gAdd at e
  split at e
  · cases hx; cases hy; cases e
    exact .inl ⟨_, _, rfl, rfl, q _ _ _ (Stq.refl s) (.int _)⟩
  · split at e
    · rename_i hl
      cases e
      cases hx with
      | lst sx ax =>
        cases hy with
        | lst sy ay =>
          refine .inr (.inl ⟨_, _, _, _, rfl, rfl, s.seq sx, s.seq sy, Nat.le_of_lt (big_line (by rw [DpAll.length ax, DpAll.length ay]; exact hl)), fun p np => ?_⟩)
          obtain ⟨a, b⟩ := Stq.newD s np (DpAll.append ax ay)
          exact q _ _ _ a b
    · cases e
  · split at e
    · rename_i xs ys hl
      cases e
      cases hx with
      | tup sx ax =>
        cases hy with
        | tup sy ay =>
          refine .inr (.inr (.inl ⟨_, _, _, _, rfl, rfl, sqT_mono s sx, sqT_mono s sy, Nat.le_of_lt (big_line (by rw [DpAll.length ax, DpAll.length ay]; exact hl)), fun z => ?_, fun _ z => ?_, fun _ _ p np => ?_⟩))
          · subst z
            cases ax
            exact q _ _ _ (Stq.refl s) (.tup sy (by simpa using ay))
          · subst z
            cases ay
            exact q _ _ _ (Stq.refl s) (.tup sx (by simpa using ax))
          · obtain ⟨a, b⟩ := Stq.newT s np (DpAll.append ax ay)
            exact q _ _ _ a b
    · cases e
  · split at e
    · rename_i hl
      cases e
      cases hx
      cases hy
      exact .inr (.inr (.inr ⟨_, _, rfl, rfl, Nat.le_of_lt (big_line hl), q _ _ _ (Stq.refl s) (.str _)⟩))
    · cases e
  · cases e
theorem os_sub : OpS X (binaryOp .Sub) gSub := by
  refine ⟨_, op_sub, fun F H x y dx dy d Q s hx hy e q => ?_⟩
  unfold gSub at e
  split at e
  · cases hx; cases hy; cases e
    exact ⟨_, _, rfl, rfl, q _ _ _ (Stq.refl s) (.int _)⟩
  · cases e
theorem os_mul : OpS X (binaryOp .Mult) gMul := by
  refine ⟨_, op_mul, fun F H x y dx dy d Q s hx hy e q => ?_⟩
  unfold gMul at e
  split at e
  · split at e
    · rename_i i j hs
      cases hx; cases hy; cases e
      refine ⟨_, _, rfl, rfl, ?_, q _ _ _ (Stq.refl s) (.int _)⟩
      unfold small64 at hs
      simp only [Bool.or_eq_true, Bool.and_eq_true, decide_eq_true_eq] at hs
      exact hs
    · cases e
  · cases e
theorem os_fdiv : OpS X (binaryOp .FloorDiv) gFdiv := by
  refine ⟨_, op_fdivN, fun F H x y dx dy d Q s hx hy e q => ?_⟩
  unfold gFdiv at e
  split at e
  · split at e
    · rename_i i j hs
      cases hx; cases hy; cases e
      exact ⟨_, _, rfl, rfl, hs, q _ _ _ (Stq.refl s) (.int _)⟩
    · cases e
  · cases e
theorem os_mod : OpS X (binaryOp .Mod) gMod := by
  refine ⟨_, op_modN, fun F H x y dx dy d Q s hx hy e q => ?_⟩
  unfold gMod at e
  split at e
  · split at e
    · rename_i i j hs
      cases hx; cases hy; cases e
      exact ⟨_, _, rfl, rfl, hs, q _ _ _ (Stq.refl s) (.int _)⟩
    · cases e
  · cases e
theorem os_pow : OpS X (binaryOp .Pow) gPow := by
  refine ⟨_, op_pow, fun F H x y dx dy d Q s hx hy e q => ?_⟩
  unfold gPow at e
  split at e
  · split at e
    · rename_i i j hs
      cases hx; cases hy; cases e
      exact ⟨_, _, rfl, rfl, hs, q _ _ _ (Stq.refl s) (.int _)⟩
    · cases e
  · cases e
theorem us_neg : UnS X (unaryOp .USub) gNeg := by
  refine ⟨_, un_neg, fun F H x dx d Q s hx e q => ?_⟩
  unfold gNeg at e
  split at e
  · cases hx; cases e
    exact ⟨_, rfl, q _ _ _ (Stq.refl s) (.int _)⟩
  · cases e
/-! comparisons -/
def rEqO (K : PySem.W.Frag) (neg : Bool) : R2 := fun x y H Q => ∃ d e, Dp K H x d ∧ Dp K H y e ∧ okD d = true ∧ okD e = true ∧ Q (.bl (if neg = true then !PyData.eqv d e else PyData.eqv d e)) H
theorem room60 {A : Around} {da db : D} (h : okD da = true) (hu : A.units + 64 < cLine) : A.units + min da.depth db.depth < cLine := by
  have h1 := okD_depth h
  have h2 : min da.depth db.depth ≤ da.depth := Nat.min_le_left _ _
  omega
theorem op_eqO (hu : X.A.units + 64 < cLine) : OpR X (compareOp .Eq) (rEqO X.K false) := by
  intro pins s σ H x y v u Q I rx ry h
  obtain ⟨d, e, hd, he, sd, se, q⟩ := h
  obtain ⟨as, r1⟩ := Dp.reads I d x v hd rx
  obtain ⟨bs, r2⟩ := Dp.reads I e y u he ry
  exact SeqAt.compareEq_reads r1 r2 (okD_lay sd) (okD_lay se) (room60 sd hu) ⟨.bl _, H, I, rfl, q⟩
theorem op_neO (hu : X.A.units + 64 < cLine) : OpR X (compareOp .NotEq) (rEqO X.K true) := by
  intro pins s σ H x y v u Q I rx ry h
  obtain ⟨d, e, hd, he, sd, se, q⟩ := h
  obtain ⟨as, r1⟩ := Dp.reads I d x v hd rx
  obtain ⟨bs, r2⟩ := Dp.reads I e y u he ry
  exact SeqAt.compareNe_reads r1 r2 (okD_lay sd) (okD_lay se) (room60 sd hu) ⟨.bl _, H, I, rfl, q⟩
theorem os_eq (hu : X.A.units + 64 < cLine) : OpS X (compareOp .Eq) gEq := by
  refine ⟨_, op_eqO hu, fun F H x y dx dy d Q s hx hy e q => ?_⟩
  unfold gEq at e
  split at e
  · rename_i hs
    rw [Bool.and_eq_true] at hs
    cases e
    exact ⟨dx, dy, Dp_mono s hx, Dp_mono s hy, hs.1, hs.2, q _ _ _ (Stq.refl s) (.bl _)⟩
  · cases e
theorem os_ne (hu : X.A.units + 64 < cLine) : OpS X (compareOp .NotEq) gNe := by
  refine ⟨_, op_neO hu, fun F H x y dx dy d Q s hx hy e q => ?_⟩
  unfold gNe at e
  split at e
  · rename_i hs
    rw [Bool.and_eq_true] at hs
    cases e
    exact ⟨dx, dy, Dp_mono s hx, Dp_mono s hy, hs.1, hs.2, q _ _ _ (Stq.refl s) (.bl _)⟩
  · cases e
theorem os_lt (hu : X.A.units + 64 < cLine) : OpS X (compareOp .Lt) gLt := by
  refine ⟨_, op_lt.or (op_ltT (by omega)), fun F H x y dx dy d Q s hx hy e q => ?_⟩
  unfold gLt at e
  split at e
  · cases hx; cases hy; cases e
    exact .inl ⟨_, _, rfl, rfl, q _ _ _ (Stq.refl s) (.bl _)⟩
  · split at e
    · rename_i xs ys _ _ ns ms e1 e2
      cases e
      cases hx with
      | tup sx ax =>
        cases hy with
        | tup sy ay =>
          have z1 := DpAll.ints ax e1
          have z2 := DpAll.ints ay e2
          subst z1 z2
          exact .inr ⟨_, _, _, _, rfl, rfl, sqT_mono s sx, sqT_mono s sy, q _ _ _ (Stq.refl s) (.bl _)⟩
    · cases e
  · cases e
theorem os_le : OpS X (compareOp .LtE) gLe := by
  refine ⟨_, op_le, fun F H x y dx dy d Q s hx hy e q => ?_⟩
  unfold gLe at e
  split at e
  · cases hx; cases hy; cases e
    exact ⟨_, _, rfl, rfl, q _ _ _ (Stq.refl s) (.bl _)⟩
  · cases e
theorem os_gt : OpS X (compareOp .Gt) gGt := by
  refine ⟨_, op_gt, fun F H x y dx dy d Q s hx hy e q => ?_⟩
  unfold gGt at e
  split at e
  · cases hx; cases hy; cases e
    exact ⟨_, _, rfl, rfl, q _ _ _ (Stq.refl s) (.bl _)⟩
  · cases e
theorem os_ge : OpS X (compareOp .GtE) gGe := by
  refine ⟨_, op_ge, fun F H x y dx dy d Q s hx hy e q => ?_⟩
  unfold gGe at e
  split at e
  · cases hx; cases hy; cases e
    exact ⟨_, _, rfl, rfl, q _ _ _ (Stq.refl s) (.bl _)⟩
  · cases e
def rInO (K : PySem.W.Frag) (neg : Bool) : R2 := fun x y H Q => ∃ d e ds, Dp K H x d ∧ Dp K H y e ∧ items e = some ds ∧ okD d = true ∧ okD e = true ∧ Q (.bl (if neg = true then !ds.any fun z => PyData.eqv z d else ds.any fun z => PyData.eqv z d)) H
theorem room60b {A : Around} {d : D} {xs : List D} (h : okD d = true) (hu : A.units + 64 < cLine) : A.units + 1 + min (PyData.depthAll xs) d.depth < cLine := by
  have h1 := okD_depth h
  have h2 : min (PyData.depthAll xs) d.depth ≤ d.depth := Nat.min_le_right _ _
  omega
theorem op_inO (hu : X.A.units + 64 < cLine) : OpR X (compareOp .In) (rInO X.K false) := by
  intro pins s σ H x y v u Q I rx ry h
  obtain ⟨d, e, ds, hd, he, hi, sd, se, q⟩ := h
  obtain ⟨as, r1⟩ := Dp.reads I d x v hd rx
  obtain ⟨bs, r2⟩ := Dp.reads I e y u he ry
  cases e with
  | list xs =>
    cases hi
    exact SeqAt.in_list_reads r2 r1 (okD_lay se) (okD_lay sd) (room60b sd hu) ⟨.bl _, H, I, rfl, q⟩
  | tuple xs =>
    cases hi
    exact SeqAt.in_tuple_reads r2 r1 (okD_lay se) (okD_lay sd) (room60b sd hu) ⟨.bl _, H, I, rfl, q⟩
  | _ => cases hi
theorem op_ninO (hu : X.A.units + 64 < cLine) : OpR X (compareOp .NotIn) (rInO X.K true) := by
  intro pins s σ H x y v u Q I rx ry h
  obtain ⟨d, e, ds, hd, he, hi, sd, se, q⟩ := h
  obtain ⟨as, r1⟩ := Dp.reads I d x v hd rx
  obtain ⟨bs, r2⟩ := Dp.reads I e y u he ry
  cases e with
  | list xs =>
    cases hi
    exact SeqAt.notIn_list_reads r2 r1 (okD_lay se) (okD_lay sd) (room60b sd hu) ⟨.bl _, H, I, rfl, q⟩
  | tuple xs =>
    cases hi
    exact SeqAt.notIn_tuple_reads r2 r1 (okD_lay se) (okD_lay sd) (room60b sd hu) ⟨.bl _, H, I, rfl, q⟩
  | _ => cases hi
theorem os_in (hu : X.A.units + 64 < cLine) : OpS X (compareOp .In) gIn := by
  refine ⟨_, op_inO hu, fun F H x y dx dy d Q s hx hy e q => ?_⟩
  unfold gIn at e
  split at e
  · rename_i ds hi
    split at e
    · rename_i hs
      rw [Bool.and_eq_true] at hs
      cases e
      exact ⟨dx, dy, ds, Dp_mono s hx, Dp_mono s hy, hi, hs.1, hs.2, q _ _ _ (Stq.refl s) (.bl _)⟩
    · cases e
  · cases e
theorem os_nin (hu : X.A.units + 64 < cLine) : OpS X (compareOp .NotIn) gNin := by
  refine ⟨_, op_ninO hu, fun F H x y dx dy d Q s hx hy e q => ?_⟩
  unfold gNin at e
  split at e
  · rename_i ds hi
    split at e
    · rename_i hs
      rw [Bool.and_eq_true] at hs
      cases e
      exact ⟨dx, dy, ds, Dp_mono s hx, Dp_mono s hy, hi, hs.1, hs.2, q _ _ _ (Stq.refl s) (.bl _)⟩
    · cases e
  · cases e
theorem isNone_iff {K : PySem.W.Frag} {F : Hp} {v : V} {d : D} (h : Dp K F v d) : decide (v = .non) = isNone d := by
  cases h <;> rfl
theorem os_is : OpS X (compareOp .Is) gIs := by
  refine ⟨_, op_isN.or op_isBl, fun F H x y dx dy d Q s hx hy e q => ?_⟩
  unfold gIs at e
  split at e
  · cases hy; cases e
    refine .inl ⟨rfl, ?_⟩
    rw [isNone_iff hx]
    exact q _ _ _ (Stq.refl s) (.bl _)
  · cases hx; cases hy; cases e
    exact .inr ⟨_, _, rfl, rfl, q _ _ _ (Stq.refl s) (.bl _)⟩
  · cases e
theorem os_isnt : OpS X (compareOp .IsNot) gIsnt := by
  refine ⟨_, op_notN.or op_notBl, fun F H x y dx dy d Q s hx hy e q => ?_⟩
  unfold gIsnt at e
  split at e
  · cases hy; cases e
    refine .inl ⟨rfl, ?_⟩
    rw [isNone_iff hx]
    exact q _ _ _ (Stq.refl s) (.bl _)
  · cases hx; cases hy; cases e
    exact .inr ⟨_, _, rfl, rfl, q _ _ _ (Stq.refl s) (.bl _)⟩
  · cases e
theorem xs_ix : IxS X gIx := by
  refine ⟨_, ix_list.or ix_tup, fun F H x y dx dy d Q s hx hy e q => ?_⟩
  unfold gIx at e
  split at e
  · cases hy
    cases hx with
    | lst sx ax =>
      obtain ⟨v, e1, e2⟩ := atI_rel ax e
      exact .inl ⟨_, _, _, v, rfl, rfl, s.seq sx, e1, q _ _ _ (Stq.refl s) e2⟩
  · cases hy
    cases hx with
    | tup sx ax =>
      obtain ⟨v, e1, e2⟩ := atI_rel ax e
      exact .inr ⟨_, _, _, v, rfl, rfl, sqT_mono s sx, e1, q _ _ _ (Stq.refl s) e2⟩
  · cases e

/-! ### built-ins -/
def fLen : List D → Option D
  | [.list xs] => some (.int xs.length)
  | [.tuple xs] => some (.int xs.length)
  | _ => none
theorem cs_len : CallS X (.builtin "len") fLen := by
  refine ⟨_, call_len_seq, fun F H vs ds d Q s hv e q => ?_⟩
  unfold fLen at e
  split at e
  · cases e
    cases hv with
    | cons a r =>
      cases r
      cases a with
      | lst sx ax => exact ⟨_, _, rfl, .inl (s.seq sx), by rw [DpAll.length ax]; exact q _ _ _ (Stq.refl s) (.int _)⟩
  · cases e
    cases hv with
    | cons a r =>
      cases r
      cases a with
      | tup sx ax => exact ⟨_, _, rfl, .inr (sqT_mono s sx), by rw [DpAll.length ax]; exact q _ _ _ (Stq.refl s) (.int _)⟩
  · cases e
def fAbs : List D → Option D
  | [.int i] => some (.int (if i < 0 then -i else i))
  | _ => none
theorem cs_abs : CallS X (.builtin "abs") fAbs := by
  refine ⟨_, call_abs, fun F H vs ds d Q s hv e q => ?_⟩
  unfold fAbs at e
  split at e
  · cases e
    cases hv with
    | cons a r =>
      cases r
      cases a
      exact ⟨_, rfl, q _ _ _ (Stq.refl s) (.int _)⟩
  · cases e
def fInt : List D → Option D
  | [.int i] => some (.int i)
  | [.bool b] => some (.int (if b = true then 1 else 0))
  | _ => none
theorem cs_int : CallS X (.type "int") fInt := by
  refine ⟨_, call_int1, fun F H vs ds d Q s hv e q => ?_⟩
  unfold fInt at e
  split at e
  · cases e
    cases hv with
    | cons a r =>
      cases r
      cases a
      exact .inl ⟨_, rfl, q _ _ _ (Stq.refl s) (.int _)⟩
  · cases e
    cases hv with
    | cons a r =>
      cases r
      cases a
      exact .inr ⟨_, rfl, q _ _ _ (Stq.refl s) (.int _)⟩
  · cases e
def fTup : List D → Option D
  | [.list xs] => some (.tuple xs)
  | [.tuple xs] => some (.tuple xs)
  | _ => none
theorem cs_tup : CallS X (.type "tuple") fTup := by
  refine ⟨_, call_tuple_of, fun F H vs ds d Q s hv e q => ?_⟩
  unfold fTup at e
  split at e
  · cases e
    cases hv with
    | cons a r =>
      cases r
      cases a with
      | lst sx ax =>
        refine ⟨_, _, rfl, .inl ⟨s.seq sx, fun p np => ?_⟩⟩
        obtain ⟨a, b⟩ := Stq.newT s np ax
        exact q _ _ _ a b
  · cases e
    cases hv with
    | cons a r =>
      cases r
      cases a with
      | tup sx ax => exact ⟨_, _, rfl, .inr ⟨sqT_mono s sx, q _ _ _ (Stq.refl s) (.tup sx ax)⟩⟩
  · cases e
def fLst : List D → Option D
  | [.list xs] => some (.list xs)
  | [.tuple xs] => some (.list xs)
  | _ => none
theorem cs_lst : CallS X (.type "list") fLst := by
  refine ⟨_, call_list_of, fun F H vs ds d Q s hv e q => ?_⟩
  unfold fLst at e
  split at e
  · cases e
    cases hv with
    | cons a r =>
      cases r
      cases a with
      | lst sx ax =>
        refine ⟨_, _, rfl, .inl (s.seq sx), fun p np => ?_⟩
        obtain ⟨a, b⟩ := Stq.newD s np ax
        exact q _ _ _ a b
  · cases e
    cases hv with
    | cons a r =>
      cases r
      cases a with
      | tup sx ax =>
        refine ⟨_, _, rfl, .inr (sqT_mono s sx), fun p np => ?_⟩
        obtain ⟨a, b⟩ := Stq.newD s np ax
        exact q _ _ _ a b
  · cases e
def fSum : List D → Option D
  | [.list xs] => (asInts xs).map fun ns => .int ns.sum
  | _ => none
theorem cs_sum (hc : X.calm = true) : CallS X (.builtin "sum") fSum := by
  refine ⟨_, cr_sum hc, fun F H vs ds d Q s hv e q => ?_⟩
  unfold fSum at e
  split at e
  · obtain ⟨ns, e1, rfl⟩ := Option.map_eq_some_iff.mp e
    cases hv with
    | cons a r =>
      cases r
      cases a with
      | lst sx ax =>
        have z := DpAll.ints ax e1
        subst z
        exact ⟨_, ns, rfl, s.seq sx, q _ _ _ (Stq.refl s) (.int _)⟩
  · cases e
def asBls : List D → Option (List Bool)
  | [] => some []
  | .bool i :: r => (asBls r).map (i :: ·)
  | _ => none
theorem DpAll.bls {K : PySem.W.Frag} {F : Hp} : ∀ {ds : List D} {vs : List V} {ns : List Bool}, DpAll K F vs ds → asBls ds = some ns → vs = ns.map V.bl
  | [], _, _, .nil, e => by cases e; rfl
  | d :: ds, _, ns, .cons a r, e => by
    cases d with
    | bool i =>
      cases a
      obtain ⟨ms, e1, rfl⟩ := Option.map_eq_some_iff.mp e
      rw [DpAll.bls r e1]
      rfl
    | _ => cases e
def fAll : List D → Option D
  | [.list xs] => (asBls xs).map fun ns => .bool (ns.all id)
  | _ => none
theorem cs_all (hc : X.calm = true) : CallS X (.builtin "all") fAll := by
  refine ⟨_, cr_all hc, fun F H vs ds d Q s hv e q => ?_⟩
  unfold fAll at e
  split at e
  · obtain ⟨ns, e1, rfl⟩ := Option.map_eq_some_iff.mp e
    cases hv with
    | cons a r =>
      cases r
      cases a with
      | lst sx ax =>
        have z := DpAll.bls ax e1
        subst z
        exact ⟨_, ns, rfl, s.seq sx, q _ _ _ (Stq.refl s) (.bl _)⟩
  · cases e
def fAny : List D → Option D
  | [.list xs] => (asBls xs).map fun ns => .bool (ns.any id)
  | _ => none
theorem cs_any (hc : X.calm = true) : CallS X (.builtin "any") fAny := by
  refine ⟨_, cr_any hc, fun F H vs ds d Q s hv e q => ?_⟩
  unfold fAny at e
  split at e
  · obtain ⟨ns, e1, rfl⟩ := Option.map_eq_some_iff.mp e
    cases hv with
    | cons a r =>
      cases r
      cases a with
      | lst sx ax =>
        have z := DpAll.bls ax e1
        subst z
        exact ⟨_, ns, rfl, s.seq sx, q _ _ _ (Stq.refl s) (.bl _)⟩
  · cases e
end

end PL

namespace PL
open PySem PySem.Spec PyProof.Rows L2

/-! ### slices -/
section
variable {prog : Program} {w : World} {A : Around} {E : Value → Shared → Prop} {s : Shared}
theorem filterMap_some {α β : Type} {f : α → Option β} {g : α → β} : ∀ {l : List α}, (∀ k, k ∈ l → f k = some (g k)) → l.filterMap f = l.map g
  | [], _ => rfl
  | x :: l, h => by
    rw [List.filterMap_cons_some (h x List.mem_cons_self), List.map_cons, filterMap_some fun k hk => h k (List.mem_cons_of_mem _ hk)]
theorem rev_pick (xs : Array Value) : ((List.range xs.size).filterMap fun (k : Nat) => xs[(((xs.size : Int) - 1) + (k : Int) * (-1)).toNat]?) = xs.toList.reverse := by
  have e1 : ∀ k, k ∈ List.range xs.size → xs[(((xs.size : Int) - 1) + (k : Int) * (-1)).toNat]? = some (xs.toList.reverse.getD k .none) := fun k hk => by
    have hk : k < xs.size := List.mem_range.mp hk
    have e : (((xs.size : Int) - 1) + (k : Int) * (-1)).toNat = xs.size - 1 - k := by omega
    rw [e, Array.getElem?_eq_getElem (by omega), List.getD_eq_getElem?_getD, List.getElem?_reverse (by simpa using hk), Array.length_toList, List.getElem?_eq_getElem (by simp; omega)]
    simp
  rw [filterMap_some e1]
  apply List.ext_getElem?
  intro i
  rw [List.getElem?_map]
  by_cases hi : i < xs.size
  · rw [List.getElem?_range hi]
    simp only [Option.map_some]
    rw [List.getD_eq_getElem?_getD, List.getElem?_eq_getElem (l := xs.toList.reverse) (by simpa using hi)]
    rfl
  · rw [List.getElem?_eq_none (by simpa using hi), List.getElem?_eq_none (by simpa using hi)]
    rfl
theorem applied_rev {sl : Addr} {vs : Value} {n : Nat} {R : Int × Int × Nat → Shared → Prop} (hs : s.heap.IsSliceOf sl .none .none vs) (ps : IsPart vs (some (-1))) (h : R ((n : Int) - 1, -1, n) s) :
    wpAny (model prog w) A (Builtin.Slice.sliceApplied (.ref sl) (pure (n : Int))) R E s := by
  obtain ⟨os, hos, hcs, hds⟩ := id hs
  unfold Builtin.Slice.sliceApplied Builtin.Slice.sliceFields
  refine wpAny_bind (wpAny_bind (wpAny_field hos hds (x := .none) rfl (wpAny_bind (wpAny_field hos hds (x := .none) rfl (wpAny_bind (wpAny_field hos hds (x := vs) rfl (wpAny_pure ?_)))))))
  refine wpAny_bind (HT.slicePart_ ps ?_)
  show wpAny _ _ (if ((-1 : Int) == 0) = true then _ else _) _ _ s
  rw [if_neg (by decide)]
  refine wpAny_bind (slicePart_none (wpAny_bind (slicePart_none (wpAny_bind (wpAny_pure ?_)))))
  have e : Builtin.Slice.slicePlaces ((n : Int) - 1) (-1) (-1) = n := by
    unfold Builtin.Slice.slicePlaces
    have h1 : ¬ ((-1 : Int) > 0) := by omega
    simp only [h1, if_false, Int.neg_neg, Int.ediv_one]
    split <;> omega
  show wpAny _ _ (pure ((n : Int) - 1, (-1 : Int), Builtin.Slice.slicePlaces ((n : Int) - 1) (-1) (-1))) _ _ s
  rw [e]
  exact wpAny_pure h
theorem getItem_tuple_rev {t sl : Addr} {items : Array Value} {vs : Value} {Q : Value → Shared → Prop} (ht : IsTup s.heap t items) (hs : s.heap.IsSliceOf sl .none .none vs) (ps : IsPart vs (some (-1)))
    (h : Q (.ref s.heap.objs.size) { s with heap := s.heap.push { cls := .type "tuple", data := .seq items.toList.reverse.toArray } })
    (hsz : items.size ≤ sizeLine) : wpAny (model prog w) A (getItem (.ref t) (.ref sl)) Q E s := by
  have htake : sizeOk (.seq items.toList.reverse.toArray) := by
    show items.toList.reverse.toArray.size ≤ sizeLine
    simpa using hsz
  obtain ⟨os, hos, hcs, hds⟩ := id hs
  have hTs : s.TypeIs (.ref sl) "slice" := ⟨os, hos, hcs⟩
  unfold getItem
  try with_reducible refine wpAny_holding ?_
  first | refine wpAny_bind (wpAny_pure ?_) | skip
  refine wpAny_bind (wpAny_sequenceKey ht.typeIs (by decide) ?_)
  refine wpAny_bind (wpAny_callSpecial?_slot (name := Str.ofString "__getitem__") ht.typeIs PyProof.Rows.slot_tuple_getitem
    (wpAny_call_entry PyProof.Rows.slot_tuple_getitem ht.typeIs entry_tuple_getitem ?_ (args_tuple_getitem _ _)))
  show wpAny _ _ (Builtin.Tuple.tupleItemsOf (.ref t) >>= _) _ _ s
  refine wpAny_bind (tupleItemsOf_ ht ?_)
  refine wpAny_bind (wpAny_typeOf hTs ?_)
  rw [if_pos (by decide)]
  refine wpAny_bind (applied_rev hs ps ?_)
  have hno : ¬ (((items.size : Int) - 1 == 0 && (-1 : Int) == 1 && items.size == items.size) = true) := by simp
  show wpAny _ _ (if ((items.size : Int) - 1 == 0 && (-1 : Int) == 1 && items.size == items.size) = true then _ else _) _ _ s
  rw [if_neg hno, rev_pick]
  first
    | exact wpAny_bind (m := Builtin.Tuple.tupleExact _) (wpAny_newObj_type (wpAny_pure ⟨_, rfl, wpAny_pure h⟩) htake)
    | exact wpAny_bind (m := Builtin.Tuple.tupleExact _) (wpAny_newObj_type (wpAny_bind (wpAny_pure (wpAny_pure ⟨_, rfl, wpAny_pure h⟩))) htake)
    | exact wpAny_bind (wpAny_bind (m := Builtin.Tuple.tupleExact _) (wpAny_newObj_type (wpAny_pure (wpAny_pure ⟨_, rfl, wpAny_pure h⟩)) htake))
    | exact wpAny_bind (wpAny_bind (m := Builtin.Tuple.tupleExact _) (wpAny_newObj_type (wpAny_pure ⟨_, rfl, wpAny_pure h⟩) htake))
end
/-- a[::-1] of a list or a tuple -/
def tRevA (K : PySem.W.Frag) (te : TE) : TE := fun σ H Q => te σ H fun x H1 => (∃ a xs, x = .ref a ∧ SqL K H1 a xs ∧ ∀ p, H1 p = none → Q (.ref p) (upd H1 p (.lst xs.reverse))) ∨
  (∃ a xs, x = .ref a ∧ SqT K H1 a xs ∧ ∀ p, H1 p = none → Q (.ref p) (upd H1 p (.tup xs.reverse)))
theorem pe_revA {X : Cx} {e : Expr} {te : TE} {k : Nat} {p1 p2 p3 pos : Pos} (he : PE X e te) : PE X (.Subscript e (.Slice none none (some (.UnaryOp .USub (.Constant (.int 1) k p1) p2)) p3) pos) (tRevA X.K te) := by
  refine ⟨fun pins s σ H Q I h => ?_⟩
  refine Subscript_ (thn (he.run pins s σ H _ I h) fun v s1 ⟨x, H1, I1, r1, q1⟩ => ?_)
  have hst : PO X (some (.UnaryOp .USub (.Constant (.int 1) k p1) p2)) (tPart (tUn (rU fun i => .int (-i)) (tC (.int 1)))) := po_some (pe_un un_neg pe_int)
  refine wpAny_Slice (thn (po_none.run pins s1 σ H1 (fun o H2 => o = none ∧ H2 = H1) I1 ⟨rfl, rfl⟩) fun vl s2 ⟨l, H2, I2, pl, el, e2⟩ => ?_)
  subst el e2
  refine thn (po_none.run pins s2 σ H2 (fun o H3 => o = none ∧ H3 = H2) I2 ⟨rfl, rfl⟩) fun vu s3 ⟨u, H3, I3, pu, eu, e3⟩ => ?_
  subst eu e3
  refine thn (hst.run pins s3 σ H3 (fun o H4 => o = some (-1) ∧ H4 = H3) I3 ⟨1, rfl, -1, rfl, rfl, rfl⟩) fun vs s4 ⟨o, H4, I4, ps, eo, e4⟩ => ?_
  subst eo e4
  have I5 : Inv X pins σ H4 { s4 with heap := s4.heap.push { cls := .type "slice", data := .fields #[vl, vu, vs] } } := I4.kept (t' := s4.toks) fun b ob q => Heap.get?_push_of_some _ q
  rcases q1 with ⟨a, xs, ex, hx, q⟩ | ⟨a, xs, ex, hx, q⟩
  · subst ex
    cases r1
    obtain ⟨its, r, ht, hz⟩ := I5.list hx
    have hlen := r.length
    show wpAny (model X.prog X.w) X.A (subscriptTail e (.Slice none none (some (.UnaryOp .USub (.Constant (.int 1) k p1) p2)) p3) (.ref a) (.ref s4.heap.objs.size)) (EP X pins σ Q) X.xe { s4 with heap := s4.heap.push { cls := .type "slice", data := .fields #[vl, vu, vs] } }
    refine tail_any (ops := [.ref a, .ref s4.heap.objs.size]) ht.isList.typeIs (PySem.slot_list_getitem.lookup) ?_ (by with_unfolding_all rfl)
    refine wpAny_getItem_list_slice ht.isList (Heap.IsSliceOf.new _ vl vu vs) pl pu ps (by decide) ?_ (by rw [List.size_toArray]; omega)
    rw [PySem.W.krv_pick]
    refine ⟨.ref _, _, I5.laid (t' := s4.toks) (o := .lst xs.reverse) (fun b ob q => Heap.get?_push_of_some _ q) (Nat.le_refl _) ?_, rfl, q _ (I5.hok.fresh (Nat.le_refl _))⟩
    exact ⟨by rw [List.length_reverse]; exact hz, _, 0, r.reverse, Heap.get?_push_size _ rfl⟩
  · subst ex
    cases r1
    cases pl
    cases pu
    obtain ⟨its, r, ht, hz⟩ := I5.tuple hx
    have hlen := r.length
    show wpAny (model X.prog X.w) X.A (subscriptTail e (.Slice none none (some (.UnaryOp .USub (.Constant (.int 1) k p1) p2)) p3) (.ref a) (.ref s4.heap.objs.size)) (EP X pins σ Q) X.xe { s4 with heap := s4.heap.push { cls := .type "slice", data := .fields #[.none, .none, vs] } }
    refine tail_any (ops := [.ref a, .ref s4.heap.objs.size]) ht.typeIs (PyProof.Rows.slot_tuple_getitem.lookup) ?_ (by with_unfolding_all rfl)
    refine getItem_tuple_rev ht (Heap.IsSliceOf.new _ .none .none vs) ps ?_ (by rw [List.size_toArray]; omega)
    refine ⟨.ref _, _, I5.laid (t' := s4.toks) (o := .tup xs.reverse) (fun b ob q => Heap.get?_push_of_some _ q) (Nat.le_refl _) ?_, rfl, q _ (I5.hok.fresh (Nat.le_refl _))⟩
    exact ⟨by rw [List.length_reverse]; exact hz, _, r.reverse, ⟨_, Heap.get?_push_size _ rfl, rfl, _, rfl⟩⟩
def gRev : D → Option D
  | .list xs => some (.list xs.reverse)
  | .tuple xs => some (.tuple xs.reverse)
  | _ => none
def cutD (xs : List D) (lo hi : Option Int) : List D := (xs.drop (HT.sIx xs.length 0 lo)).take (HT.sIx xs.length xs.length hi - HT.sIx xs.length 0 lo)
abbrev SO := Lo → M (Option Int)
def eSl (te : SE) (tl th : SO) : SE := fun ρ => mb (te ρ) fun d => mb (tl ρ) fun lo => mb (th ρ) fun hi => match d with
  | .list xs => mp (.list (cutD xs lo hi))
  | .tuple xs => mp (.tuple (cutD xs lo hi))
  | _ => fun _ => none
def oNo : SO := fun _ => mp none
def asI : D → Option Int
  | .int i => some i
  | _ => none
def oSo (f : SE) : SO := fun ρ => mb (f ρ) fun d => mb (ml (asI d)) fun i => mp (some i)
def EPt (X : Cx) (Ω : Orc) (ow : List Nat) (e : Option Expr) (f : SO) : Prop := ∃ t, PO X e t ∧ ∀ F0 H0 F H σ ρ h o h' Q, SR X.K Ω ow F0 H0 F H σ ρ h → f ρ h = some (o, h') →
  (∀ F' H', Stp Ω F H F' H' → Ω.OR h' H' → Q o H') → t σ H Q
section
variable {X : Cx} {Ω : Orc} {ow : List Nat} {pos : Pos} {a : Expr} {fa : SE}
theorem ep_no : EPt X Ω ow none oNo := ⟨_, po_none, fun F0 H0 F H σ ρ h o h' Q S e q => by
  obtain ⟨rfl, rfl⟩ := mp_some e
  exact q _ _ (Stp.refl S.fh) S.orc⟩
theorem ep_so (ha : EV X Ω ow a fa) : EPt X Ω ow (some a) (oSo fa) := ⟨_, po_some we, fun F0 H0 F H σ ρ h o h' Q S e q => by
  obtain ⟨d, h1, e1, e⟩ := mb_some e
  obtain ⟨i, h2, z2, e⟩ := mb_some e
  obtain ⟨rfl, rfl⟩ := mp_some e
  obtain ⟨e2, rfl⟩ := ml_some z2
  refine ha _ _ _ _ _ _ _ _ _ _ S e1 fun v F1 H1 s1 o1 d1 => ?_
  cases d with
  | int j =>
    cases e2
    cases d1
    exact ⟨_, rfl, q _ _ s1 o1⟩
  | _ => cases e2⟩
theorem DpAll.cut {K : PySem.W.Frag} {F : Hp} {xs : List V} {ds : List D} (a : DpAll K F xs ds) (lo hi : Option Int) : DpAll K F (cutV xs lo hi) (cutD ds lo hi) := by
  unfold cutV cutD
  rw [DpAll.length a]
  exact DpAll.take _ (DpAll.drop _ a)
theorem cut_whole (xs : List D) (lo hi : Option Int) (h : HT.sIx xs.length 0 lo = 0 ∧ HT.sIx xs.length xs.length hi = xs.length) : cutD xs lo hi = xs := by
  unfold cutD
  rw [h.1, h.2]
  simp
theorem ev_slice {lo hi : Option Expr} {tl th : SO} {p2 : Pos} (ha : EV X Ω ow a fa) (hl : EPt X Ω ow lo tl) (hh : EPt X Ω ow hi th) : EV X Ω ow (.Subscript a (.Slice lo hi none p2) pos) (eSl fa tl th) := by
  intro F0 H0 F H σ ρ h d h' Q S e q
  obtain ⟨x, h1, e1, e⟩ := mb_some e
  obtain ⟨l, h2, e2, e⟩ := mb_some e
  obtain ⟨u, h3, e3, e⟩ := mb_some e
  obtain ⟨t1, p1, q1⟩ := hl
  obtain ⟨t2, p2', q2⟩ := hh
  refine we_of (pe_slice (sl_list.or sl_tupA) we p1 p2') ?_
  refine ha _ _ _ _ _ _ _ _ _ _ S e1 fun v F1 H1 s1 o1 d1 => ?_
  refine q1 _ _ _ _ _ _ _ _ _ _ (S.next s1 o1) e2 fun F2 H2 s2 o2 => ?_
  refine q2 _ _ _ _ _ _ _ _ _ _ ((S.next s1 o1).next s2 o2) e3 fun F3 H3 s3 o3 => ?_
  have s23 := s2.trans s3
  have s13 := s1.trans s23
  have d3 := Dp_mono s23.sf d1
  cases x with
  | list xs =>
    obtain ⟨rfl, rfl⟩ := mp_some e
    cases d3 with
    | lst sx ax =>
      refine .inl ⟨_, _, rfl, s3.fh.seq sx, fun p np => ?_⟩
      obtain ⟨b1, b2⟩ := Stq.newD s3.fh np (DpAll.cut ax l u)
      exact q _ _ _ (s13.trans b1.stp) (b1.orc o3) b2
  | tuple xs =>
    obtain ⟨rfl, rfl⟩ := mp_some e
    cases d3 with
    | tup sx ax =>
      refine .inr ⟨_, _, rfl, sqT_mono s3.fh sx, fun z => ?_, fun _ p np => ?_⟩
      · rw [DpAll.length ax] at z
        rw [cut_whole xs l u z] at q
        exact q _ _ _ s13 o3 (.tup sx ax)
      · obtain ⟨b1, b2⟩ := Stq.newT s3.fh np (DpAll.cut ax l u)
        exact q _ _ _ (s13.trans b1.stp) (b1.orc o3) b2
  | _ => cases e
theorem ev_rev {k : Nat} {p1 p2 p3 : Pos} (ha : EV X Ω ow a fa) : EV X Ω ow (.Subscript a (.Slice none none (some (.UnaryOp .USub (.Constant (.int 1) k p1) p2)) p3) pos) (eUn gRev fa) := by
  intro F0 H0 F H σ ρ h d h' Q S e q
  obtain ⟨x, h1, e1, e⟩ := mb_some e
  obtain ⟨e2, rfl⟩ := ml_some e
  refine we_of (pe_revA we) (ha _ _ _ _ _ _ _ _ _ _ S e1 fun v F1 H1 s1 o1 d1 => ?_)
  cases x with
  | list xs =>
    cases e2
    cases d1 with
    | lst sx ax =>
      refine .inl ⟨_, _, rfl, s1.fh.seq sx, fun p np => ?_⟩
      obtain ⟨b1, b2⟩ := Stq.newD s1.fh np (DpAll.reverse ax)
      exact q _ _ _ (s1.trans b1.stp) (b1.orc o1) b2
  | tuple xs =>
    cases e2
    cases d1 with
    | tup sx ax =>
      refine .inr ⟨_, _, rfl, sqT_mono s1.fh sx, fun p np => ?_⟩
      obtain ⟨b1, b2⟩ := Stq.newT s1.fh np (DpAll.reverse ax)
      exact q _ _ _ (s1.trans b1.stp) (b1.orc o1) b2
  | _ => cases e2
end

/-! ### isinstance -/
def tyName : D → String
  | .none => "NoneType"
  | .bool _ => "bool"
  | .int _ => "int"
  | .str _ => "str"
  | .list _ => "list"
  | .tuple _ => "tuple"
  | .dict _ => "dict"
def gIsi (T : String) (d : D) : Option D := (kitB (tyName d) T).map .bool
section
variable {X : Cx} {Ω : Orc} {ow : List Nat} {pos : Pos} {a : Expr} {fa : SE}
theorem ty_of {K : PySem.W.Frag} {F H : Hp} {v : V} {d : D} (s : Same F H) (h : Dp K F v d) : TyX K H v (.type (tyName d)) := by
  cases h with
  | non => exact .base .non
  | bl b => exact .base (.bl b)
  | int i => exact .base (.int i)
  | str x => exact .base (.str x)
  | lst sq _ =>
    rcases sq with (sq | ⟨o, sq⟩) | ⟨o, its, n, hk, hc, _⟩
    · exact .base (.lst (s _ _ sq))
    · exact .base (.frz (s _ _ sq))
    · exact .kList hk hc
  | tup sq _ =>
    rcases sq with (sq | ⟨o, sq⟩) | ⟨o, its, n, hk, hc, _⟩
    · exact .base (.tup (s _ _ sq))
    · exact .fTuple (s _ _ sq)
    · exact .kTuple hk hc
theorem ev_isi {x y : Str} {p p2 : Pos} {T : String} (hm : X.mg x = none) (hmT : X.mg y = none) (ha : EV X Ω ow a fa) (hg : Gl X x := by rfl) (hv : bootBuiltins x = some (.builtin "isinstance") := by decide +kernel) (hgT : Gl X y := by rfl) (hvT : bootBuiltins y = some (.type T) := by decide +kernel)
    (hn : x ≠ "__name__" := by decide) (hdb : (x == ("__debug__" : Str)) = false := by decide) (hnT : y ≠ "__name__" := by decide) (hdbT : (y == ("__debug__" : Str)) = false := by decide)
    (he : starEach [a, .Name y p2] X.env = (false, eval a X.env) :: starEach [.Name y p2] X.env := by rfl) (hpl : (backTo pos (starEach [.Name y p2] X.env)).any (·.1) = false := by rfl) :
    EV X Ω ow (.Call (.Name x p) [a, .Name y p2] [] pos) (eUn (gIsi T) fa) := by
  intro F0 H0 F H σ ρ h d h' Q S e q
  obtain ⟨z, h1, e1, e⟩ := mb_some e
  obtain ⟨e2, rfl⟩ := ml_some e
  obtain ⟨b, e3, rfl⟩ := Option.map_eq_some_iff.mp e2
  refine we_of (pe_callB call_isi hg hm hv (pa_cons we (pa_cons (pe_bltn (v := .ty T) hgT hmT hvT rfl hnT hdbT) pa_nil) he) hn hdb he hpl) ?_
  refine ha _ _ _ _ _ _ _ _ _ _ S e1 fun v F1 H1 s1 o1 d1 => ?_
  exact ⟨v, .ty T, _, _, b, rfl, .ty T, ty_of s1.fh d1, kit_ty e3, q _ _ _ s1 o1 (.bl b)⟩
end
/-! ### the built-ins' names -/
theorem hv_len : bootBuiltins "len" = some (.builtin "len") := by decide +kernel
theorem hv_abs : bootBuiltins "abs" = some (.builtin "abs") := by decide +kernel
theorem hv_sum : bootBuiltins "sum" = some (.builtin "sum") := by decide +kernel
theorem hv_all : bootBuiltins "all" = some (.builtin "all") := by decide +kernel
theorem hv_any : bootBuiltins "any" = some (.builtin "any") := by decide +kernel
theorem hv_sorted : bootBuiltins "sorted" = some (.builtin "sorted") := by decide +kernel
theorem hv_min : bootBuiltins "min" = some (.builtin "min") := by decide +kernel
theorem hv_max : bootBuiltins "max" = some (.builtin "max") := by decide +kernel
theorem hv_isinstance : bootBuiltins "isinstance" = some (.builtin "isinstance") := by decide +kernel
theorem hv_int : bootBuiltins "int" = some (.type "int") := by decide +kernel
theorem hv_bool : bootBuiltins "bool" = some (.type "bool") := by decide +kernel
theorem hv_str : bootBuiltins "str" = some (.type "str") := by decide +kernel
theorem hv_list : bootBuiltins "list" = some (.type "list") := by decide +kernel
theorem hv_tuple : bootBuiltins "tuple" = some (.type "tuple") := by decide +kernel
theorem hv_dict : bootBuiltins "dict" = some (.type "dict") := by decide +kernel
theorem hv_set : bootBuiltins "set" = some (.type "set") := by decide +kernel
end PL

namespace PL
open PySem PySem.Spec PyProof.Rows L2

/-! ### draws -/
def Orc.at (Ω : Orc) (i : Nat) : Orc := { Ω with slot := some i }
theorem Stp.re {Ω Ω' : Orc} (e : ∀ p, Ω'.OC p → Ω.OC p) {F H F' H' : Hp} (s : Stp Ω F H F' H') (e2 : ∀ p, Ω.OC p → Ω'.OC p) : Stp Ω' F H F' H' := ⟨s.sf, s.fh, fun p o h n => s.kp p o h fun z => n (e2 p z), s.ap, s.al⟩
theorem Stp.to {Ω : Orc} {i : Nat} {F H F' H' : Hp} (s : Stp (Ω.at i) F H F' H') : Stp Ω F H F' H' := ⟨s.sf, s.fh, s.kp, s.ap, s.al⟩
theorem Stp.of {Ω : Orc} {i : Nat} {F H F' H' : Hp} (s : Stp Ω F H F' H') : Stp (Ω.at i) F H F' H' := ⟨s.sf, s.fh, s.kp, s.ap, s.al⟩
theorem ns0 {i : Nat} : Orc.no.slot ≠ some i := nofun
theorem ns1 {Ω : Orc} {j i : Nat} (h : j ≠ i := by decide) : (Ω.at j).slot ≠ some i := fun e => h (Option.some.inj e)
theorem nsl0 {l : List Nat} : ∀ i ∈ l, Orc.no.slot ≠ some i := fun _ _ => ns0
theorem nsl1 {Ω : Orc} {j : Nat} {l : List Nat} (h : j ∉ l := by decide) : ∀ i ∈ l, (Ω.at j).slot ≠ some i := fun i hi e => h (Option.some.inj e ▸ hi)
/-- one draw -/
def draw (o : List Int → Int → Int) : List D → M D
  | [.int n] => fun h => if 0 < n ∧ h.length < 1000000 then some (.int (o h n), h ++ [n]) else none
  | _ => fun _ => none
/-- the promise of a def whose first argument is the pool -/
def spM (K : PySem.W.Frag) (fam : Orc → Prop) (G : (List Int → Int → Int) → List D → M D) (n : Nat) : Sp := fun vs H Q _ => vs.length = n ∧ ∃ (Ω : Orc) (vs' : List V) (F : Hp) (ds : List D) (r : D) (h h' : List Int), fam Ω ∧ vs = .ref Ω.adr :: vs' ∧ Same F H ∧ DpAll K F vs' ds ∧ Ω.OR h H ∧ (∀ p, Ω.OC p → F p = none) ∧
  G Ω.o ds h = some (r, h') ∧ ∀ v F' H', Stp Ω F H F' H' → Ω.OR h' H' → Dp K F' v r → Q v H'
def eCallM (G : List D → M D) (a : SA) : SE := fun ρ => mb (a ρ) fun xs => G xs
section
variable {X : Cx} {Ω : Orc} {ow : List Nat} {es : List Expr} {sa : SA} {pos p p2 : Pos} {k : Nat} {f : Addr} {fd : FuncData} {ps : List Str} {fam : Orc → Prop}
theorem ev_callM {x y : Str} {i n : Nat} {G : (List Int → Int → Int) → List D → M D} (Gk : FnOk X.prog X.w X.K X.mg X.base CX0 k f fd ps (spM X.K fam G n)) (hr : Room k X.A) (hm : X.mg x = some (.ref f)) (hk : PySem.W.keepIn X.K (.ref f) = true) (hb : Binds X.K fd ps []) (hf : fam Ω)
    (ha : EA X (Ω.at i) ow es sa) (hl : ∀ ρ h ds h', sa ρ h = some (ds, h') → ds.length + 1 = n) (hN : X.N[i]? = some y := by rfl) (hv : Vis X.env.scope y := by first | exact Or.inl rfl | exact Or.inr (Or.inl rfl) | exact Or.inr (Or.inr rfl)) (hg : Gl X x := by rfl)
    (hdb : (x == ("__debug__" : Str)) = false := by decide) (hd : (y == ("__debug__" : Str)) = false := by decide) (hcd : (y == ("__classdict__" : Str)) = false := by decide)
    (hs : starEach (.Name y p2 :: es) X.env = (false, eval (.Name y p2) X.env) :: starEach es X.env := by rfl) (hpl : (backTo pos (starEach es X.env)).any (·.1) = false := by rfl) :
    EV X (Ω.at i) ow (.Call (.Name x p) (.Name y p2 :: es) [] pos) (eCallM (G Ω.o) sa) := by
  intro F0 H0 F H σ ρ h d h' Q S e q
  obtain ⟨xs, h1, e1, e⟩ := mb_some e
  refine we_of (pe_call Gk hr hg hm hk hb .nil pass0 (pa_cons (pe_var hN hv hd hcd) wa hs) hdb hs hpl) ?_
  obtain ⟨pl1, _⟩ := S.pool i rfl
  refine ⟨_, pl1, ha _ _ _ _ _ _ _ _ _ _ S e1 fun vs F1 H1 s1 o1 d1 => ?_⟩
  show spM X.K fam G n ((.ref Ω.adr :: vs) ++ []) H1 Q E0
  rw [List.append_nil]
  refine ⟨by rw [List.length_cons, DpAll.length d1]; exact hl _ _ _ _ e1, Ω, vs, F1, xs, d, h1, h', hf, rfl, s1.fh, d1, o1, fun p hp => s1.ap p (Ω.alloc h H S.orc p hp) (S.ocf p hp), e, fun v F2 H2 s2 o2 d2 => ?_⟩
  exact q _ _ _ (s1.trans s2.of) o2 d2
end
theorem al_nil : ∀ (ρ : Lo) (h : List Int) (ds : List D) (h' : List Int), aNil ρ h = some (ds, h') → ds.length = 0 := fun ρ h ds h' e => by cases e; rfl
theorem al_cons {f : SE} {sa : SA} {n : Nat} (r : ∀ (ρ : Lo) (h : List Int) (ds : List D) (h' : List Int), sa ρ h = some (ds, h') → ds.length = n) : ∀ (ρ : Lo) (h : List Int) (ds : List D) (h' : List Int), aCons f sa ρ h = some (ds, h') → ds.length = n + 1 := fun ρ h ds h' e => by
  obtain ⟨x, h1, e1, e⟩ := mb_some e
  obtain ⟨xs, h2, e2, e⟩ := mb_some e
  obtain ⟨rfl, rfl⟩ := mp_some e
  rw [List.length_cons, r _ _ _ _ e2]
theorem al1 {sa : SA} {n : Nat} (r : ∀ (ρ : Lo) (h : List Int) (ds : List D) (h' : List Int), sa ρ h = some (ds, h') → ds.length = n) : ∀ (ρ : Lo) (h : List Int) (ds : List D) (h' : List Int), sa ρ h = some (ds, h') → ds.length + 1 = n + 1 := fun ρ h ds h' e => by rw [r _ _ _ _ e]
def startM (n : Nat) (ds : List D) : Lo := none :: startD (n - 1) ds
theorem fn_okM {P : Program} {w : World} {K : PySem.W.Frag} {mg : Str → Option Value} {base : Heap} {x qual : Str} {st : Stmt} {f : Addr} {fd : FuncData} {N ps : List Str} {k n : Nat} {oe : List Nat} {fam : Orc → Prop} {G : (List Int → Int → Int) → List D → M D} {fb : (List Int → Int → Int) → Nat → SS}
    (Gf : Fun K x qual st f fd) (S : FnScope N ps (defScope st)) (hn : ps.length = n)
    (hb : ∀ Ω, fam Ω → ∀ nn cdv A outer s H E, Room k (A.deeper (envOfC qual (defScope st) s.heap.objs.size f cdv)) → ESs (cxOf CX0 P w K mg base N qual (defScope st) f cdv A outer s H E).nox (Ω.at 0) [] [] (defBody st) oe (fb Ω.o nn))
    (hF : ∀ o ds r h h', ds.length + 1 = n → G o ds h = some (r, h') → ∃ nn, fb o nn (startM N.length ds) h = some (.ret r, h')) : FnOk P w K mg base CX0 (k + 1) f fd ps (spM K fam G n) := by
  refine Gf.ok S (fun vs H Q E h => by rw [h.1, hn]) (fun cdv A outer s H vs Q E hr h => ?_)
  obtain ⟨hv, Ω, vs', F, ds, r, h, h', hf, rfl, sF, da, orc, ocf, hr', q⟩ := h
  have hl := DpAll.length da
  have hd : ds.length + 1 = n := by rw [← hl]; simpa using hv
  obtain ⟨nn, e⟩ := hF Ω.o ds r h h' hd hr'
  refine ⟨_, wss, ?_⟩
  have hps : ps.length ≤ N.length := by
    have := congrArg List.length S.pre
    rw [List.length_take] at this
    omega
  have SR0 : SR K (Ω.at 0) [] F H F H (L2.start N (.ref Ω.adr :: vs')) (startM N.length ds) h := by
    have e0 : L2.start N (.ref Ω.adr :: vs') = some (.ref Ω.adr) :: (vs'.map some ++ List.replicate (N.length - 1 - vs'.length) none) := by
      unfold L2.start
      rw [List.map_cons, List.cons_append, List.length_cons, show N.length - (vs'.length + 1) = N.length - 1 - vs'.length by omega]
    rw [e0]
    refine ⟨Stp.refl sF, ?_, fun i d _ e => ?_, fun i d hi => (nomatch hi), fun i j p d e hi => (nomatch hi), orc, ocf, fun i hi => ?_⟩
    · unfold startM startD
      simp [hl]
    · cases i with
      | zero => cases e
      | succ i =>
        obtain ⟨v, e1, e2⟩ := start_val (n := N.length - 1) (i := i) da (by simpa [startM] using e)
        exact ⟨v, by simpa using e1, e2⟩
    · cases hi
      exact ⟨rfl, rfl⟩
  refine hb Ω hf nn cdv A outer s H E hr _ _ _ _ _ _ _ _ _ _ SR0 e ?_
  exact fun v F' H' s' o' dv => q v F' H' s'.to o' dv
end PL
namespace PL
open PySem PySem.Spec PyProof.Rows L2
/-- the pool of the older laws: its rows, and how many were taken -/
def mkOrc (P0 R C : Addr) (rows : List Int) : Orc where
  slot := none
  adr := P0
  OC := fun p => p = P0 ∨ p = R ∨ p = C
  OR := fun h H => H P0 = some (.lst [.ref R, .ref C]) ∧ H R = some (.lst (rows.map V.int)) ∧ H C = some (.lst [.int (h.length : Nat)])
  o := fun h n => ((rows.getD (h.length % rows.length) 0) + ((h.length / rows.length : Nat) : Int) * 1009 + ((h.length / rows.length : Nat) : Int) * ((h.length : Nat) : Int)).fmod n
  alloc := fun h H ⟨a, b, c⟩ p hp => by
    rcases hp with rfl | rfl | rfl
    · rw [a]; simp
    · rw [b]; simp
    · rw [c]; simp
  stable := fun h H H' ⟨a, b, c⟩ k => ⟨k _ _ (.inl rfl) a, k _ _ (.inr (.inl rfl)) b, k _ _ (.inr (.inr rfl)) c⟩
def FAM : Orc → Prop := fun Ω => ∃ P0 R C rows, Ω = mkOrc P0 R C rows ∧ P0 ≠ R ∧ P0 ≠ C ∧ R ≠ C ∧ 0 < rows.length ∧ rows.length ≤ 1000
/-- what a draw gives -/
def Fair (o : List Int → Int → Int) : Prop := ∀ h n, 0 < n → 0 ≤ o h n ∧ o h n < n
theorem FAM.fair {Ω : Orc} (h : FAM Ω) : Fair Ω.o := by
  obtain ⟨P0, R, C, rows, rfl, _⟩ := h
  exact fun h n hn => ⟨Int.fmod_nonneg_of_pos _ hn, Int.fmod_lt_of_pos _ hn⟩
theorem stM {r : Option (Fl × List Int)} {d : D} {h' : List Int} (e : (match r with | some (.ret r, h') => some (r, h') | _ => none) = some (d, h')) : r = some (.ret d, h') := by
  split at e
  · cases e; rfl
  · cases e
end PL

namespace PL
open PySem PySem.Spec PyProof.Rows L2
section
variable {P : Program} {w : World} {K : PySem.W.Frag} {mg : Str → Option Value} {base : Heap}
/-- the body of the older laws' pick, whatever stands around it -/
theorem pick_read {Ω : Orc} {F H : Hp} {n : Int} {h h' : List Int} {r : D} {Q : VK} (hf : FAM Ω) (sF : Same F H) (orc : Ω.OR h H) (ocf : ∀ p, Ω.OC p → F p = none) (e : draw Ω.o [.int n] h = some (r, h'))
    (q : ∀ v F' H', Stp Ω F H F' H' → Ω.OR h' H' → Dp K F' v r → Q v H') :
    ∃ (P0 R C : Addr) (rows : List Int), Ω.adr = P0 ∧ H P0 = some (.lst [.ref R, .ref C]) ∧ H R = some (.lst (rows.map V.int)) ∧ H C = some (.lst [.int (h.length : Nat)]) ∧ R ≠ C ∧ P0 ≠ C ∧ 0 < rows.length ∧ rows.length ≤ 1000 ∧ h.length < 1000000 ∧ 0 < n ∧
      Q (.int (((rows.getD (h.length % rows.length) 0) + ((h.length / rows.length : Nat) : Int) * 1009 + ((h.length / rows.length : Nat) : Int) * ((h.length : Nat) : Int)).fmod n)) (upd H C (.lst [.int ((h.length : Nat) + 1 : Int)])) := by
  obtain ⟨P0, R, C, rows, rfl, n1, n2, n3, l1, l2⟩ := hf
  obtain ⟨o1, o2, o3⟩ := orc
  have e' : (if 0 < n ∧ h.length < 1000000 then some (PyData.int ((mkOrc P0 R C rows).o h n), h ++ [n]) else none) = some (r, h') := e
  split at e'
  · rename_i hc
    cases e'
    have fp : ∀ {b : Addr} {o : HO}, F b = some o → b ≠ C := fun {b o} eb z => by
      have := ocf C (.inr (.inr rfl))
      rw [z, this] at eb
      cases eb
    refine ⟨P0, R, C, rows, rfl, o1, o2, o3, n3, n2, l1, l2, hc.2, hc.1, ?_⟩
    refine q _ F _ ⟨Same.refl _, fun b o eb => by rw [upd_ne (fp eb)]; exact sF b o eb, fun b o eb nb => ?_, fun _ _ z => z, fun b nb => ?_⟩ ⟨?_, ?_, ?_⟩ (.int _)
    · rw [upd_ne (fun z => nb (.inr (.inr z)))]; exact eb
    · by_cases hb : b = C
      · subst hb; rw [upd_same]; simp
      · rw [upd_ne hb]; exact nb
    · rw [upd_ne n2]; exact o1
    · rw [upd_ne n3]; exact o2
    · rw [upd_same]; simp
  · cases e'
end
theorem atI0 {α : Type} {x y : α} : atI [x, y] 0 = some x := rfl
theorem atI1 {α : Type} {x y : α} : atI [x, y] 1 = some y := rfl
theorem natdiv (a b : Nat) : ((a : Int)).fdiv (b : Int) = ((a / b : Nat) : Int) := by
  rw [Int.fdiv_eq_ediv_of_nonneg _ (by omega)]
  rfl
theorem natmod (a b : Nat) : ((a : Int)).fmod (b : Int) = ((a % b : Nat) : Int) := by
  rw [Int.fmod_eq_emod_of_nonneg _ (by omega)]
  rfl
end PL
namespace PL
open PySem PySem.Spec PyProof.Rows L2
/-- the promise of the older laws' pool -/
def spPool (K : PySem.W.Frag) : Sp := fun vs H Q _ => ∃ (a : Addr) (ns : List Int), vs = [.ref a] ∧ SqL K H a (ns.map V.int) ∧ ns.length ≤ 63 ∧
  ∀ H' P0 R C (rows : List Int), H' P0 = some (.lst [.ref R, .ref C]) → H' R = some (.lst (rows.map V.int)) → H' C = some (.lst [.int 0]) → P0 ≠ R → P0 ≠ C → R ≠ C → 0 < rows.length → rows.length ≤ 1000 → Q (.ref P0) H'
theorem DpAll_ints {K : PySem.W.Frag} {F : Hp} : ∀ ns : List Int, DpAll K F (ns.map V.int) (ns.map PyData.int)
  | [] => .nil
  | n :: ns => .cons (.int n) (DpAll_ints ns)
theorem DpAll_ints_inv {K : PySem.W.Frag} {F : Hp} : ∀ {ns : List Int} {vs : List V}, DpAll K F vs (ns.map PyData.int) → vs = ns.map V.int
  | [], _, .nil => rfl
  | n :: ns, _, .cons a r => by
    cases a
    rw [DpAll_ints_inv r]
    rfl
end PL
namespace PL
open PySem PySem.Spec PyProof.Rows L2
def spLaw (K : PySem.W.Frag) : Sp := fun vs H Q _ => ∃ (a : Addr) (ns : List Int), vs = [.ref a] ∧ SqL K H a (ns.map V.int) ∧ ns.length ≤ 63 ∧ ∀ H', Q (.bl true) H'
/-- the state behind the pool's making -/
theorem SR.law {K : PySem.W.Frag} {Ω : Orc} {i n : Nat} {H : Hp} {σ : L2.St} (hσ : σ.length = n) (hp : σ[i]? = some (some (.ref Ω.adr))) (o : Ω.OR [] H) : SR K (Ω.at i) [] (fun _ => none) H (fun _ => none) H σ (List.replicate n none) [] := by
  have hn : ∀ (j : Nat) (d : D), (List.replicate n (none : Option D))[j]? = some (some d) → False := fun j d e => by
    rw [List.getElem?_replicate] at e
    split at e <;> cases e
  refine ⟨Stp.refl (fun b o e => nomatch e), by simp [hσ], fun j d _ e => (hn j d e).elim, fun j d hj => (nomatch hj), fun j k p d e hj => (nomatch hj), o, fun p _ => rfl, fun j hj => ?_⟩
  cases hj
  refine ⟨hp, ?_⟩
  have hl : i < n := by
    have := (List.getElem?_eq_some_iff.mp hp).1
    omega
  rw [List.getElem?_replicate, if_pos hl]
end PL

/-! evaluating the semantics -/
namespace PL
open PySem PySem.Spec PyProof.Rows L2
theorem mb_mp {α β : Type} (a : α) (k : α → M β) : mb (mp a) k = k a := (rfl)
theorem mb_ml {α β : Type} (a : α) (k : α → M β) : mb (ml (some a)) k = k a := (rfl)
theorem mb_eq {α β : Type} {m : M α} {k : α → M β} {h h1 : List Int} {a : α} (e : m h = some (a, h1)) : mb m k h = k a h1 := by unfold mb; rw [e]
theorem mb_mb_eq {α β γ : Type} {m : M α} {k : α → M β} {f : β → M γ} {h h1 : List Int} {a : α} (e : m h = some (a, h1)) : mb (mb m k) f h = mb (k a) f h1 := by unfold mb; rw [e]
theorem mp_ap {α : Type} (a : α) (h : List Int) : mp a h = some (a, h) := (rfl)
theorem ml_ap {α : Type} (a : α) (h : List Int) : ml (some a) h = some (a, h) := (rfl)
theorem if_tt {α : Type} {a b : α} : (if true = true then a else b) = a := (rfl)
theorem if_ff {α : Type} {a b : α} : (if false = true then a else b) = b := (rfl)
/-- items of a mapped list -/
theorem atI_map {α β : Type} (f : α → β) (xs : List α) (i : Int) : atI (xs.map f) i = (atI xs i).map f := by
  unfold atI
  rw [List.length_map]
  cases ixN xs.length i with
  | none => rfl
  | some j => simp
theorem gMul_r {i j : Int} (h : -(2 ^ 64) < j ∧ j < 2 ^ 64) : gMul (.int i) (.int j) = some (.int (i * j)) := by
  have : small64 j = true := by unfold small64; rw [decide_eq_true h.1, decide_eq_true h.2]; rfl
  show (if (small64 i || small64 j) = true then _ else _) = _
  rw [this, Bool.or_true]; rfl
theorem gMul_l {i j : Int} (h : -(2 ^ 64) < i ∧ i < 2 ^ 64) : gMul (.int i) (.int j) = some (.int (i * j)) := by
  have : small64 i = true := by unfold small64; rw [decide_eq_true h.1, decide_eq_true h.2]; rfl
  show (if (small64 i || small64 j) = true then _ else _) = _
  rw [this, Bool.true_or]; rfl
theorem gMod_ok {i j : Int} (h : j ≠ 0) : gMod (.int i) (.int j) = some (.int (i.fmod j)) := by
  show (if j ≠ 0 then _ else _) = _
  rw [if_pos h]
theorem gFdiv_ok {i j : Int} (h : j ≠ 0 ∧ j.natAbs < 1073741824) : gFdiv (.int i) (.int j) = some (.int (i.fdiv j)) := by
  show (if _ then _ else _) = _
  rw [if_pos h]
theorem gAdd_i {i j : Int} : gAdd (.int i) (.int j) = some (.int (i + j)) := (rfl)
theorem gSub_i {i j : Int} : gSub (.int i) (.int j) = some (.int (i - j)) := (rfl)
end PL
namespace PL
open PySem PySem.Spec PyProof.Rows L2
section
variable {ρ : Lo} {h : List Int}
@[simp] theorem x_mp {α : Type} (a : α) : mp a h = some (a, h) := (rfl)
@[simp] theorem x_ml {α : Type} (a : α) : ml (some a) h = some (a, h) := (rfl)
@[simp] theorem x_mln {α : Type} : (ml (none : Option α)) h = none := (rfl)
@[simp] theorem x_mbp {α β : Type} (a : α) (k : α → M β) : mb (mp a) k = k a := (rfl)
@[simp] theorem x_mbl {α β : Type} (a : α) (k : α → M β) : mb (ml (some a)) k = k a := (rfl)
@[simp] theorem x_eVar (i : Nat) : eVar i ρ = ml (rd i ρ) := (rfl)
@[simp] theorem x_eC (d : D) : eC d ρ = mp d := (rfl)
@[simp] theorem x_eOp (g : D → D → Option D) (a b : SE) : eOp g a b ρ = mb (a ρ) fun x => mb (b ρ) fun y => ml (g x y) := (rfl)
@[simp] theorem x_eUn (g : D → Option D) (a : SE) : eUn g a ρ = mb (a ρ) fun x => ml (g x) := (rfl)
@[simp] theorem x_tV (a : SE) : tV a ρ = mb (a ρ) fun x => ml (asB x) := (rfl)
@[simp] theorem x_tAn (a b : ST) : tAn a b ρ = mb (a ρ) fun c => if c = true then b ρ else mp false := (rfl)
@[simp] theorem x_tOu (a b : ST) : tOu a b ρ = mb (a ρ) fun c => if c = true then mp true else b ρ := (rfl)
@[simp] theorem x_tNo (a : ST) : tNo a ρ = mb (a ρ) fun c => mp (!c) := (rfl)
@[simp] theorem x_eB (t : ST) : eB t ρ = mb (t ρ) fun c => mp (.bool c) := (rfl)
@[simp] theorem x_eIf (t : ST) (a b : SE) : eIf t a b ρ = mb (t ρ) fun c => if c = true then a ρ else b ρ := (rfl)
@[simp] theorem x_aNil : aNil ρ = mp [] := (rfl)
@[simp] theorem x_aCons (a : SE) (b : SA) : aCons a b ρ = mb (a ρ) fun x => mb (b ρ) fun xs => mp (x :: xs) := (rfl)
@[simp] theorem x_eTup (a : SA) : eTup a ρ = mb (a ρ) fun xs => if xs.length ≤ 1000 then mp (.tuple xs) else fun _ => none := (rfl)
@[simp] theorem x_eLst (a : SA) : eLst a ρ = mb (a ρ) fun xs => if xs.length ≤ 1000 then mp (.list xs) else fun _ => none := (rfl)
@[simp] theorem x_eCall (F : List D → Option D) (a : SA) : eCall F a ρ = mb (a ρ) fun xs => ml (F xs) := (rfl)
@[simp] theorem x_eCallM (F : List D → M D) (a : SA) : eCallM F a ρ = mb (a ρ) fun xs => F xs := (rfl)
@[simp] theorem x_sRet (f : SE) : sRet f ρ = mb (f ρ) fun d => mp (.ret d) := (rfl)
@[simp] theorem x_sSet (g : SG) (f : SE) : sSet g f ρ = mb (f ρ) fun d => mb (ml (g d ρ)) fun ρ' => mp (.nx ρ') := (rfl)
@[simp] theorem x_sIf (t : ST) (a b : SS) : sIf t a b ρ = mb (t ρ) fun c => if c = true then a ρ else b ρ := (rfl)
@[simp] theorem x_sNil : sNil ρ = mp (.nx ρ) := (rfl)
@[simp] theorem x_aPar2 (i j : Nat) (sa : SA) : aPar2 i j sa ρ = mb (sa ρ) fun ds => match ds with
  | [d, e] => mp (.nx ((ρ.set i (some d)).set j (some e)))
  | _ => fun _ => none := (rfl)
@[simp] theorem x_sFor (fi : SI) (t : SG) (b : SS) : sFor fi t b ρ = mb (fi ρ) fun ds => forL t b ds ρ := (rfl)
@[simp] theorem x_iSeq (f : SE) : iSeq f ρ = mb (f ρ) fun d => ml (items d) := (rfl)
@[simp] theorem x_iRg (g : List D → Option (List D)) (a : SA) : iRg g a ρ = mb (a ρ) fun ds => ml (g ds) := (rfl)
@[simp] theorem x_sApp (i : Nat) (f : SE) : sApp i f ρ = mb (f ρ) fun d => mb (ml (appAt i d ρ)) fun ρ' => mp (.nx ρ') := (rfl)
@[simp] theorem x_eComp (fi : SI) (t : SG) (tt : ST) (fe : SE) (vs : List Nat) : eComp fi t tt fe vs ρ = mb (fi ρ) fun ds => if ds.length ≤ big then mb (compL t tt fe (wipeD ρ vs) ds) fun ys => mp (.list ys) else fun _ => none := (rfl)
@[simp] theorem x_tYs : tYs ρ = mp true := (rfl)
@[simp] theorem x_gN (i : Nat) (d : D) : gN i d ρ = some (ρ.set i (some d)) := (rfl)
@[simp] theorem x_gsNil : gsNil [] ρ = some ρ := (rfl)
@[simp] theorem x_gsCons (t : SG) (u : SGs) (d : D) (r : List D) : gsCons t u (d :: r) ρ = (t d ρ).bind fun ρ1 => u r ρ1 := (rfl)
@[simp] theorem x_gT (n : Nat) (t : SGs) (ds : List D) : gT n t (.tuple ds) ρ = if ds.length = n then t ds ρ else none := (rfl)
@[simp] theorem x_eSl (te : SE) (tl th : SO) : eSl te tl th ρ = mb (te ρ) fun d => mb (tl ρ) fun lo => mb (th ρ) fun hi => match d with
  | .list xs => mp (.list (cutD xs lo hi))
  | .tuple xs => mp (.tuple (cutD xs lo hi))
  | _ => fun _ => none := (rfl)
@[simp] theorem x_oNo : oNo ρ = mp none := (rfl)
@[simp] theorem x_oSo (f : SE) : oSo f ρ = mb (f ρ) fun d => mb (ml (asI d)) fun i => mp (some i) := (rfl)
/-- statements in a row -/
@[simp] theorem x_sSeq (a b : SS) : sSeq a b ρ = mb (a ρ) fun r => match r with
  | .nx ρ' => b ρ'
  | .ct ρ' => mp (.ct ρ')
  | .ret d => mp (.ret d) := (rfl)
end
@[simp] theorem x_mba {α β γ : Type} (m : M α) (k : α → M β) (f : β → M γ) : mb (mb m k) f = mb m fun x => mb (k x) f := by
  funext h
  unfold mb
  cases m h with
  | none => rfl
  | some p => rfl
@[simp] theorem x_asB (b : Bool) : asB (.bool b) = some b := (rfl)
@[simp] theorem x_asI (b : Int) : asI (.int b) = some b := (rfl)
@[simp] theorem x_gAdd (i j : Int) : gAdd (.int i) (.int j) = some (.int (i + j)) := (rfl)
@[simp] theorem x_gSub (i j : Int) : gSub (.int i) (.int j) = some (.int (i - j)) := (rfl)
@[simp] theorem x_gNeg (i : Int) : gNeg (.int i) = some (.int (-i)) := (rfl)
@[simp] theorem x_gLt (i j : Int) : gLt (.int i) (.int j) = some (.bool (decide (i < j))) := (rfl)
@[simp] theorem x_gLe (i j : Int) : gLe (.int i) (.int j) = some (.bool (decide (i ≤ j))) := (rfl)
@[simp] theorem x_gGt (i j : Int) : gGt (.int i) (.int j) = some (.bool (decide (j < i))) := (rfl)
@[simp] theorem x_gGe (i j : Int) : gGe (.int i) (.int j) = some (.bool (decide (j ≤ i))) := (rfl)
@[simp] theorem x_gIxT (xs : List D) (i : Int) : gIx (.tuple xs) (.int i) = atI xs i := (rfl)
@[simp] theorem x_gIxL (xs : List D) (i : Int) : gIx (.list xs) (.int i) = atI xs i := (rfl)
@[simp] theorem x_fLenL (xs : List D) : fLen [.list xs] = some (.int xs.length) := (rfl)
@[simp] theorem x_fLenT (xs : List D) : fLen [.tuple xs] = some (.int xs.length) := (rfl)
@[simp] theorem x_fTupL (xs : List D) : fTup [.list xs] = some (.tuple xs) := (rfl)
@[simp] theorem x_fTupT (xs : List D) : fTup [.tuple xs] = some (.tuple xs) := (rfl)
@[simp] theorem x_fInt (i : Int) : fInt [.int i] = some (.int i) := (rfl)
@[simp] theorem x_fAbs (i : Int) : fAbs [.int i] = some (.int (if i < 0 then -i else i)) := (rfl)
@[simp] theorem x_itemsL (xs : List D) : items (.list xs) = some xs := (rfl)
@[simp] theorem x_itemsT (xs : List D) : items (.tuple xs) = some xs := (rfl)
@[simp] theorem x_gRevL (xs : List D) : gRev (.list xs) = some (.list xs.reverse) := (rfl)
@[simp] theorem x_gRevT (xs : List D) : gRev (.tuple xs) = some (.tuple xs.reverse) := (rfl)
@[simp] theorem x_gIsB (a b : Bool) : gIs (.bool a) (.bool b) = some (.bool (decide (a = b))) := (rfl)
@[simp] theorem x_gIsntB (a b : Bool) : gIsnt (.bool a) (.bool b) = some (.bool (!decide (a = b))) := (rfl)
@[simp] theorem x_gIsN (a : D) : gIs a .none = some (.bool (isNone a)) := (rfl)
@[simp] theorem x_gIsntN (a : D) : gIsnt a .none = some (.bool (!isNone a)) := (rfl)
/-- a small int -/
def Sm (i : Int) : Prop := -(2 ^ 60) < i ∧ i < 2 ^ 60
theorem x_mulr {i j : Int} (h : Sm j) : gMul (.int i) (.int j) = some (.int (i * j)) := gMul_r ⟨by unfold Sm at h; omega, by unfold Sm at h; omega⟩
theorem x_mull {i j : Int} (h : Sm i) : gMul (.int i) (.int j) = some (.int (i * j)) := gMul_l ⟨by unfold Sm at h; omega, by unfold Sm at h; omega⟩
/-- reading a slot -/
@[simp] theorem x_rd0 (d : Option D) (ρ : Lo) : rd 0 (d :: ρ) = d := by cases d <;> rfl
@[simp] theorem x_rdS (i : Nat) (d : Option D) (ρ : Lo) : rd (i + 1) (d :: ρ) = rd i ρ := by
  unfold rd
  rw [List.getElem?_cons_succ]
@[simp] theorem x_forN (t : SG) (b : SS) (ρ : Lo) : forL t b [] ρ = mp (.nx ρ) := (rfl)
/-- data that is flat enough -/
theorem okD_iff (d : D) : okD d = (d.canLay0 && decide (d.depth ≤ 60)) := (rfl)
@[simp] theorem ok_int (i : Int) : okD (.int i) = true := (rfl)
@[simp] theorem ok_bool (i : Bool) : okD (.bool i) = true := (rfl)
@[simp] theorem ok_none : okD .none = true := (rfl)
def okL (n : Nat) (ds : List D) : Bool := PyData.canLayAll0 ds && decide (PyData.depthAll ds ≤ n)
theorem ok_tup (ds : List D) : okD (.tuple ds) = okL 59 ds := by
  unfold okD okL
  simp only [PyData.canLay0, PyData.depth]
  congr 1
  exact decide_eq_decide.mpr (by omega)
theorem ok_lst (ds : List D) : okD (.list ds) = okL 59 ds := by
  unfold okD okL
  simp only [PyData.canLay0, PyData.depth]
  congr 1
  exact decide_eq_decide.mpr (by omega)
theorem okL_of {ds : List D} {n : Nat} (h : ∀ d ∈ ds, d.canLay0 = true ∧ d.depth ≤ n) : okL n ds = true := by
  unfold okL
  induction ds with
  | nil => simp [PyData.canLayAll0, PyData.depthAll]
  | cons d ds ih =>
    have h1 := h d List.mem_cons_self
    have h2 := ih fun x hx => h x (List.mem_cons_of_mem _ hx)
    simp only [Bool.and_eq_true, decide_eq_true_eq] at h2 ⊢
    simp only [PyData.canLayAll0, PyData.depthAll, h1.1, h2.1]
    exact ⟨rfl, by omega⟩
/-- ints in a row -/
theorem ok_tints (ns : List Int) : okD (.tuple (ns.map PyData.int)) = true := by
  rw [ok_tup]
  exact okL_of fun d hd => by
    obtain ⟨n, _, rfl⟩ := List.mem_map.mp hd
    exact ⟨rfl, by show 0 ≤ 59; omega⟩
theorem eqv_ints : ∀ ns ms : List Int, PyData.eqvAll (ns.map PyData.int) (ms.map PyData.int) = decide (ns = ms)
  | [], [] => by simp [PyData.eqvAll]
  | [], _ :: _ => by simp [PyData.eqvAll]
  | _ :: _, [] => by simp [PyData.eqvAll]
  | n :: ns, m :: ms => by
    simp only [List.map_cons, PyData.eqvAll, PyData.eqv, eqv_ints ns ms, List.cons.injEq, Bool.decide_and]
    congr 1
/-- a pair of ints, four ints -/
abbrev pg (x y : Int) : D := .tuple [.int x, .int y]
abbrev q4 (a b c d : Int) : D := .tuple [.int a, .int b, .int c, .int d]
@[simp] theorem ok_pg (x y : Int) : okD (pg x y) = true := ok_tints [x, y]
@[simp] theorem ok_q4 (a b c d : Int) : okD (q4 a b c d) = true := ok_tints [a, b, c, d]
@[simp] theorem xeq_i (i j : Int) : gEq (.int i) (.int j) = some (.bool (decide (i = j))) := (rfl)
@[simp] theorem xne_i (i j : Int) : gNe (.int i) (.int j) = some (.bool (!decide (i = j))) := (rfl)
theorem eqv_pg (x y x' y' : Int) : PyData.eqv (pg x y) (pg x' y') = decide (x = x' ∧ y = y') := by
  have := eqv_ints [x, y] [x', y']
  simpa [PyData.eqv] using this
theorem eqv_q4 (a b c d a' b' c' d' : Int) : PyData.eqv (q4 a b c d) (q4 a' b' c' d') = decide (a = a' ∧ b = b' ∧ c = c' ∧ d = d') := by
  have := eqv_ints [a, b, c, d] [a', b', c', d']
  simpa [PyData.eqv] using this
@[simp] theorem xeq_pg (x y x' y' : Int) : gEq (pg x y) (pg x' y') = some (.bool (decide (x = x' ∧ y = y'))) := by
  unfold gEq; rw [ok_pg, ok_pg, eqv_pg]; rfl
@[simp] theorem xne_pg (x y x' y' : Int) : gNe (pg x y) (pg x' y') = some (.bool (!decide (x = x' ∧ y = y'))) := by
  unfold gNe; rw [ok_pg, ok_pg, eqv_pg]; rfl
@[simp] theorem xeq_q4 (a b c d a' b' c' d' : Int) : gEq (q4 a b c d) (q4 a' b' c' d') = some (.bool (decide (a = a' ∧ b = b' ∧ c = c' ∧ d = d'))) := by
  unfold gEq; rw [ok_q4, ok_q4, eqv_q4]; rfl
/-- in a pair of ints -/
@[simp] theorem xin_pg (i x y : Int) : gIn (.int i) (pg x y) = some (.bool (decide (i = x ∨ i = y))) := by
  unfold gIn
  simp only [x_itemsT, ok_pg, ok_int, Bool.and_self, if_true, List.any_cons, List.any_nil, PyData.eqv, Bool.or_false]
  congr 2
  simp only [eq_comm (a := i), Bool.decide_or]
  rfl
end PL
namespace PL
open PySem PySem.Spec PyProof.Rows L2
section
variable {α : Type} (a b c d : α) (xs : List α)
@[simp] theorem at_0 : atI (a :: xs) 0 = some a := atI_nat (j := 0) rfl
@[simp] theorem at_1 : atI (a :: b :: xs) 1 = some b := atI_nat (j := 1) rfl
@[simp] theorem at_2 : atI (a :: b :: c :: xs) 2 = some c := atI_nat (j := 2) rfl
@[simp] theorem at_3 : atI (a :: b :: c :: d :: xs) 3 = some d := atI_nat (j := 3) rfl
end
theorem at_map {α β : Type} {f : α → β} {l : List α} {i : Nat} {x : α} (h : l[i]? = some x) : atI (l.map f) (i : Int) = some (f x) := atI_nat (by rw [List.getElem?_map, h]; rfl)
/-- a comprehension over a walked list whose turn is known -/
theorem compL_map {t : SG} {tt : ST} {fe : SE} {ρ : Lo} {α : Type} {enc : α → D} {g : α → D} {h : List Int} : ∀ {ds : List α},
    (∀ d ∈ ds, ∃ ρ1, t (enc d) ρ = some ρ1 ∧ tt ρ1 h = some (true, h) ∧ fe ρ1 h = some (g d, h)) → compL t tt fe ρ (ds.map enc) h = some (ds.map g, h)
  | [], _ => rfl
  | d :: ds, H => by
    obtain ⟨ρ1, e1, e2, e3⟩ := H d List.mem_cons_self
    have ih := compL_map (ds := ds) fun x hx => H x (List.mem_cons_of_mem _ hx)
    show mb (ml (t (enc d) ρ)) _ h = _
    rw [e1]
    show mb (tt ρ1) _ h = _
    rw [mb_eq e2]
    show mb (fe ρ1) _ h = _
    rw [mb_eq e3, mb_eq ih]
    rfl
theorem asInts_map (ns : List Int) : asInts (ns.map PyData.int) = some ns := by
  induction ns with
  | nil => rfl
  | cons n ns ih => show (asInts (ns.map PyData.int)).map (n :: ·) = _; rw [ih]; rfl
theorem asBls_map (ns : List Bool) : asBls (ns.map PyData.bool) = some ns := by
  induction ns with
  | nil => rfl
  | cons n ns ih => show (asBls (ns.map PyData.bool)).map (n :: ·) = _; rw [ih]; rfl
end PL
namespace PL
open PySem PySem.Spec PyProof.Rows L2
theorem kit_tt : kitB "tuple" "tuple" = some true := by decide +kernel
theorem kit_ii : kitB "int" "int" = some true := by decide +kernel
theorem kit_ib : kitB "int" "bool" = some false := by decide +kernel
theorem kit_bb : kitB "bool" "bool" = some true := by decide +kernel
theorem kit_bi : kitB "bool" "int" = some true := by decide +kernel
theorem kit_ti : kitB "tuple" "int" = some false := by decide +kernel
theorem kit_li : kitB "list" "int" = some false := by decide +kernel
theorem kit_it : kitB "int" "tuple" = some false := by decide +kernel
theorem kit_lt : kitB "list" "tuple" = some false := by decide +kernel
theorem kit_ll : kitB "list" "list" = some true := by decide +kernel
theorem kit_tl : kitB "tuple" "list" = some false := by decide +kernel
theorem kit_tb : kitB "tuple" "bool" = some false := by decide +kernel
theorem kit_lb : kitB "list" "bool" = some false := by decide +kernel
theorem kit_ss : kitB "str" "str" = some true := by decide +kernel
@[simp] theorem isi_tt (xs : List D) : gIsi "tuple" (.tuple xs) = some (.bool true) := by show (kitB "tuple" "tuple").map _ = _; rw [kit_tt]; rfl
@[simp] theorem isi_ii (i : Int) : gIsi "int" (.int i) = some (.bool true) := by show (kitB "int" "int").map _ = _; rw [kit_ii]; rfl
@[simp] theorem isi_ib (i : Int) : gIsi "bool" (.int i) = some (.bool false) := by show (kitB "int" "bool").map _ = _; rw [kit_ib]; rfl
@[simp] theorem isi_ss (i : Str) : gIsi "str" (.str i) = some (.bool true) := by show (kitB "str" "str").map _ = _; rw [kit_ss]; rfl
@[simp] theorem isi_it (i : Int) : gIsi "tuple" (.int i) = some (.bool false) := by show (kitB "int" "tuple").map _ = _; rw [kit_it]; rfl
end PL

namespace K40
open PySem PySem.Spec PyProof.Rows L2 PL
def topS (i : Nat) : Stmt := PySem.Challenge.pw_pegfigures_k40_whole_parts_as_turnings.main.body.getD i (.Pass ⟨0, 0, 0, 0⟩)
abbrev s_is_whole : Stmt := topS 1
abbrev N_is_whole : List Str := ["value"]
theorem sc_is_whole : FnScope N_is_whole ["value"] (defScope s_is_whole) := ⟨rfl, rfl, rfl, by decide +kernel, rfl, by decide +kernel, by decide +kernel⟩
abbrev s_is_numbers : Stmt := topS 2
abbrev N_is_numbers : List Str := ["value", "size", "item"]
theorem sc_is_numbers : FnScope N_is_numbers ["value", "size"] (defScope s_is_numbers) := ⟨rfl, rfl, rfl, by decide +kernel, rfl, by decide +kernel, by decide +kernel⟩
abbrev s_cross : Stmt := topS 4
abbrev N_cross : List Str := ["a", "b", "c"]
theorem sc_cross : FnScope N_cross ["a", "b", "c"] (defScope s_cross) := ⟨rfl, rfl, rfl, by decide +kernel, rfl, by decide +kernel, by decide +kernel⟩
abbrev s_turns_to : Stmt := topS 6
abbrev N_turns_to : List Str := ["peg", "p", "q", "found"]
theorem sc_turns_to : FnScope N_turns_to ["peg"] (defScope s_turns_to) := ⟨rfl, rfl, rfl, by decide +kernel, rfl, by decide +kernel, by decide +kernel⟩
abbrev s_of_turns : Stmt := topS 7
abbrev N_of_turns : List Str := ["numbers", "p", "q", "number"]
theorem sc_of_turns : FnScope N_of_turns ["numbers"] (defScope s_of_turns) := ⟨rfl, rfl, rfl, by decide +kernel, rfl, by decide +kernel, by decide +kernel⟩
abbrev s_nearest_row : Stmt := topS 8
abbrev N_nearest_row : List Str := ["peg", "numbers", "k"]
theorem sc_nearest_row : FnScope N_nearest_row ["peg"] (defScope s_nearest_row) := ⟨rfl, rfl, rfl, by decide +kernel, rfl, by decide +kernel, by decide +kernel⟩
abbrev s_size_of : Stmt := topS 9
abbrev N_size_of : List Str := ["one", "two"]
theorem sc_size_of : FnScope N_size_of ["one", "two"] (defScope s_size_of) := ⟨rfl, rfl, rfl, by decide +kernel, rfl, by decide +kernel, by decide +kernel⟩
abbrev s_is_turning : Stmt := topS 11
abbrev N_is_turning : List Str := ["value"]
theorem sc_is_turning : FnScope N_is_turning ["value"] (defScope s_is_turning) := ⟨rfl, rfl, rfl, by decide +kernel, rfl, by decide +kernel, by decide +kernel⟩
abbrev s_turned_peg : Stmt := topS 12
abbrev N_turned_peg : List Str := ["turning", "peg", "a", "b", "c", "d"]
theorem sc_turned_peg : FnScope N_turned_peg ["turning", "peg"] (defScope s_turned_peg) := ⟨rfl, rfl, rfl, by decide +kernel, rfl, by decide +kernel, by decide +kernel⟩
abbrev s_then : Stmt := topS 13
abbrev N_then : List Str := ["one", "two", "rows"]
theorem sc_then : FnScope N_then ["one", "two"] (defScope s_then) := ⟨rfl, rfl, rfl, by decide +kernel, rfl, by decide +kernel, by decide +kernel⟩
abbrev s_undone : Stmt := topS 14
abbrev N_undone : List Str := ["turning", "a", "b", "c", "d", "size"]
theorem sc_undone : FnScope N_undone ["turning"] (defScope s_undone) := ⟨rfl, rfl, rfl, by decide +kernel, rfl, by decide +kernel, by decide +kernel⟩
abbrev s_is_basis : Stmt := topS 15
abbrev N_is_basis : List Str := ["one", "two"]
theorem sc_is_basis : FnScope N_is_basis ["one", "two"] (defScope s_is_basis) := ⟨rfl, rfl, rfl, by decide +kernel, rfl, by decide +kernel, by decide +kernel⟩
abbrev s__law_cell : Stmt := topS 17
abbrev N__law_cell : List Str := ["script", "k"]
theorem sc__law_cell : FnScope N__law_cell ["script", "k"] (defScope s__law_cell) := ⟨rfl, rfl, rfl, by decide +kernel, rfl, by decide +kernel, by decide +kernel⟩
abbrev s__law_draws : Stmt := topS 18
abbrev N__law_draws : List Str := ["cell", "amount", "rows", "left", "k", "blended"]
theorem sc__law_draws : FnScope N__law_draws ["cell", "amount"] (defScope s__law_draws) := ⟨rfl, rfl, rfl, by decide +kernel, rfl, by decide +kernel, by decide +kernel⟩
abbrev s__law_pool : Stmt := topS 19
abbrev N__law_pool : List Str := ["script", "rows", "k"]
theorem sc__law_pool : FnScope N__law_pool ["script"] (defScope s__law_pool) := ⟨rfl, rfl, rfl, by decide +kernel, rfl, by decide +kernel, by decide +kernel⟩
abbrev s__law_pick : Stmt := topS 20
abbrev N__law_pick : List Str := ["pool", "amount", "at", "turn"]
theorem sc__law_pick : FnScope N__law_pick ["pool", "amount"] (defScope s__law_pick) := ⟨rfl, rfl, rfl, by decide +kernel, rfl, by decide +kernel, by decide +kernel⟩
abbrev s__law_gcd : Stmt := topS 21
abbrev N__law_gcd : List Str := ["a", "b"]
theorem sc__law_gcd : FnScope N__law_gcd ["a", "b"] (defScope s__law_gcd) := ⟨rfl, rfl, rfl, by decide +kernel, rfl, by decide +kernel, by decide +kernel⟩
abbrev s_law : Stmt := topS 22
abbrev N_law : List Str := ["script", "pool", "p", "q", "size", "numbers", "rows", "here", "before", "k", "peg"]
theorem sc_law : FnScope N_law ["script"] (defScope s_law) := ⟨rfl, rfl, rfl, by decide +kernel, rfl, by decide +kernel, by decide +kernel⟩
structure Tx (K : PySem.W.Frag) (mg : Str → Option Value) where
  a_is_whole : Addr
  d_is_whole : FuncData
  F_is_whole : Fun K "is_whole" "is_whole" s_is_whole a_is_whole d_is_whole
  m_is_whole : mg "is_whole" = some (.ref a_is_whole)
  b_is_whole : L2.Binds K d_is_whole ["value"] []
  a_is_numbers : Addr
  d_is_numbers : FuncData
  F_is_numbers : Fun K "is_numbers" "is_numbers" s_is_numbers a_is_numbers d_is_numbers
  m_is_numbers : mg "is_numbers" = some (.ref a_is_numbers)
  b_is_numbers : L2.Binds K d_is_numbers ["value", "size"] []
  a_cross : Addr
  d_cross : FuncData
  F_cross : Fun K "cross" "cross" s_cross a_cross d_cross
  m_cross : mg "cross" = some (.ref a_cross)
  b_cross : L2.Binds K d_cross ["a", "b", "c"] []
  a_turns_to : Addr
  d_turns_to : FuncData
  F_turns_to : Fun K "turns_to" "turns_to" s_turns_to a_turns_to d_turns_to
  m_turns_to : mg "turns_to" = some (.ref a_turns_to)
  b_turns_to : L2.Binds K d_turns_to ["peg"] []
  a_of_turns : Addr
  d_of_turns : FuncData
  F_of_turns : Fun K "of_turns" "of_turns" s_of_turns a_of_turns d_of_turns
  m_of_turns : mg "of_turns" = some (.ref a_of_turns)
  b_of_turns : L2.Binds K d_of_turns ["numbers"] []
  a_nearest_row : Addr
  d_nearest_row : FuncData
  F_nearest_row : Fun K "nearest_row" "nearest_row" s_nearest_row a_nearest_row d_nearest_row
  m_nearest_row : mg "nearest_row" = some (.ref a_nearest_row)
  b_nearest_row : L2.Binds K d_nearest_row ["peg"] []
  a_size_of : Addr
  d_size_of : FuncData
  F_size_of : Fun K "size_of" "size_of" s_size_of a_size_of d_size_of
  m_size_of : mg "size_of" = some (.ref a_size_of)
  b_size_of : L2.Binds K d_size_of ["one", "two"] []
  a_is_turning : Addr
  d_is_turning : FuncData
  F_is_turning : Fun K "is_turning" "is_turning" s_is_turning a_is_turning d_is_turning
  m_is_turning : mg "is_turning" = some (.ref a_is_turning)
  b_is_turning : L2.Binds K d_is_turning ["value"] []
  a_turned_peg : Addr
  d_turned_peg : FuncData
  F_turned_peg : Fun K "turned_peg" "turned_peg" s_turned_peg a_turned_peg d_turned_peg
  m_turned_peg : mg "turned_peg" = some (.ref a_turned_peg)
  b_turned_peg : L2.Binds K d_turned_peg ["turning", "peg"] []
  a_then : Addr
  d_then : FuncData
  F_then : Fun K "then" "then" s_then a_then d_then
  m_then : mg "then" = some (.ref a_then)
  b_then : L2.Binds K d_then ["one", "two"] []
  a_undone : Addr
  d_undone : FuncData
  F_undone : Fun K "undone" "undone" s_undone a_undone d_undone
  m_undone : mg "undone" = some (.ref a_undone)
  b_undone : L2.Binds K d_undone ["turning"] []
  a_is_basis : Addr
  d_is_basis : FuncData
  F_is_basis : Fun K "is_basis" "is_basis" s_is_basis a_is_basis d_is_basis
  m_is_basis : mg "is_basis" = some (.ref a_is_basis)
  b_is_basis : L2.Binds K d_is_basis ["one", "two"] []
  a__law_cell : Addr
  d__law_cell : FuncData
  F__law_cell : Fun K "_law_cell" "_law_cell" s__law_cell a__law_cell d__law_cell
  m__law_cell : mg "_law_cell" = some (.ref a__law_cell)
  b__law_cell : L2.Binds K d__law_cell ["script", "k"] []
  a__law_draws : Addr
  d__law_draws : FuncData
  F__law_draws : Fun K "_law_draws" "_law_draws" s__law_draws a__law_draws d__law_draws
  m__law_draws : mg "_law_draws" = some (.ref a__law_draws)
  b__law_draws : L2.Binds K d__law_draws ["cell", "amount"] []
  a__law_pool : Addr
  d__law_pool : FuncData
  F__law_pool : Fun K "_law_pool" "_law_pool" s__law_pool a__law_pool d__law_pool
  m__law_pool : mg "_law_pool" = some (.ref a__law_pool)
  b__law_pool : L2.Binds K d__law_pool ["script"] []
  a__law_pick : Addr
  d__law_pick : FuncData
  F__law_pick : Fun K "_law_pick" "_law_pick" s__law_pick a__law_pick d__law_pick
  m__law_pick : mg "_law_pick" = some (.ref a__law_pick)
  b__law_pick : L2.Binds K d__law_pick ["pool", "amount"] []
  a__law_gcd : Addr
  d__law_gcd : FuncData
  F__law_gcd : Fun K "_law_gcd" "_law_gcd" s__law_gcd a__law_gcd d__law_gcd
  m__law_gcd : mg "_law_gcd" = some (.ref a__law_gcd)
  b__law_gcd : L2.Binds K d__law_gcd ["a", "b"] []
  a_law : Addr
  d_law : FuncData
  F_law : Fun K "law" "law" s_law a_law d_law
  m_law : mg "law" = some (.ref a_law)
  b_law : L2.Binds K d_law ["script"] []
  z_abs : mg "abs" = none
  z_all : mg "all" = none
  z_bool : mg "bool" = none
  z_int : mg "int" = none
  z_isinstance : mg "isinstance" = none
  z_len : mg "len" = none
  z_max : mg "max" = none
  z_min : mg "min" = none
  z_range : mg "range" = none
  z_tuple : mg "tuple" = none
variable {P : Program} {w : World} {K : PySem.W.Frag} {mg : Str → Option Value} {base : Heap}
def b_is_whole (nn : Nat) : SS := (sRet (eB (tAn (tV (eUn (gIsi "int") (eVar 0))) (tV (eB (tNo (tV (eUn (gIsi "bool") (eVar 0)))))))))
def F_is_whole : List D → Option D := fun ds => retOf (b_is_whole big (startD 1 ds) [])
theorem ok_is_whole (T : Tx K mg) : FnOk P w K mg base CX0 1 T.a_is_whole T.d_is_whole ["value"] (spF K F_is_whole 1) :=
  fn_ok (N := N_is_whole) (oe := []) (fb := b_is_whole) T.F_is_whole sc_is_whole rfl (fun nn cdv A outer s H E hr => (ess_one (es_ret (ev_and (ev_isi (hv := hv_isinstance) (hvT := hv_int) T.z_isinstance T.z_int (ev_var 0)) (ev_one (ev_not (ev_isi (hv := hv_isinstance) (hvT := hv_bool) T.z_isinstance T.z_bool (ev_var 0)))))))) (fun ds r hl e => ⟨big, e⟩)
def b_is_numbers (nn : Nat) : SS := (sRet (eB (tAn (tV (eUn (gIsi "tuple") (eVar 0))) (tAn (tV (eOp gEq (eCall fLen (aCons (eVar 0) aNil)) (eVar 1))) (tV (eCall fAll (aCons (eComp (iSeq (eVar 0)) (gN 2) tYs (eCall F_is_whole (aCons (eVar 2) aNil)) [2]) aNil)))))))
def F_is_numbers : List D → Option D := fun ds => retOf (b_is_numbers big (startD 3 ds) [])
theorem ok_is_numbers (T : Tx K mg) : FnOk P w K mg base CX0 2 T.a_is_numbers T.d_is_numbers ["value", "size"] (spF K F_is_numbers 2) :=
  fn_ok (N := N_is_numbers) (oe := []) (fb := b_is_numbers) T.F_is_numbers sc_is_numbers rfl (fun nn cdv A outer s H E hr => (ess_one (es_ret (ev_and (ev_isi (hv := hv_isinstance) (hvT := hv_tuple) T.z_isinstance T.z_tuple (ev_var 0)) (ev_and (ev_cmp (os_eq hr.units) (ev_callB (hv := hv_len) cs_len T.z_len (ea_cons (ev_var 0) ea_nil)) (ev_var 1)) (ev_one (ev_callB (hv := hv_all) (cs_all rfl) T.z_all (ea_cons (ev_of_eo (eo_lc (own := [("item", 2)]) rfl sc_is_numbers.nd (ei_seq (ev_var 0)) (blkOk_by (own := [("item", 2)]) (N := N_is_numbers) (sc := defScope s_is_numbers) (by decide +kernel)) (fun _ _ _ _ _ => (eg_name 2 sc_is_numbers.nd ns0)) (fun _ _ _ _ _ => ets_nil) (fun _ _ _ _ _ => (ev_call (ok_is_whole T) (hr.mono (by decide)) T.m_is_whole T.F_is_whole.kp T.b_is_whole (ea_cons (ev_var 2) ea_nil) rfl (al_cons al_nil))) nsl0)) ea_nil)))))))) (fun ds r hl e => ⟨big, e⟩)
def b_cross (nn : Nat) : SS := (sRet (eOp gSub (eOp gMul (eOp gSub (eOp gIx (eVar 1) (eC (.int 0))) (eOp gIx (eVar 0) (eC (.int 0)))) (eOp gSub (eOp gIx (eVar 2) (eC (.int 1))) (eOp gIx (eVar 0) (eC (.int 1))))) (eOp gMul (eOp gSub (eOp gIx (eVar 1) (eC (.int 1))) (eOp gIx (eVar 0) (eC (.int 1)))) (eOp gSub (eOp gIx (eVar 2) (eC (.int 0))) (eOp gIx (eVar 0) (eC (.int 0)))))))
def F_cross : List D → Option D := fun ds => retOf (b_cross big (startD 3 ds) [])
theorem ok_cross (T : Tx K mg) : FnOk P w K mg base CX0 1 T.a_cross T.d_cross ["a", "b", "c"] (spF K F_cross 3) :=
  fn_ok (N := N_cross) (oe := []) (fb := b_cross) T.F_cross sc_cross rfl (fun nn cdv A outer s H E hr => (ess_one (es_ret (ev_op os_sub (ev_op os_mul (ev_op os_sub (ev_ix xs_ix (ev_var 1) ev_int) (ev_ix xs_ix (ev_var 0) ev_int)) (ev_op os_sub (ev_ix xs_ix (ev_var 2) ev_int) (ev_ix xs_ix (ev_var 0) ev_int))) (ev_op os_mul (ev_op os_sub (ev_ix xs_ix (ev_var 1) ev_int) (ev_ix xs_ix (ev_var 0) ev_int)) (ev_op os_sub (ev_ix xs_ix (ev_var 2) ev_int) (ev_ix xs_ix (ev_var 0) ev_int))))))) (fun ds r hl e => ⟨big, e⟩)
def l_turns_to_0 (nn : Nat) : SS := (sSeq (sApp 3 (eOp gFdiv (eVar 1) (eVar 2))) (aPar2 1 2 (aCons (eVar 2) (aCons (eOp gMod (eVar 1) (eVar 2)) aNil))))
def b_turns_to (nn : Nat) : SS := (sSeq (sSet (gT 2 (gsCons (gN 1) (gsCons (gN 2) gsNil))) (eVar 0)) (sSeq (sSet (gN 3) (eLst aNil)) (sSeq (sWh nn (tV (eOp gGt (eVar 2) (eC (.int 0)))) (l_turns_to_0 nn)) (sRet (eCall fTup (aCons (eVar 3) aNil))))))
def F_turns_to : List D → Option D := fun ds => retOf (b_turns_to big (startD 4 ds) [])
theorem ok_turns_to (T : Tx K mg) : FnOk P w K mg base CX0 1 T.a_turns_to T.d_turns_to ["peg"] (spF K F_turns_to 1) :=
  fn_ok (N := N_turns_to) (oe := []) (fb := b_turns_to) T.F_turns_to sc_turns_to rfl (fun nn cdv A outer s H E hr => (ess_cons (es_asg (ev_var 0) (eg_tup rfl (egs_cons (eg_name 1 sc_turns_to.nd ns0) (egs_cons (eg_name 2 sc_turns_to.nd ns0) egs_nil)))) (ess_cons (es_setO 3 sc_turns_to.nd ns0 (eo_lst ea_nil)) (ess_cons (es_wh nn .never (et_cmp os_gt (ev_var 2) ev_int) (ess_cons (es_app 3 (ev_op os_fdiv (ev_var 1) (ev_var 2))) (ess_one (es_par 1 2 rfl sc_turns_to.nd ns0 ns0 (ea_cons (ev_var 2) (ea_cons (ev_op os_mod (ev_var 1) (ev_var 2)) ea_nil)))))) (ess_fz [] (ess_one (es_ret (ev_callTy (hv := hv_tuple) cs_tup T.z_tuple (ea_cons (ev_var 3) ea_nil))))))))) (fun ds r hl e => ⟨big, e⟩)
def l_of_turns_0 (nn : Nat) : SS := (aPar2 1 2 (aCons (eOp gAdd (eOp gMul (eVar 3) (eVar 1)) (eVar 2)) (aCons (eVar 1) aNil)))
def b_of_turns (nn : Nat) : SS := (sSeq (sSet (gT 2 (gsCons (gN 1) (gsCons (gN 2) gsNil))) (eTup (aCons (eC (.int 1)) (aCons (eC (.int 0)) aNil)))) (sSeq (sFor (iSeq (eUn gRev (eVar 0))) (gN 3) (l_of_turns_0 nn)) (sRet (eTup (aCons (eVar 1) (aCons (eVar 2) aNil))))))
def F_of_turns : List D → Option D := fun ds => retOf (b_of_turns big (startD 4 ds) [])
theorem ok_of_turns (T : Tx K mg) : FnOk P w K mg base CX0 1 T.a_of_turns T.d_of_turns ["numbers"] (spF K F_of_turns 1) :=
  fn_ok (N := N_of_turns) (oe := []) (fb := b_of_turns) T.F_of_turns sc_of_turns rfl (fun nn cdv A outer s H E hr => (ess_cons (es_asg (ev_tup (ea_cons ev_int (ea_cons ev_int ea_nil))) (eg_tup rfl (egs_cons (eg_name 1 sc_of_turns.nd ns0) (egs_cons (eg_name 2 sc_of_turns.nd ns0) egs_nil)))) (ess_cons (es_for .never rfl (ei_seq (ev_rev (ev_var 0))) (eg_name 3 sc_of_turns.nd ns0) (ess_one (es_par 1 2 rfl sc_of_turns.nd ns0 ns0 (ea_cons (ev_op os_add (ev_op os_mul (ev_var 3) (ev_var 1)) (ev_var 2)) (ea_cons (ev_var 1) ea_nil))))) (ess_one (es_ret (ev_tup (ea_cons (ev_var 1) (ea_cons (ev_var 2) ea_nil)))))))) (fun ds r hl e => ⟨big, e⟩)
def b_nearest_row (nn : Nat) : SS := (sSeq (sSet (gN 1) (eCall F_turns_to (aCons (eVar 0) aNil))) (sRet (eComp (iRg rg1 (aCons (eCall fLen (aCons (eVar 1) aNil)) aNil)) (gN 2) tYs (eCall F_of_turns (aCons (eSl (eVar 1) oNo (oSo (eOp gAdd (eVar 2) (eC (.int 1))))) aNil)) [2])))
def F_nearest_row : List D → Option D := fun ds => retOf (b_nearest_row big (startD 3 ds) [])
theorem ok_nearest_row (T : Tx K mg) : FnOk P w K mg base CX0 2 T.a_nearest_row T.d_nearest_row ["peg"] (spF K F_nearest_row 1) :=
  fn_ok (N := N_nearest_row) (oe := []) (fb := b_nearest_row) T.F_nearest_row sc_nearest_row rfl (fun nn cdv A outer s H E hr => (ess_cons (es_set 1 sc_nearest_row.nd ns0 (ev_call (ok_turns_to T) (hr.mono (by decide)) T.m_turns_to T.F_turns_to.kp T.b_turns_to (ea_cons (ev_var 0) ea_nil) rfl (al_cons al_nil))) (ess_one (es_ret (ev_of_eo (eo_lc (own := [("k", 2)]) rfl sc_nearest_row.nd (ei_rg1 T.z_range (ea_cons (ev_callB (hv := hv_len) cs_len T.z_len (ea_cons (ev_var 1) ea_nil)) ea_nil)) (blkOk_by (own := [("k", 2)]) (N := N_nearest_row) (sc := defScope s_nearest_row) (by decide +kernel)) (fun _ _ _ _ _ => (eg_name 2 sc_nearest_row.nd ns0)) (fun _ _ _ _ _ => ets_nil) (fun _ _ _ _ _ => (ev_call (ok_of_turns T) (hr.mono (by decide)) T.m_of_turns T.F_of_turns.kp T.b_of_turns (ea_cons (ev_slice (ev_var 1) ep_no (ep_so (ev_op os_add (ev_var 2) ev_int))) ea_nil) rfl (al_cons al_nil))) nsl0)))))) (fun ds r hl e => ⟨big, e⟩)
def b_size_of (nn : Nat) : SS := (sRet (eCall fAbs (aCons (eCall F_cross (aCons (eTup (aCons (eC (.int 0)) (aCons (eC (.int 0)) aNil))) (aCons (eVar 0) (aCons (eVar 1) aNil)))) aNil)))
def F_size_of : List D → Option D := fun ds => retOf (b_size_of big (startD 2 ds) [])
theorem ok_size_of (T : Tx K mg) : FnOk P w K mg base CX0 2 T.a_size_of T.d_size_of ["one", "two"] (spF K F_size_of 2) :=
  fn_ok (N := N_size_of) (oe := []) (fb := b_size_of) T.F_size_of sc_size_of rfl (fun nn cdv A outer s H E hr => (ess_one (es_ret (ev_callB (hv := hv_abs) cs_abs T.z_abs (ea_cons (ev_call (ok_cross T) (hr.mono (by decide)) T.m_cross T.F_cross.kp T.b_cross (ea_cons (ev_tup (ea_cons ev_int (ea_cons ev_int ea_nil))) (ea_cons (ev_var 0) (ea_cons (ev_var 1) ea_nil))) rfl (al_cons (al_cons (al_cons al_nil)))) ea_nil))))) (fun ds r hl e => ⟨big, e⟩)
def b_is_turning (nn : Nat) : SS := (sRet (eB (tAn (tV (eCall F_is_numbers (aCons (eVar 0) (aCons (eC (.int 4)) aNil)))) (tV (eOp gIn (eOp gSub (eOp gMul (eOp gIx (eVar 0) (eC (.int 0))) (eOp gIx (eVar 0) (eC (.int 3)))) (eOp gMul (eOp gIx (eVar 0) (eC (.int 1))) (eOp gIx (eVar 0) (eC (.int 2))))) (eTup (aCons (eC (.int 1)) (aCons (eUn gNeg (eC (.int 1))) aNil))))))))
def F_is_turning : List D → Option D := fun ds => retOf (b_is_turning big (startD 1 ds) [])
theorem ok_is_turning (T : Tx K mg) : FnOk P w K mg base CX0 3 T.a_is_turning T.d_is_turning ["value"] (spF K F_is_turning 1) :=
  fn_ok (N := N_is_turning) (oe := []) (fb := b_is_turning) T.F_is_turning sc_is_turning rfl (fun nn cdv A outer s H E hr => (ess_one (es_ret (ev_and (ev_call (ok_is_numbers T) (hr.mono (by decide)) T.m_is_numbers T.F_is_numbers.kp T.b_is_numbers (ea_cons (ev_var 0) (ea_cons ev_int ea_nil)) rfl (al_cons (al_cons al_nil))) (ev_one (ev_cmp (os_in hr.units) (ev_op os_sub (ev_op os_mul (ev_ix xs_ix (ev_var 0) ev_int) (ev_ix xs_ix (ev_var 0) ev_int)) (ev_op os_mul (ev_ix xs_ix (ev_var 0) ev_int) (ev_ix xs_ix (ev_var 0) ev_int))) (ev_tup (ea_cons ev_int (ea_cons (ev_un us_neg ev_int) ea_nil))))))))) (fun ds r hl e => ⟨big, e⟩)
def b_turned_peg (nn : Nat) : SS := (sSeq (sSet (gT 4 (gsCons (gN 2) (gsCons (gN 3) (gsCons (gN 4) (gsCons (gN 5) gsNil))))) (eVar 0)) (sRet (eTup (aCons (eOp gAdd (eOp gMul (eVar 2) (eOp gIx (eVar 1) (eC (.int 0)))) (eOp gMul (eVar 3) (eOp gIx (eVar 1) (eC (.int 1))))) (aCons (eOp gAdd (eOp gMul (eVar 4) (eOp gIx (eVar 1) (eC (.int 0)))) (eOp gMul (eVar 5) (eOp gIx (eVar 1) (eC (.int 1))))) aNil)))))
def F_turned_peg : List D → Option D := fun ds => retOf (b_turned_peg big (startD 6 ds) [])
theorem ok_turned_peg (T : Tx K mg) : FnOk P w K mg base CX0 1 T.a_turned_peg T.d_turned_peg ["turning", "peg"] (spF K F_turned_peg 2) :=
  fn_ok (N := N_turned_peg) (oe := []) (fb := b_turned_peg) T.F_turned_peg sc_turned_peg rfl (fun nn cdv A outer s H E hr => (ess_cons (es_asg (ev_var 0) (eg_tup rfl (egs_cons (eg_name 2 sc_turned_peg.nd ns0) (egs_cons (eg_name 3 sc_turned_peg.nd ns0) (egs_cons (eg_name 4 sc_turned_peg.nd ns0) (egs_cons (eg_name 5 sc_turned_peg.nd ns0) egs_nil)))))) (ess_one (es_ret (ev_tup (ea_cons (ev_op os_add (ev_op os_mul (ev_var 2) (ev_ix xs_ix (ev_var 1) ev_int)) (ev_op os_mul (ev_var 3) (ev_ix xs_ix (ev_var 1) ev_int))) (ea_cons (ev_op os_add (ev_op os_mul (ev_var 4) (ev_ix xs_ix (ev_var 1) ev_int)) (ev_op os_mul (ev_var 5) (ev_ix xs_ix (ev_var 1) ev_int))) ea_nil))))))) (fun ds r hl e => ⟨big, e⟩)
def b_then (nn : Nat) : SS := (sSeq (sSet (gN 2) (eLst (aCons (eCall F_turned_peg (aCons (eVar 1) (aCons (eTup (aCons (eOp gIx (eVar 0) (eC (.int 0))) (aCons (eOp gIx (eVar 0) (eC (.int 2))) aNil))) aNil))) (aCons (eCall F_turned_peg (aCons (eVar 1) (aCons (eTup (aCons (eOp gIx (eVar 0) (eC (.int 1))) (aCons (eOp gIx (eVar 0) (eC (.int 3))) aNil))) aNil))) aNil)))) (sRet (eTup (aCons (eOp gIx (eOp gIx (eVar 2) (eC (.int 0))) (eC (.int 0))) (aCons (eOp gIx (eOp gIx (eVar 2) (eC (.int 1))) (eC (.int 0))) (aCons (eOp gIx (eOp gIx (eVar 2) (eC (.int 0))) (eC (.int 1))) (aCons (eOp gIx (eOp gIx (eVar 2) (eC (.int 1))) (eC (.int 1))) aNil)))))))
def F_then : List D → Option D := fun ds => retOf (b_then big (startD 3 ds) [])
theorem ok_then (T : Tx K mg) : FnOk P w K mg base CX0 2 T.a_then T.d_then ["one", "two"] (spF K F_then 2) :=
  fn_ok (N := N_then) (oe := []) (fb := b_then) T.F_then sc_then rfl (fun nn cdv A outer s H E hr => (ess_cons (es_set 2 sc_then.nd ns0 (ev_of_eo (eo_lst (ea_cons (ev_call (ok_turned_peg T) (hr.mono (by decide)) T.m_turned_peg T.F_turned_peg.kp T.b_turned_peg (ea_cons (ev_var 1) (ea_cons (ev_tup (ea_cons (ev_ix xs_ix (ev_var 0) ev_int) (ea_cons (ev_ix xs_ix (ev_var 0) ev_int) ea_nil))) ea_nil)) rfl (al_cons (al_cons al_nil))) (ea_cons (ev_call (ok_turned_peg T) (hr.mono (by decide)) T.m_turned_peg T.F_turned_peg.kp T.b_turned_peg (ea_cons (ev_var 1) (ea_cons (ev_tup (ea_cons (ev_ix xs_ix (ev_var 0) ev_int) (ea_cons (ev_ix xs_ix (ev_var 0) ev_int) ea_nil))) ea_nil)) rfl (al_cons (al_cons al_nil))) ea_nil))))) (ess_one (es_ret (ev_tup (ea_cons (ev_ix xs_ix (ev_ix xs_ix (ev_var 2) ev_int) ev_int) (ea_cons (ev_ix xs_ix (ev_ix xs_ix (ev_var 2) ev_int) ev_int) (ea_cons (ev_ix xs_ix (ev_ix xs_ix (ev_var 2) ev_int) ev_int) (ea_cons (ev_ix xs_ix (ev_ix xs_ix (ev_var 2) ev_int) ev_int) ea_nil))))))))) (fun ds r hl e => ⟨big, e⟩)
def b_undone (nn : Nat) : SS := (sSeq (sSet (gT 4 (gsCons (gN 1) (gsCons (gN 2) (gsCons (gN 3) (gsCons (gN 4) gsNil))))) (eVar 0)) (sSeq (sSet (gN 5) (eOp gSub (eOp gMul (eVar 1) (eVar 4)) (eOp gMul (eVar 2) (eVar 3)))) (sRet (eTup (aCons (eOp gMul (eVar 5) (eVar 4)) (aCons (eOp gMul (eUn gNeg (eVar 5)) (eVar 2)) (aCons (eOp gMul (eUn gNeg (eVar 5)) (eVar 3)) (aCons (eOp gMul (eVar 5) (eVar 1)) aNil))))))))
def F_undone : List D → Option D := fun ds => retOf (b_undone big (startD 6 ds) [])
theorem ok_undone (T : Tx K mg) : FnOk P w K mg base CX0 1 T.a_undone T.d_undone ["turning"] (spF K F_undone 1) :=
  fn_ok (N := N_undone) (oe := []) (fb := b_undone) T.F_undone sc_undone rfl (fun nn cdv A outer s H E hr => (ess_cons (es_asg (ev_var 0) (eg_tup rfl (egs_cons (eg_name 1 sc_undone.nd ns0) (egs_cons (eg_name 2 sc_undone.nd ns0) (egs_cons (eg_name 3 sc_undone.nd ns0) (egs_cons (eg_name 4 sc_undone.nd ns0) egs_nil)))))) (ess_cons (es_set 5 sc_undone.nd ns0 (ev_op os_sub (ev_op os_mul (ev_var 1) (ev_var 4)) (ev_op os_mul (ev_var 2) (ev_var 3)))) (ess_one (es_ret (ev_tup (ea_cons (ev_op os_mul (ev_var 5) (ev_var 4)) (ea_cons (ev_op os_mul (ev_un us_neg (ev_var 5)) (ev_var 2)) (ea_cons (ev_op os_mul (ev_un us_neg (ev_var 5)) (ev_var 3)) (ea_cons (ev_op os_mul (ev_var 5) (ev_var 1)) ea_nil)))))))))) (fun ds r hl e => ⟨big, e⟩)
def b_is_basis (nn : Nat) : SS := (sRet (eOp gIn (eCall F_cross (aCons (eTup (aCons (eC (.int 0)) (aCons (eC (.int 0)) aNil))) (aCons (eVar 0) (aCons (eVar 1) aNil)))) (eTup (aCons (eC (.int 1)) (aCons (eUn gNeg (eC (.int 1))) aNil)))))
def F_is_basis : List D → Option D := fun ds => retOf (b_is_basis big (startD 2 ds) [])
theorem ok_is_basis (T : Tx K mg) : FnOk P w K mg base CX0 2 T.a_is_basis T.d_is_basis ["one", "two"] (spF K F_is_basis 2) :=
  fn_ok (N := N_is_basis) (oe := []) (fb := b_is_basis) T.F_is_basis sc_is_basis rfl (fun nn cdv A outer s H E hr => (ess_one (es_ret (ev_cmp (os_in hr.units) (ev_call (ok_cross T) (hr.mono (by decide)) T.m_cross T.F_cross.kp T.b_cross (ea_cons (ev_tup (ea_cons ev_int (ea_cons ev_int ea_nil))) (ea_cons (ev_var 0) (ea_cons (ev_var 1) ea_nil))) rfl (al_cons (al_cons (al_cons al_nil)))) (ev_tup (ea_cons ev_int (ea_cons (ev_un us_neg ev_int) ea_nil))))))) (fun ds r hl e => ⟨big, e⟩)
def b__law_cell (nn : Nat) : SS := (sSeq (sIf (tV (eOp gLt (eVar 1) (eCall fLen (aCons (eVar 0) aNil)))) (sRet (eOp gIx (eVar 0) (eVar 1))) sNil) (sRet (eC (.int 0))))
def F__law_cell : List D → Option D := fun ds => retOf (b__law_cell big (startD 2 ds) [])
theorem ok__law_cell (T : Tx K mg) : FnOk P w K mg base CX0 1 T.a__law_cell T.d__law_cell ["script", "k"] (spF K F__law_cell 2) :=
  fn_ok (N := N__law_cell) (oe := []) (fb := b__law_cell) T.F__law_cell sc__law_cell rfl (fun nn cdv A outer s H E hr => (ess_cons (es_if (et_cmp (os_lt hr.units) (ev_var 1) (ev_callB (hv := hv_len) cs_len T.z_len (ea_cons (ev_var 0) ea_nil))) (ess_one (es_ret (ev_ix xs_ix (ev_var 0) (ev_var 1)))) ess_nil) (ess_one (es_ret ev_int)))) (fun ds r hl e => ⟨big, e⟩)
def l__law_draws_0 (nn : Nat) : SS := (sIf (tAn (tV (eOp gGe (eVar 0) (eOp gPow (eC (.int 10)) (eC (.int 18))))) (tV (eOp gGt (eVar 3) (eC (.int 0))))) (sSeq (sApp 2 (eOp gMod (eCall fInt (aCons (eVar 3) aNil)) (eC (.int 4096)))) (sSet (gN 3) (eOp gFdiv (eVar 3) (eC (.int 4096))))) (sSeq (sSet (gN 5) (eOp gMod (eCall fInt (aCons (eOp gAdd (eOp gMul (eVar 0) (eC (.int 48271))) (eOp gMul (eOp gAdd (eVar 4) (eC (.int 1))) (eC (.int 69621)))) aNil)) (eC (.int 2147483647)))) (sSeq (sSet (gN 5) (eOp gMod (eCall fInt (aCons (eOp gAdd (eOp gAdd (eOp gMul (eVar 5) (eVar 5)) (eOp gMul (eVar 5) (eC (.int 16807)))) (eOp gMul (eVar 4) (eC (.int 7919)))) aNil)) (eC (.int 2147483629)))) (sSeq (sSet (gN 5) (eOp gMod (eCall fInt (aCons (eOp gAdd (eOp gAdd (eOp gMul (eVar 5) (eVar 5)) (eVar 0)) (eOp gMul (eC (.int 13)) (eVar 4))) aNil)) (eC (.int 2147483587)))) (sApp 2 (eOp gMod (eOp gFdiv (eVar 5) (eC (.int 7))) (eC (.int 4096))))))))
def b__law_draws (nn : Nat) : SS := (sSeq (sSet (gN 2) (eLst aNil)) (sSeq (sSet (gN 3) (eVar 0)) (sSeq (sFor (iRg rg1 (aCons (eVar 1) aNil)) (gN 4) (l__law_draws_0 nn)) (sRet (eVar 2)))))
def F__law_draws : List D → Option D := fun ds => retOf (b__law_draws big (startD 6 ds) [])
theorem ok__law_draws (T : Tx K mg) : FnOk P w K mg base CX0 1 T.a__law_draws T.d__law_draws ["cell", "amount"] (spF K F__law_draws 2) :=
  fn_ok (N := N__law_draws) (oe := []) (fb := b__law_draws) T.F__law_draws sc__law_draws rfl (fun nn cdv A outer s H E hr => (ess_cons (es_setO 2 sc__law_draws.nd ns0 (eo_lst ea_nil)) (ess_cons (es_set 3 sc__law_draws.nd ns0 (ev_var 0)) (ess_cons (es_for .never rfl (ei_rg1 T.z_range (ea_cons (ev_var 1) ea_nil)) (eg_name 4 sc__law_draws.nd ns0) (ess_one (es_if (et_w (ew_and (et_cmp os_ge (ev_var 0) (ev_op os_pow ev_int ev_int)) (ew_and1 (et_cmp os_gt (ev_var 3) ev_int)))) (ess_cons (es_app 2 (ev_op os_mod (ev_callTy (hv := hv_int) cs_int T.z_int (ea_cons (ev_var 3) ea_nil)) ev_int)) (ess_one (es_set 3 sc__law_draws.nd ns0 (ev_op os_fdiv (ev_var 3) ev_int)))) (ess_cons (es_set 5 sc__law_draws.nd ns0 (ev_op os_mod (ev_callTy (hv := hv_int) cs_int T.z_int (ea_cons (ev_op os_add (ev_op os_mul (ev_var 0) ev_int) (ev_op os_mul (ev_op os_add (ev_var 4) ev_int) ev_int)) ea_nil)) ev_int)) (ess_cons (es_set 5 sc__law_draws.nd ns0 (ev_op os_mod (ev_callTy (hv := hv_int) cs_int T.z_int (ea_cons (ev_op os_add (ev_op os_add (ev_op os_mul (ev_var 5) (ev_var 5)) (ev_op os_mul (ev_var 5) ev_int)) (ev_op os_mul (ev_var 4) ev_int)) ea_nil)) ev_int)) (ess_cons (es_set 5 sc__law_draws.nd ns0 (ev_op os_mod (ev_callTy (hv := hv_int) cs_int T.z_int (ea_cons (ev_op os_add (ev_op os_add (ev_op os_mul (ev_var 5) (ev_var 5)) (ev_var 0)) (ev_op os_mul ev_int (ev_var 4))) ea_nil)) ev_int)) (ess_one (es_app 2 (ev_op os_mod (ev_op os_fdiv (ev_var 5) ev_int) ev_int))))))))) (ess_fz [] (ess_one (es_ret (ev_var 2)))))))) (fun ds r hl e => ⟨big, e⟩)
def l__law_gcd_0 (nn : Nat) : SS := (aPar2 0 1 (aCons (eVar 1) (aCons (eOp gMod (eCall fInt (aCons (eVar 0) aNil)) (eVar 1)) aNil)))
def b__law_gcd (nn : Nat) : SS := (sSeq (aPar2 0 1 (aCons (eCall fAbs (aCons (eVar 0) aNil)) (aCons (eCall fAbs (aCons (eVar 1) aNil)) aNil))) (sSeq (sWh nn (tV (eOp gNe (eVar 1) (eC (.int 0)))) (l__law_gcd_0 nn)) (sRet (eVar 0))))
def F__law_gcd : List D → Option D := fun ds => retOf (b__law_gcd big (startD 2 ds) [])
theorem ok__law_gcd (T : Tx K mg) : FnOk P w K mg base CX0 1 T.a__law_gcd T.d__law_gcd ["a", "b"] (spF K F__law_gcd 2) :=
  fn_ok (N := N__law_gcd) (oe := []) (fb := b__law_gcd) T.F__law_gcd sc__law_gcd rfl (fun nn cdv A outer s H E hr => (ess_cons (es_par 0 1 rfl sc__law_gcd.nd ns0 ns0 (ea_cons (ev_callB (hv := hv_abs) cs_abs T.z_abs (ea_cons (ev_var 0) ea_nil)) (ea_cons (ev_callB (hv := hv_abs) cs_abs T.z_abs (ea_cons (ev_var 1) ea_nil)) ea_nil))) (ess_cons (es_wh nn .never (et_cmp (os_ne hr.units) (ev_var 1) ev_int) (ess_one (es_par 0 1 rfl sc__law_gcd.nd ns0 ns0 (ea_cons (ev_var 1) (ea_cons (ev_op os_mod (ev_callTy (hv := hv_int) cs_int T.z_int (ea_cons (ev_var 0) ea_nil)) (ev_var 1)) ea_nil))))) (ess_one (es_ret (ev_var 0)))))) (fun ds r hl e => ⟨big, e⟩)
end K40

namespace K40
open PySem PySem.Spec PyProof.Rows L2 PL
variable {P : Program} {w : World} {K : PySem.W.Frag} {mg : Str → Option Value} {base : Heap}
abbrev G__law_pick : (List Int → Int → Int) → List D → M D := draw
theorem ok__law_pick (T : Tx K mg) : FnOk P w K mg base CX0 1 T.a__law_pick T.d__law_pick ["pool", "amount"] (spM K FAM draw 2) := by
  refine T.F__law_pick.ok sc__law_pick (fun vs H Q E h => h.1) (fun cdv A outer s H vs Q E hr h => ?_)
  obtain ⟨hv, Ω, vs', F, ds, r, h, h', hf, rfl, sF, da, orc, ocf, e, q⟩ := h
  match ds, vs', da, e with
  | [.int n], _, .cons (.int _) .nil, e =>
    obtain ⟨P0, R, C, rows, rfl, o1, o2, o3, n3, n2, l1, l2, hc, hn, q⟩ := pick_read hf sF orc ocf e q
    refine ⟨_, pss_cons (ps_set (i := 2) sc__law_pick.nd rfl (.inl rfl) (pe_ix ix_list (pe_ix ix_list (pv 0) pe_int (fun _ _ => rfl)) pe_int (fun _ _ => rfl)))
      (pss_cons (ps_asg (pe_op op_add (pv 2) pe_int) (pg_sub (pe_ix ix_list (pv 0) pe_int (fun _ _ => rfl)) pe_int set_list))
      (pss_cons (ps_set (i := 3) sc__law_pick.nd rfl (.inl rfl) (pe_op op_fdivN (pv 2) (pe_callB call_len_seq (by rfl) T.z_len hv_len (pa_cons (pe_ix ix_list (pv 0) pe_int (fun _ _ => rfl)) pa_nil))))
      (pss_one (ps_ret (pe_op op_modN (pe_callTy call_int1 (by rfl) T.z_int hv_int (pa_cons (pe_op op_add (pe_op op_add (pe_ix ix_list (pe_ix ix_list (pv 0) pe_int (fun _ _ => rfl))
        (pe_op op_modN (pv 2) (pe_callB call_len_seq (by rfl) T.z_len hv_len (pa_cons (pe_ix ix_list (pv 0) pe_int (fun _ _ => rfl)) pa_nil))) (fun _ _ => rfl)) (pe_op op_mul (pv 3) pe_int)) (pe_op op_mul (pv 3) (pv 2))) pa_nil)) (pv 1)))))), ?_⟩
    refine ⟨_, rfl, _, _, 1, _, rfl, rfl, SqL.of o1, atI1, _, _, 0, _, rfl, rfl, SqL.of o3, rfl, ?_⟩
    refine ⟨_, rfl, _, _, rfl, rfl, _, rfl, _, _, 1, _, rfl, rfl, SqL.of o1, atI1, _, _, 0, 0, rfl, rfl, o3, rfl, ?_⟩
    have p1 : (upd H C (.lst [.int ((h.length : Nat) + 1 : Int)])) Ω.adr = some (.lst [.ref R, .ref C]) := by rw [upd_ne n2]; exact o1
    have p2 : (upd H C (.lst [.int ((h.length : Nat) + 1 : Int)])) R = some (.lst (rows.map V.int)) := by rw [upd_ne n3]; exact o2
    have ll : (rows.map V.int).length = rows.length := by simp
    refine ⟨_, rfl, _, rfl, _, _, 0, _, rfl, rfl, SqL.of p1, atI0, _, _, rfl, .inl (SqL.of p2), _, _, rfl, rfl, ⟨by rw [ll]; omega, by rw [ll]; omega⟩, ?_⟩
    rw [← natdiv] at q
    have hm : h.length % rows.length < rows.length := Nat.mod_lt _ l1
    have gm : atI (rows.map V.int) ((h.length : Int).fmod (rows.length : Int)) = some (.int (rows.getD (h.length % rows.length) 0)) := by
      rw [natmod]
      refine atI_nat ?_
      rw [List.getElem?_map, List.getElem?_eq_getElem hm, List.getD_eq_getElem?_getD, List.getElem?_eq_getElem hm]
      rfl
    have hd : ((h.length / rows.length : Nat) : Int) ≤ (h.length : Nat) ∧ (0 : Int) ≤ ((h.length / rows.length : Nat) : Int) := ⟨by exact_mod_cast Nat.div_le_self _ _, Int.natCast_nonneg _⟩
    refine ⟨_, rfl, _, _, 0, _, rfl, rfl, SqL.of p1, atI0, _, rfl, _, rfl, _, _, 0, _, rfl, rfl, SqL.of p1, atI0, _, _, rfl, .inl (SqL.of p2), _, _, rfl, rfl, by rw [ll]; omega, _, _, _, _, rfl, rfl, SqL.of p2, by rw [ll]; exact gm, ?_⟩
    refine ⟨_, rfl, _, _, rfl, rfl, .inr ⟨by decide, by decide⟩, _, _, rfl, rfl, ?_⟩
    refine ⟨_, rfl, _, rfl, _, _, rfl, rfl, .inl ⟨by show _ < (Int.fdiv _ _); rw [ll, natdiv]; omega, by show (Int.fdiv _ _) < _; rw [ll, natdiv]; omega⟩, _, _, rfl, rfl, .inl ⟨_, rfl, _, rfl, _, _, rfl, rfl, by omega, ?_⟩⟩
    rw [ll]
    exact q
theorem cell_spec (ns : List Int) (k : Int) (hk : 0 ≤ k) : ∃ c, F__law_cell [.list (ns.map PyData.int), .int k] = some (.int c) := by
  unfold F__law_cell b__law_cell
  by_cases h : k < (ns.length : Int)
  · obtain ⟨j, rfl⟩ : ∃ j : Nat, k = j := ⟨k.toNat, by omega⟩
    have hj : j < ns.length := by omega
    refine ⟨ns[j], ?_⟩
    have e : atI (ns.map PyData.int) (j : Int) = some (PyData.int ns[j]) := by
      refine atI_nat ?_
      rw [List.getElem?_map, List.getElem?_eq_getElem hj]; rfl
    simp [sSeq, sIf, tV, eOp, eVar, eCall, aCons, aNil, rd, startD, mb, ml, mp, fLen, gLt, asB, sRet, gIx, e, retOf, h, hj]
  · refine ⟨0, ?_⟩
    simp [sSeq, sIf, tV, eOp, eVar, eCall, aCons, aNil, rd, startD, mb, ml, mp, fLen, gLt, asB, sRet, gIx, eC, sNil, retOf, h]
theorem draws_turn (c : Int) : ∀ (ds : List Int) (rs : List Int) (left : Int) (kk bb : Option D) (h : List Int), rs.length + ds.length ≤ 100 →
    ∃ (ns : List Int) (left' : Int) (kk' bb' : Option D), forL (gN 4) (sIf (tAn (tV (eOp gGe (eVar 0) (eOp gPow (eC (.int 10)) (eC (.int 18))))) (tV (eOp gGt (eVar 3) (eC (.int 0))))) (sSeq (sApp 2 (eOp gMod (eCall fInt (aCons (eVar 3) aNil)) (eC (.int 4096)))) (sSet (gN 3) (eOp gFdiv (eVar 3) (eC (.int 4096))))) (sSeq (sSet (gN 5) (eOp gMod (eCall fInt (aCons (eOp gAdd (eOp gMul (eVar 0) (eC (.int 48271))) (eOp gMul (eOp gAdd (eVar 4) (eC (.int 1))) (eC (.int 69621)))) aNil)) (eC (.int 2147483647)))) (sSeq (sSet (gN 5) (eOp gMod (eCall fInt (aCons (eOp gAdd (eOp gAdd (eOp gMul (eVar 5) (eVar 5)) (eOp gMul (eVar 5) (eC (.int 16807)))) (eOp gMul (eVar 4) (eC (.int 7919)))) aNil)) (eC (.int 2147483629)))) (sSeq (sSet (gN 5) (eOp gMod (eCall fInt (aCons (eOp gAdd (eOp gAdd (eOp gMul (eVar 5) (eVar 5)) (eVar 0)) (eOp gMul (eC (.int 13)) (eVar 4))) aNil)) (eC (.int 2147483587)))) (sApp 2 (eOp gMod (eOp gFdiv (eVar 5) (eC (.int 7))) (eC (.int 4096)))))))) (ds.map PyData.int) [some (.int c), some (.int 20), some (.list (rs.map PyData.int)), some (.int left), kk, bb] h
      = some (.nx [some (.int c), some (.int 20), some (.list (ns.map PyData.int)), some (.int left'), kk', bb'], h) ∧ ns.length = rs.length + ds.length := by
  intro ds
  induction ds with
  | nil => intro rs left kk bb h _; exact ⟨rs, left, kk, bb, rfl, by simp⟩
  | cons k ds ih =>
    intro rs left kk bb h hl
    have hb : rs.length ≤ big := by
      have : big = 1000000 := rfl
      simp at hl
      omega
    have hl' : ∀ x : Int, (rs ++ [x]).length + ds.length ≤ 100 := fun x => by simp at hl ⊢; omega
    have m1 : ∀ x : Int, -(2 ^ 64) < x.fmod 2147483647 ∧ x.fmod 2147483647 < 2 ^ 64 := fun x => by
      have a := Int.fmod_nonneg_of_pos x (show (0 : Int) < 2147483647 by decide)
      have b := Int.fmod_lt_of_pos x (show (0 : Int) < 2147483647 by decide)
      omega
    have m2 : ∀ x : Int, -(2 ^ 64) < x.fmod 2147483629 ∧ x.fmod 2147483629 < 2 ^ 64 := fun x => by
      have a := Int.fmod_nonneg_of_pos x (show (0 : Int) < 2147483629 by decide)
      have b := Int.fmod_lt_of_pos x (show (0 : Int) < 2147483629 by decide)
      omega
    by_cases hc : (1000000000000000000 : Int) ≤ c ∧ 0 < left
    · obtain ⟨ns, l', k', b', e, en⟩ := ih (rs ++ [left.fmod 4096]) (left.fdiv 4096) (some (.int k)) bb h (hl' _)
      refine ⟨ns, l', k', b', ?_, by rw [en]; simp; omega⟩
      rw [← e]
      simp [forL, gN, sIf, tAn, tV, eOp, eVar, eC, rd, mb, ml, mp, gGe, gPow, gGt, asB, hc.1, hc.2, sSeq, sApp, eCall, aCons, aNil, fInt, gMod, gFdiv, appAt, hb, sSet]
    · obtain ⟨x, ex⟩ : ∃ x : Int, x = ((((((c * 48271 + (k + 1) * 69621).fmod 2147483647) * ((c * 48271 + (k + 1) * 69621).fmod 2147483647) + ((c * 48271 + (k + 1) * 69621).fmod 2147483647) * 16807 + k * 7919).fmod 2147483629)) * (((((c * 48271 + (k + 1) * 69621).fmod 2147483647) * ((c * 48271 + (k + 1) * 69621).fmod 2147483647) + ((c * 48271 + (k + 1) * 69621).fmod 2147483647) * 16807 + k * 7919).fmod 2147483629)) + c + 13 * k).fmod 2147483587 := ⟨_, rfl⟩
      obtain ⟨ns, l', k', b', e, en⟩ := ih (rs ++ [(x.fdiv 7).fmod 4096]) left (some (.int k)) (some (.int x)) h (hl' _)
      refine ⟨ns, l', k', b', ?_, by rw [en]; simp; omega⟩
      rw [← e, ex]
      have t : tAn (tV (eOp gGe (eVar 0) (eOp gPow (eC (.int 10)) (eC (.int 18))))) (tV (eOp gGt (eVar 3) (eC (.int 0)))) [some (PyData.int c), some (.int 20), some (.list (rs.map PyData.int)), some (.int left), some (.int k), bb] h = some (false, h) := by
        by_cases h1 : (1000000000000000000 : Int) ≤ c
        · have h2 : ¬ 0 < left := fun z => hc ⟨h1, z⟩
          simp [tAn, tV, eOp, eVar, eC, rd, mb, ml, mp, gGe, gPow, gGt, asB, h1, h2]
        · simp [tAn, tV, eOp, eVar, eC, rd, mb, ml, mp, gGe, gPow, gGt, asB, h1]
      simp only [List.map_cons, forL, gN, mb_ml, List.set, sIf]
      rw [mb_mb_eq t, if_neg Bool.false_ne_true]
      simp [eOp, eVar, eC, rd, mb, ml, mp, sSeq, sApp, eCall, aCons, aNil, fInt, gMod_ok, gFdiv_ok, gAdd_i, gMul_r (i := c) (j := 48271) (by decide), gMul_r (j := 69621) (by decide), gMul_r (m1 _), gMul_r (m2 _), gMul_r (j := 16807) (by decide), gMul_r (j := 7919) (by decide), gMul_l (i := 13) (by decide), appAt, hb, sSet, gN]
theorem draws_spec (c : Int) : ∃ rows : List Int, F__law_draws [.int c, .int 20] = some (.list (rows.map PyData.int)) ∧ rows.length = 20 := by
  obtain ⟨ns, l', k', b', e, en⟩ := draws_turn c ((List.range 20).map fun i => ((i : Nat) : Int)) [] c none none [] (by simp)
  refine ⟨ns, ?_, by rw [en]; simp⟩
  have er : rgD 0 20 = ((List.range 20).map fun i => ((i : Nat) : Int)).map PyData.int := by simp [rgD]
  unfold F__law_draws b__law_draws l__law_draws_0
  simp only [sSeq, sSet, eLst, aNil, eVar, startD, sFor, iRg, aCons, rg1]
  simp [mb, ml, mp, rd, gN, small62, er] at e ⊢
  rw [e]
  simp [sRet, eVar, rd, mb, ml, mp, retOf]
theorem ok__law_pool (T : Tx K mg) : FnOk P w K mg base CX0 2 T.a__law_pool T.d__law_pool ["script"] (spPool K) := by
  refine T.F__law_pool.ok sc__law_pool (fun vs H Q E h => by obtain ⟨a, ns, rfl, _⟩ := h; rfl) (fun cdv A outer s H vs Q E hr h => ?_)
  obtain ⟨a, ns, rfl, hS, hl, q⟩ := h
  refine ⟨_, pss_cons (ps_set (i := 1) sc__law_pool.nd rfl (.inl rfl) (pe_lst pa_nil))
    (pss_cons (ps_for PassesOwn.never rfl (pi_range1 (by rfl) T.z_range (pa_cons (pe_callB (call_min2 rfl) (by rfl) T.z_min hv_min (pa_cons pe_int (pa_cons (pe_callB (call_max2 rfl) (by rfl) T.z_max hv_max (pa_cons pe_int (pa_cons (pe_callB call_len_seq (by rfl) T.z_len hv_len (pa_cons (pv 0) pa_nil)) pa_nil))) pa_nil))) pa_nil))
        (pg_name (i := 2) sc__law_pool.nd rfl (.inl rfl))
      (pss_one (ps_set (i := 1) sc__law_pool.nd rfl (.inl rfl) (pe_op op_catS (pv 1) (pe_call (ok__law_draws T) (hr.mono (by decide)) (by rfl) T.m__law_draws T.F__law_draws.kp T.b__law_draws .nil pass0
        (pa_cons (pe_op op_add (pe_call (ok__law_cell T) (hr.mono (by decide)) (by rfl) T.m__law_cell T.F__law_cell.kp T.b__law_cell .nil pass0 (pa_cons (pv 0) (pa_cons (pv 2) pa_nil))) (pe_op op_mul pe_int (pv 2))) (pa_cons pe_int pa_nil)))))))
    (pss_one (ps_ret (pe_lst (pa_cons (pv 1) (pa_cons (pe_lst (pa_cons pe_int pa_nil)) pa_nil)))))), ?_⟩
  refine ⟨Nat.zero_le _, fun r0 nr0 => ?_⟩
  have s0 : Same H (upd H r0 (.lst [])) := same_upd nr0
  refine ⟨.ref a, rfl, a, _, rfl, .inl (s0.seq hS), _, _, rfl, _, _, rfl, _, rfl, ?_⟩
  have ll : (ns.map V.int).length = ns.length := by simp
  rw [ll]
  generalize hm : (if (if ((ns.length : Nat) : Int) > 1 then ((ns.length : Nat) : Int) else 1) < 4 then (if ((ns.length : Nat) : Int) > 1 then ((ns.length : Nat) : Int) else 1) else 4) = m
  have hm1 : 1 ≤ m ∧ m ≤ 4 := by
    rw [← hm]
    split <;> split <;> omega
  refine ⟨by omega, by omega, for_range (lo := 0) (n := m.toNat) (fun i σ H2 => ∃ r ns' y, σ = [some (.ref a), some (.ref r), y] ∧ SqL K H2 a (ns.map V.int) ∧ H2 r = some (.lst (ns'.map V.int)) ∧ ns'.length = 20 * i)
    ⟨r0, [], none, rfl, s0.seq hS, upd_same, rfl⟩ (fun i σ H2 hi hP => ?_) (fun σ H2 hP => ?_)⟩
  · obtain ⟨r, ns', y, rfl, hA, hR, hlen⟩ := hP
    -- the empty frozen heap with the script's list alone is not needed: all that stands is frozen for these calls
    have e1 : (0 : Int) + (i : Nat) = (i : Nat) := by omega
    obtain ⟨c, hc⟩ := cell_spec ns ((0 : Int) + (i : Nat)) (by omega)
    obtain ⟨rows, hd, hrl⟩ := draws_spec (c + 7 * ((0 : Int) + (i : Nat)))
    refine ⟨.ref r, rfl, .ref a, rfl, .int (0 + (i : Nat)), rfl, rfl, H2, _, _, Same.refl _, .cons (.lst hA (DpAll_ints ns)) (.cons (.int _) .nil), hc, fun v F3 H3 s3 d3 => ?_⟩
    cases d3
    refine ⟨.int (0 + (i : Nat)), rfl, _, _, rfl, rfl, .inl ⟨by decide, by decide⟩, _, _, rfl, rfl, rfl, H3, _, _, Same.refl _, .cons (.int _) (.cons (.int _) .nil), hd, fun v F4 H4 s4 d4 => ?_⟩
    cases d4 with
    | lst sq da =>
      have ev := DpAll_ints_inv da
      subst ev
      have k4 := s3.kp.trans s4.kp
      refine ⟨_, _, _, _, rfl, rfl, SqL.of (k4 _ _ hR), s4.fh.seq sq, ?_, fun p np => ?_⟩
      · have : sizeLine = 16777216 := sizeLine_eq
        simp only [List.length_map]
        omega
      · refine ⟨p, ns' ++ rows, some (.int (0 + (i : Nat))), rfl, (same_upd np).seq (k4.seq hA), ?_, ?_⟩
        · rw [upd_same, List.map_append]
        · rw [List.length_append]; omega
  · obtain ⟨r, ns', y, rfl, hA, hR, hlen⟩ := hP
    refine ⟨.ref r, rfl, by show 1 ≤ sizeLine; have : sizeLine = 16777216 := sizeLine_eq; omega, fun C nC => ?_⟩
    refine ⟨by show 2 ≤ sizeLine; have : sizeLine = 16777216 := sizeLine_eq; omega, fun P0 nP => ?_⟩
    have rC : r ≠ C := ne_of_none hR nC
    have rP : r ≠ P0 := fun z => by subst z; rw [upd_ne rC, hR] at nP; cases nP
    have CP : C ≠ P0 := fun z => by subst z; rw [upd_same] at nP; cases nP
    refine q _ P0 r C ns' upd_same ?_ ?_ (Ne.symm rP) (Ne.symm CP) rC ?_ ?_
    · rw [upd_ne rP, upd_ne rC]; exact hR
    · rw [upd_ne CP, upd_same]
    · rw [hlen]; omega
    · rw [hlen]; omega
end K40

namespace K40
open PySem PySem.Spec PyProof.Rows L2 PL
variable {P : Program} {w : World} {K : PySem.W.Frag} {mg : Str → Option Value} {base : Heap}
def l_law_0 (o : List Int → Int → Int) (nn : Nat) : SS := (sSeq (sSet (gN 7) (eCall F_then (aCons (eTup (aCons (eOp gIx (eVar 5) (eVar 9)) (aCons (eC (.int 1)) (aCons (eC (.int 1)) (aCons (eC (.int 0)) aNil))))) (aCons (eVar 7) aNil)))) (sSeq (sSet (gN 10) (eTup (aCons (eOp gIx (eVar 7) (eC (.int 0))) (aCons (eOp gIx (eVar 7) (eC (.int 2))) aNil)))) (sSeq (sIf (tOu (tV (eOp gIsnt (eCall F_is_turning (aCons (eVar 7) aNil)) (eC (.bool true)))) (tOu (tV (eOp gNe (eVar 10) (eOp gIx (eVar 6) (eVar 9)))) (tOu (tV (eOp gNe (eTup (aCons (eOp gIx (eVar 7) (eC (.int 1))) (aCons (eOp gIx (eVar 7) (eC (.int 3))) aNil))) (eVar 8))) (tOu (tV (eOp gIsnt (eCall F_is_basis (aCons (eVar 10) (aCons (eVar 8) aNil))) (eC (.bool true)))) (tV (eOp gNe (eCall F_size_of (aCons (eVar 10) (aCons (eVar 8) aNil))) (eC (.int 1)))))))) (sRet (eC (.bool false))) sNil) (sSet (gN 8) (eVar 10)))))
def b_law (o : List Int → Int → Int) (nn : Nat) : SS := (sSeq (aPar2 2 3 (aCons (eCallM (G__law_pick o) (aCons (eC (.int 400)) aNil)) (aCons (eOp gAdd (eC (.int 1)) (eCallM (G__law_pick o) (aCons (eC (.int 400)) aNil))) aNil))) (sSeq (sSet (gN 4) (eCall F__law_gcd (aCons (eVar 2) (aCons (eVar 3) aNil)))) (sSeq (aPar2 2 3 (aCons (eOp gFdiv (eVar 2) (eVar 4)) (aCons (eOp gFdiv (eVar 3) (eVar 4)) aNil))) (sSeq (aPar2 5 6 (aCons (eCall F_turns_to (aCons (eTup (aCons (eVar 2) (aCons (eVar 3) aNil))) aNil)) (aCons (eCall F_nearest_row (aCons (eTup (aCons (eVar 2) (aCons (eVar 3) aNil))) aNil)) aNil))) (sSeq (sSet (gT 2 (gsCons (gN 7) (gsCons (gN 8) gsNil))) (eTup (aCons (eTup (aCons (eC (.int 1)) (aCons (eC (.int 0)) (aCons (eC (.int 0)) (aCons (eC (.int 1)) aNil))))) (aCons (eTup (aCons (eC (.int 1)) (aCons (eC (.int 0)) aNil))) aNil)))) (sSeq (sIf (tOu (tV (eOp gNe (eCall fLen (aCons (eVar 6) aNil)) (eCall fLen (aCons (eVar 5) aNil)))) (tV (eOp gNe (eCall F_of_turns (aCons (eVar 5) aNil)) (eTup (aCons (eVar 2) (aCons (eVar 3) aNil)))))) (sRet (eC (.bool false))) sNil) (sSeq (sFor (iRg rg1 (aCons (eCall fLen (aCons (eVar 5) aNil)) aNil)) (gN 9) (l_law_0 o nn)) (sSeq (sIf (tOu (tV (eOp gNe (eCall F_turned_peg (aCons (eVar 7) (aCons (eTup (aCons (eC (.int 1)) (aCons (eC (.int 0)) aNil))) aNil))) (eTup (aCons (eVar 2) (aCons (eVar 3) aNil))))) (tV (eOp gNe (eCall F_turned_peg (aCons (eCall F_undone (aCons (eVar 7) aNil)) (aCons (eTup (aCons (eVar 2) (aCons (eVar 3) aNil))) aNil))) (eTup (aCons (eC (.int 1)) (aCons (eC (.int 0)) aNil)))))) (sRet (eC (.bool false))) sNil) (sRet (eB (tAn (tV (eOp gEq (eCall F_then (aCons (eVar 7) (aCons (eCall F_undone (aCons (eVar 7) aNil)) aNil))) (eTup (aCons (eC (.int 1)) (aCons (eC (.int 0)) (aCons (eC (.int 0)) (aCons (eC (.int 1)) aNil))))))) (tV (eOp gEq (eCall F_then (aCons (eCall F_undone (aCons (eVar 7) aNil)) (aCons (eVar 7) aNil))) (eTup (aCons (eC (.int 1)) (aCons (eC (.int 0)) (aCons (eC (.int 0)) (aCons (eC (.int 1)) aNil))))))))))))))))))
/-- what is left: the law's run gives True, whatever is drawn -/
def LawSpec : Prop := ∀ o, Fair o → ∃ nn h', b_law o nn (List.replicate 11 none) [] = some (.ret (.bool true), h')
theorem ok_law (T : Tx K mg) (LS : LawSpec) : FnOk P w K mg base CX0 4 T.a_law T.d_law ["script"] (spLaw K) := by
  refine T.F_law.ok sc_law (fun vs H Q E h => by obtain ⟨a, ns, rfl, _⟩ := h; rfl) (fun cdv A outer s H vs Q E hr h => ?_)
  obtain ⟨a, ns, rfl, hS, hl, q⟩ := h
  refine ⟨_, pss_cons (ps_set (i := 1) sc_law.nd rfl (by first | exact .inl rfl | exact .inr rfl) (pe_call (ok__law_pool T) (hr.mono (by decide)) (by rfl) T.m__law_pool T.F__law_pool.kp T.b__law_pool .nil pass0 (pa_cons (pv 0) pa_nil))) wss, ?_⟩
  refine ⟨.ref a, rfl, a, ns, rfl, hS, hl, fun H' P0 R C rows o1 o2 o3 n1 n2 n3 l1 l2 => ?_⟩
  have hf : FAM (mkOrc P0 R C rows) := ⟨P0, R, C, rows, rfl, n1, n2, n3, l1, l2⟩
  obtain ⟨nn, h', e⟩ := LS _ hf.fair
  have body : ESs (cxOf CX0 P w K mg base N_law "law" (defScope s_law) T.a_law cdv A outer s H E).nox ((mkOrc P0 R C rows).at 1) [] [] (defBody s_law).tail [] (b_law (mkOrc P0 R C rows).o nn) := (ess_cons (es_par 2 3 rfl sc_law.nd ns1 ns1 (ea_cons (ev_callM (ok__law_pick T) (hr.mono (by decide)) T.m__law_pick T.F__law_pick.kp T.b__law_pick hf (ea_cons ev_int ea_nil) (al1 (al_cons al_nil))) (ea_cons (ev_op os_add ev_int (ev_callM (ok__law_pick T) (hr.mono (by decide)) T.m__law_pick T.F__law_pick.kp T.b__law_pick hf (ea_cons ev_int ea_nil) (al1 (al_cons al_nil)))) ea_nil))) (ess_cons (es_set 4 sc_law.nd ns1 (ev_call (ok__law_gcd T) (hr.mono (by decide)) T.m__law_gcd T.F__law_gcd.kp T.b__law_gcd (ea_cons (ev_var 2) (ea_cons (ev_var 3) ea_nil)) rfl (al_cons (al_cons al_nil)))) (ess_cons (es_par 2 3 rfl sc_law.nd ns1 ns1 (ea_cons (ev_op os_fdiv (ev_var 2) (ev_var 4)) (ea_cons (ev_op os_fdiv (ev_var 3) (ev_var 4)) ea_nil))) (ess_cons (es_par 5 6 rfl sc_law.nd ns1 ns1 (ea_cons (ev_call (ok_turns_to T) (hr.mono (by decide)) T.m_turns_to T.F_turns_to.kp T.b_turns_to (ea_cons (ev_tup (ea_cons (ev_var 2) (ea_cons (ev_var 3) ea_nil))) ea_nil) rfl (al_cons al_nil)) (ea_cons (ev_call (ok_nearest_row T) (hr.mono (by decide)) T.m_nearest_row T.F_nearest_row.kp T.b_nearest_row (ea_cons (ev_tup (ea_cons (ev_var 2) (ea_cons (ev_var 3) ea_nil))) ea_nil) rfl (al_cons al_nil)) ea_nil))) (ess_cons (es_asg (ev_tup (ea_cons (ev_tup (ea_cons ev_int (ea_cons ev_int (ea_cons ev_int (ea_cons ev_int ea_nil))))) (ea_cons (ev_tup (ea_cons ev_int (ea_cons ev_int ea_nil))) ea_nil))) (eg_tup rfl (egs_cons (eg_name 7 sc_law.nd ns1) (egs_cons (eg_name 8 sc_law.nd ns1) egs_nil)))) (ess_cons (es_if (et_w (ew_or (et_cmp (os_ne hr.units) (ev_callB (hv := hv_len) cs_len T.z_len (ea_cons (ev_var 6) ea_nil)) (ev_callB (hv := hv_len) cs_len T.z_len (ea_cons (ev_var 5) ea_nil))) (ew_or1 (et_cmp (os_ne hr.units) (ev_call (ok_of_turns T) (hr.mono (by decide)) T.m_of_turns T.F_of_turns.kp T.b_of_turns (ea_cons (ev_var 5) ea_nil) rfl (al_cons al_nil)) (ev_tup (ea_cons (ev_var 2) (ea_cons (ev_var 3) ea_nil))))))) (ess_one (es_ret ev_bl)) ess_nil) (ess_cons (es_for .never rfl (ei_rg1 T.z_range (ea_cons (ev_callB (hv := hv_len) cs_len T.z_len (ea_cons (ev_var 5) ea_nil)) ea_nil)) (eg_name 9 sc_law.nd ns1) (ess_cons (es_set 7 sc_law.nd ns1 (ev_call (ok_then T) (hr.mono (by decide)) T.m_then T.F_then.kp T.b_then (ea_cons (ev_tup (ea_cons (ev_ix xs_ix (ev_var 5) (ev_var 9)) (ea_cons ev_int (ea_cons ev_int (ea_cons ev_int ea_nil))))) (ea_cons (ev_var 7) ea_nil)) rfl (al_cons (al_cons al_nil)))) (ess_cons (es_set 10 sc_law.nd ns1 (ev_tup (ea_cons (ev_ix xs_ix (ev_var 7) ev_int) (ea_cons (ev_ix xs_ix (ev_var 7) ev_int) ea_nil)))) (ess_cons (es_if (et_w (ew_or (et_cmp os_isnt (ev_call (ok_is_turning T) (hr.mono (by decide)) T.m_is_turning T.F_is_turning.kp T.b_is_turning (ea_cons (ev_var 7) ea_nil) rfl (al_cons al_nil)) ev_bl) (ew_or (et_cmp (os_ne hr.units) (ev_var 10) (ev_ix xs_ix (ev_var 6) (ev_var 9))) (ew_or (et_cmp (os_ne hr.units) (ev_tup (ea_cons (ev_ix xs_ix (ev_var 7) ev_int) (ea_cons (ev_ix xs_ix (ev_var 7) ev_int) ea_nil))) (ev_var 8)) (ew_or (et_cmp os_isnt (ev_call (ok_is_basis T) (hr.mono (by decide)) T.m_is_basis T.F_is_basis.kp T.b_is_basis (ea_cons (ev_var 10) (ea_cons (ev_var 8) ea_nil)) rfl (al_cons (al_cons al_nil))) ev_bl) (ew_or1 (et_cmp (os_ne hr.units) (ev_call (ok_size_of T) (hr.mono (by decide)) T.m_size_of T.F_size_of.kp T.b_size_of (ea_cons (ev_var 10) (ea_cons (ev_var 8) ea_nil)) rfl (al_cons (al_cons al_nil))) ev_int))))))) (ess_one (es_ret ev_bl)) ess_nil) (ess_one (es_set 8 sc_law.nd ns1 (ev_var 10))))))) (ess_cons (es_if (et_w (ew_or (et_cmp (os_ne hr.units) (ev_call (ok_turned_peg T) (hr.mono (by decide)) T.m_turned_peg T.F_turned_peg.kp T.b_turned_peg (ea_cons (ev_var 7) (ea_cons (ev_tup (ea_cons ev_int (ea_cons ev_int ea_nil))) ea_nil)) rfl (al_cons (al_cons al_nil))) (ev_tup (ea_cons (ev_var 2) (ea_cons (ev_var 3) ea_nil)))) (ew_or1 (et_cmp (os_ne hr.units) (ev_call (ok_turned_peg T) (hr.mono (by decide)) T.m_turned_peg T.F_turned_peg.kp T.b_turned_peg (ea_cons (ev_call (ok_undone T) (hr.mono (by decide)) T.m_undone T.F_undone.kp T.b_undone (ea_cons (ev_var 7) ea_nil) rfl (al_cons al_nil)) (ea_cons (ev_tup (ea_cons (ev_var 2) (ea_cons (ev_var 3) ea_nil))) ea_nil)) rfl (al_cons (al_cons al_nil))) (ev_tup (ea_cons ev_int (ea_cons ev_int ea_nil))))))) (ess_one (es_ret ev_bl)) ess_nil) (ess_one (es_ret (ev_and (ev_cmp (os_eq hr.units) (ev_call (ok_then T) (hr.mono (by decide)) T.m_then T.F_then.kp T.b_then (ea_cons (ev_var 7) (ea_cons (ev_call (ok_undone T) (hr.mono (by decide)) T.m_undone T.F_undone.kp T.b_undone (ea_cons (ev_var 7) ea_nil) rfl (al_cons al_nil)) ea_nil)) rfl (al_cons (al_cons al_nil))) (ev_tup (ea_cons ev_int (ea_cons ev_int (ea_cons ev_int (ea_cons ev_int ea_nil)))))) (ev_one (ev_cmp (os_eq hr.units) (ev_call (ok_then T) (hr.mono (by decide)) T.m_then T.F_then.kp T.b_then (ea_cons (ev_call (ok_undone T) (hr.mono (by decide)) T.m_undone T.F_undone.kp T.b_undone (ea_cons (ev_var 7) ea_nil) rfl (al_cons al_nil)) (ea_cons (ev_var 7) ea_nil)) rfl (al_cons (al_cons al_nil))) (ev_tup (ea_cons ev_int (ea_cons ev_int (ea_cons ev_int (ea_cons ev_int ea_nil))))))))))))))))))
  refine body _ _ _ _ _ _ _ _ _ _ (SR.law (Ω := mkOrc P0 R C rows) rfl rfl ⟨o1, o2, o3⟩) e ?_
  intro v F' H' _ _ dv
  cases dv
  exact q _
end K40

namespace K40
open PySem PySem.Spec PyProof.Rows L2 PL
variable {P : Program} {w : World} {K : PySem.W.Frag} {mg : Str → Option Value} {base : Heap}
theorem all_mk {l : PySem.W.OpenLaw} {w : World} {K : PySem.W.Frag} {h : Heap} {mg : Str → Option Value} {fa : Addr} (LS : LawSpec) (X : K.In h) (G : h.Ns mainGlobals mg) (hfa : mg "law" = some (.ref fa))
    {f0 : Addr} {od0 an0 : Option Addr} {sl0 : Array (Option Value)} {oc0 kV0 dc0 pm0 cd0 ct0 : Value}
    {f1 : Addr} {od1 an1 : Option Addr} {sl1 : Array (Option Value)} {oc1 kV1 dc1 pm1 cd1 ct1 : Value}
    {f2 : Addr} {od2 an2 : Option Addr} {sl2 : Array (Option Value)} {oc2 kV2 dc2 pm2 cd2 ct2 : Value}
    {f3 : Addr} {od3 an3 : Option Addr} {sl3 : Array (Option Value)} {oc3 kV3 dc3 pm3 cd3 ct3 : Value}
    {f4 : Addr} {od4 an4 : Option Addr} {sl4 : Array (Option Value)} {oc4 kV4 dc4 pm4 cd4 ct4 : Value}
    {f5 : Addr} {od5 an5 : Option Addr} {sl5 : Array (Option Value)} {oc5 kV5 dc5 pm5 cd5 ct5 : Value}
    {f6 : Addr} {od6 an6 : Option Addr} {sl6 : Array (Option Value)} {oc6 kV6 dc6 pm6 cd6 ct6 : Value}
    {f7 : Addr} {od7 an7 : Option Addr} {sl7 : Array (Option Value)} {oc7 kV7 dc7 pm7 cd7 ct7 : Value}
    {f8 : Addr} {od8 an8 : Option Addr} {sl8 : Array (Option Value)} {oc8 kV8 dc8 pm8 cd8 ct8 : Value}
    {f9 : Addr} {od9 an9 : Option Addr} {sl9 : Array (Option Value)} {oc9 kV9 dc9 pm9 cd9 ct9 : Value}
    {f10 : Addr} {od10 an10 : Option Addr} {sl10 : Array (Option Value)} {oc10 kV10 dc10 pm10 cd10 ct10 : Value}
    {f11 : Addr} {od11 an11 : Option Addr} {sl11 : Array (Option Value)} {oc11 kV11 dc11 pm11 cd11 ct11 : Value}
    {f12 : Addr} {od12 an12 : Option Addr} {sl12 : Array (Option Value)} {oc12 kV12 dc12 pm12 cd12 ct12 : Value}
    {f13 : Addr} {od13 an13 : Option Addr} {sl13 : Array (Option Value)} {oc13 kV13 dc13 pm13 cd13 ct13 : Value}
    {f14 : Addr} {od14 an14 : Option Addr} {sl14 : Array (Option Value)} {oc14 kV14 dc14 pm14 cd14 ct14 : Value}
    {f15 : Addr} {od15 an15 : Option Addr} {sl15 : Array (Option Value)} {oc15 kV15 dc15 pm15 cd15 ct15 : Value}
    {f16 : Addr} {od16 an16 : Option Addr} {sl16 : Array (Option Value)} {oc16 kV16 dc16 pm16 cd16 ct16 : Value}
    {f17 : Addr} {od17 an17 : Option Addr} {sl17 : Array (Option Value)} {oc17 kV17 dc17 pm17 cd17 ct17 : Value}
    (a0 : PySem.W.nsIn K mainGlobals "is_whole" = some (some (.ref f0))) (l0 : K.lookup f0 = some ⟨oc0, od0, .func (PySem.W.fnOf "is_whole" "is_whole" (defArgs s_is_whole) (defBody s_is_whole) (defScope s_is_whole) .none kV0 dc0 pm0 an0 cd0 ct0), sl0⟩) (c0 : PySem.W.codeIn K cd0 "is_whole" = true) (k0 : PySem.W.keepIn K (.ref f0) = true)
    (a1 : PySem.W.nsIn K mainGlobals "is_numbers" = some (some (.ref f1))) (l1 : K.lookup f1 = some ⟨oc1, od1, .func (PySem.W.fnOf "is_numbers" "is_numbers" (defArgs s_is_numbers) (defBody s_is_numbers) (defScope s_is_numbers) .none kV1 dc1 pm1 an1 cd1 ct1), sl1⟩) (c1 : PySem.W.codeIn K cd1 "is_numbers" = true) (k1 : PySem.W.keepIn K (.ref f1) = true)
    (a2 : PySem.W.nsIn K mainGlobals "cross" = some (some (.ref f2))) (l2 : K.lookup f2 = some ⟨oc2, od2, .func (PySem.W.fnOf "cross" "cross" (defArgs s_cross) (defBody s_cross) (defScope s_cross) .none kV2 dc2 pm2 an2 cd2 ct2), sl2⟩) (c2 : PySem.W.codeIn K cd2 "cross" = true) (k2 : PySem.W.keepIn K (.ref f2) = true)
    (a3 : PySem.W.nsIn K mainGlobals "turns_to" = some (some (.ref f3))) (l3 : K.lookup f3 = some ⟨oc3, od3, .func (PySem.W.fnOf "turns_to" "turns_to" (defArgs s_turns_to) (defBody s_turns_to) (defScope s_turns_to) .none kV3 dc3 pm3 an3 cd3 ct3), sl3⟩) (c3 : PySem.W.codeIn K cd3 "turns_to" = true) (k3 : PySem.W.keepIn K (.ref f3) = true)
    (a4 : PySem.W.nsIn K mainGlobals "of_turns" = some (some (.ref f4))) (l4 : K.lookup f4 = some ⟨oc4, od4, .func (PySem.W.fnOf "of_turns" "of_turns" (defArgs s_of_turns) (defBody s_of_turns) (defScope s_of_turns) .none kV4 dc4 pm4 an4 cd4 ct4), sl4⟩) (c4 : PySem.W.codeIn K cd4 "of_turns" = true) (k4 : PySem.W.keepIn K (.ref f4) = true)
    (a5 : PySem.W.nsIn K mainGlobals "nearest_row" = some (some (.ref f5))) (l5 : K.lookup f5 = some ⟨oc5, od5, .func (PySem.W.fnOf "nearest_row" "nearest_row" (defArgs s_nearest_row) (defBody s_nearest_row) (defScope s_nearest_row) .none kV5 dc5 pm5 an5 cd5 ct5), sl5⟩) (c5 : PySem.W.codeIn K cd5 "nearest_row" = true) (k5 : PySem.W.keepIn K (.ref f5) = true)
    (a6 : PySem.W.nsIn K mainGlobals "size_of" = some (some (.ref f6))) (l6 : K.lookup f6 = some ⟨oc6, od6, .func (PySem.W.fnOf "size_of" "size_of" (defArgs s_size_of) (defBody s_size_of) (defScope s_size_of) .none kV6 dc6 pm6 an6 cd6 ct6), sl6⟩) (c6 : PySem.W.codeIn K cd6 "size_of" = true) (k6 : PySem.W.keepIn K (.ref f6) = true)
    (a7 : PySem.W.nsIn K mainGlobals "is_turning" = some (some (.ref f7))) (l7 : K.lookup f7 = some ⟨oc7, od7, .func (PySem.W.fnOf "is_turning" "is_turning" (defArgs s_is_turning) (defBody s_is_turning) (defScope s_is_turning) .none kV7 dc7 pm7 an7 cd7 ct7), sl7⟩) (c7 : PySem.W.codeIn K cd7 "is_turning" = true) (k7 : PySem.W.keepIn K (.ref f7) = true)
    (a8 : PySem.W.nsIn K mainGlobals "turned_peg" = some (some (.ref f8))) (l8 : K.lookup f8 = some ⟨oc8, od8, .func (PySem.W.fnOf "turned_peg" "turned_peg" (defArgs s_turned_peg) (defBody s_turned_peg) (defScope s_turned_peg) .none kV8 dc8 pm8 an8 cd8 ct8), sl8⟩) (c8 : PySem.W.codeIn K cd8 "turned_peg" = true) (k8 : PySem.W.keepIn K (.ref f8) = true)
    (a9 : PySem.W.nsIn K mainGlobals "then" = some (some (.ref f9))) (l9 : K.lookup f9 = some ⟨oc9, od9, .func (PySem.W.fnOf "then" "then" (defArgs s_then) (defBody s_then) (defScope s_then) .none kV9 dc9 pm9 an9 cd9 ct9), sl9⟩) (c9 : PySem.W.codeIn K cd9 "then" = true) (k9 : PySem.W.keepIn K (.ref f9) = true)
    (a10 : PySem.W.nsIn K mainGlobals "undone" = some (some (.ref f10))) (l10 : K.lookup f10 = some ⟨oc10, od10, .func (PySem.W.fnOf "undone" "undone" (defArgs s_undone) (defBody s_undone) (defScope s_undone) .none kV10 dc10 pm10 an10 cd10 ct10), sl10⟩) (c10 : PySem.W.codeIn K cd10 "undone" = true) (k10 : PySem.W.keepIn K (.ref f10) = true)
    (a11 : PySem.W.nsIn K mainGlobals "is_basis" = some (some (.ref f11))) (l11 : K.lookup f11 = some ⟨oc11, od11, .func (PySem.W.fnOf "is_basis" "is_basis" (defArgs s_is_basis) (defBody s_is_basis) (defScope s_is_basis) .none kV11 dc11 pm11 an11 cd11 ct11), sl11⟩) (c11 : PySem.W.codeIn K cd11 "is_basis" = true) (k11 : PySem.W.keepIn K (.ref f11) = true)
    (a12 : PySem.W.nsIn K mainGlobals "_law_cell" = some (some (.ref f12))) (l12 : K.lookup f12 = some ⟨oc12, od12, .func (PySem.W.fnOf "_law_cell" "_law_cell" (defArgs s__law_cell) (defBody s__law_cell) (defScope s__law_cell) .none kV12 dc12 pm12 an12 cd12 ct12), sl12⟩) (c12 : PySem.W.codeIn K cd12 "_law_cell" = true) (k12 : PySem.W.keepIn K (.ref f12) = true)
    (a13 : PySem.W.nsIn K mainGlobals "_law_draws" = some (some (.ref f13))) (l13 : K.lookup f13 = some ⟨oc13, od13, .func (PySem.W.fnOf "_law_draws" "_law_draws" (defArgs s__law_draws) (defBody s__law_draws) (defScope s__law_draws) .none kV13 dc13 pm13 an13 cd13 ct13), sl13⟩) (c13 : PySem.W.codeIn K cd13 "_law_draws" = true) (k13 : PySem.W.keepIn K (.ref f13) = true)
    (a14 : PySem.W.nsIn K mainGlobals "_law_pool" = some (some (.ref f14))) (l14 : K.lookup f14 = some ⟨oc14, od14, .func (PySem.W.fnOf "_law_pool" "_law_pool" (defArgs s__law_pool) (defBody s__law_pool) (defScope s__law_pool) .none kV14 dc14 pm14 an14 cd14 ct14), sl14⟩) (c14 : PySem.W.codeIn K cd14 "_law_pool" = true) (k14 : PySem.W.keepIn K (.ref f14) = true)
    (a15 : PySem.W.nsIn K mainGlobals "_law_pick" = some (some (.ref f15))) (l15 : K.lookup f15 = some ⟨oc15, od15, .func (PySem.W.fnOf "_law_pick" "_law_pick" (defArgs s__law_pick) (defBody s__law_pick) (defScope s__law_pick) .none kV15 dc15 pm15 an15 cd15 ct15), sl15⟩) (c15 : PySem.W.codeIn K cd15 "_law_pick" = true) (k15 : PySem.W.keepIn K (.ref f15) = true)
    (a16 : PySem.W.nsIn K mainGlobals "_law_gcd" = some (some (.ref f16))) (l16 : K.lookup f16 = some ⟨oc16, od16, .func (PySem.W.fnOf "_law_gcd" "_law_gcd" (defArgs s__law_gcd) (defBody s__law_gcd) (defScope s__law_gcd) .none kV16 dc16 pm16 an16 cd16 ct16), sl16⟩) (c16 : PySem.W.codeIn K cd16 "_law_gcd" = true) (k16 : PySem.W.keepIn K (.ref f16) = true)
    (a17 : PySem.W.nsIn K mainGlobals "law" = some (some (.ref f17))) (l17 : K.lookup f17 = some ⟨oc17, od17, .func (PySem.W.fnOf "law" "law" (defArgs s_law) (defBody s_law) (defScope s_law) .none kV17 dc17 pm17 an17 cd17 ct17), sl17⟩) (c17 : PySem.W.codeIn K cd17 "law" = true) (k17 : PySem.W.keepIn K (.ref f17) = true)
    (z_abs : PySem.W.nsIn K mainGlobals "abs" = some none) (z_all : PySem.W.nsIn K mainGlobals "all" = some none) (z_bool : PySem.W.nsIn K mainGlobals "bool" = some none) (z_int : PySem.W.nsIn K mainGlobals "int" = some none) (z_isinstance : PySem.W.nsIn K mainGlobals "isinstance" = some none) (z_len : PySem.W.nsIn K mainGlobals "len" = some none) (z_max : PySem.W.nsIn K mainGlobals "max" = some none) (z_min : PySem.W.nsIn K mainGlobals "min" = some none) (z_range : PySem.W.nsIn K mainGlobals "range" = some none) (z_tuple : PySem.W.nsIn K mainGlobals "tuple" = some none) :
    ∃ fd : FuncData, (∀ (s : Shared) (v : Value), BindsTo s fd ⟨[v], []⟩ [("script", v)]) ∧ ∀ base : Heap, K.In base → base.Ns mainGlobals mg → FnOk l.prog w K mg base CX0 4 fa fd ["script"] (spLaw K) := by
  have e := hfa.symm.trans (PySem.W.mg_of X G a17)
  cases e
  have F0 := fun_mk (st := s_is_whole) l0 c0 k0
  have b0 := F0.binds (ps := ["value"]) fun _ _ _ _ _ _ us hl => match us, hl with | [_], _ => rfl
  have F1 := fun_mk (st := s_is_numbers) l1 c1 k1
  have b1 := F1.binds (ps := ["value", "size"]) fun _ _ _ _ _ _ us hl => match us, hl with | [_, _], _ => rfl
  have F2 := fun_mk (st := s_cross) l2 c2 k2
  have b2 := F2.binds (ps := ["a", "b", "c"]) fun _ _ _ _ _ _ us hl => match us, hl with | [_, _, _], _ => rfl
  have F3 := fun_mk (st := s_turns_to) l3 c3 k3
  have b3 := F3.binds (ps := ["peg"]) fun _ _ _ _ _ _ us hl => match us, hl with | [_], _ => rfl
  have F4 := fun_mk (st := s_of_turns) l4 c4 k4
  have b4 := F4.binds (ps := ["numbers"]) fun _ _ _ _ _ _ us hl => match us, hl with | [_], _ => rfl
  have F5 := fun_mk (st := s_nearest_row) l5 c5 k5
  have b5 := F5.binds (ps := ["peg"]) fun _ _ _ _ _ _ us hl => match us, hl with | [_], _ => rfl
  have F6 := fun_mk (st := s_size_of) l6 c6 k6
  have b6 := F6.binds (ps := ["one", "two"]) fun _ _ _ _ _ _ us hl => match us, hl with | [_, _], _ => rfl
  have F7 := fun_mk (st := s_is_turning) l7 c7 k7
  have b7 := F7.binds (ps := ["value"]) fun _ _ _ _ _ _ us hl => match us, hl with | [_], _ => rfl
  have F8 := fun_mk (st := s_turned_peg) l8 c8 k8
  have b8 := F8.binds (ps := ["turning", "peg"]) fun _ _ _ _ _ _ us hl => match us, hl with | [_, _], _ => rfl
  have F9 := fun_mk (st := s_then) l9 c9 k9
  have b9 := F9.binds (ps := ["one", "two"]) fun _ _ _ _ _ _ us hl => match us, hl with | [_, _], _ => rfl
  have F10 := fun_mk (st := s_undone) l10 c10 k10
  have b10 := F10.binds (ps := ["turning"]) fun _ _ _ _ _ _ us hl => match us, hl with | [_], _ => rfl
  have F11 := fun_mk (st := s_is_basis) l11 c11 k11
  have b11 := F11.binds (ps := ["one", "two"]) fun _ _ _ _ _ _ us hl => match us, hl with | [_, _], _ => rfl
  have F12 := fun_mk (st := s__law_cell) l12 c12 k12
  have b12 := F12.binds (ps := ["script", "k"]) fun _ _ _ _ _ _ us hl => match us, hl with | [_, _], _ => rfl
  have F13 := fun_mk (st := s__law_draws) l13 c13 k13
  have b13 := F13.binds (ps := ["cell", "amount"]) fun _ _ _ _ _ _ us hl => match us, hl with | [_, _], _ => rfl
  have F14 := fun_mk (st := s__law_pool) l14 c14 k14
  have b14 := F14.binds (ps := ["script"]) fun _ _ _ _ _ _ us hl => match us, hl with | [_], _ => rfl
  have F15 := fun_mk (st := s__law_pick) l15 c15 k15
  have b15 := F15.binds (ps := ["pool", "amount"]) fun _ _ _ _ _ _ us hl => match us, hl with | [_, _], _ => rfl
  have F16 := fun_mk (st := s__law_gcd) l16 c16 k16
  have b16 := F16.binds (ps := ["a", "b"]) fun _ _ _ _ _ _ us hl => match us, hl with | [_, _], _ => rfl
  have F17 := fun_mk (st := s_law) l17 c17 k17
  have b17 := F17.binds (ps := ["script"]) fun _ _ _ _ _ _ us hl => match us, hl with | [_], _ => rfl
  exact ⟨_, fun s v => .of_eq rfl, fun base _ _ => ok_law ⟨_, _, F0, PySem.W.mg_of X G a0, b0, _, _, F1, PySem.W.mg_of X G a1, b1, _, _, F2, PySem.W.mg_of X G a2, b2, _, _, F3, PySem.W.mg_of X G a3, b3, _, _, F4, PySem.W.mg_of X G a4, b4, _, _, F5, PySem.W.mg_of X G a5, b5, _, _, F6, PySem.W.mg_of X G a6, b6, _, _, F7, PySem.W.mg_of X G a7, b7, _, _, F8, PySem.W.mg_of X G a8, b8, _, _, F9, PySem.W.mg_of X G a9, b9, _, _, F10, PySem.W.mg_of X G a10, b10, _, _, F11, PySem.W.mg_of X G a11, b11, _, _, F12, PySem.W.mg_of X G a12, b12, _, _, F13, PySem.W.mg_of X G a13, b13, _, _, F14, PySem.W.mg_of X G a14, b14, _, _, F15, PySem.W.mg_of X G a15, b15, _, _, F16, PySem.W.mg_of X G a16, b16, _, _, F17, PySem.W.mg_of X G a17, b17, PySem.W.mg_none_of X G z_abs, PySem.W.mg_none_of X G z_all, PySem.W.mg_none_of X G z_bool, PySem.W.mg_none_of X G z_int, PySem.W.mg_none_of X G z_isinstance, PySem.W.mg_none_of X G z_len, PySem.W.mg_none_of X G z_max, PySem.W.mg_none_of X G z_min, PySem.W.mg_none_of X G z_range, PySem.W.mg_none_of X G z_tuple⟩ LS⟩
end K40

namespace K40
open PySem PySem.Spec PyProof.Rows L2 PL
/-! ### the mathematics -/
def ts : Nat → Nat → List Nat
  | _, 0 => []
  | p, q + 1 => p / (q + 1) :: ts (q + 1) (p % (q + 1))
termination_by _ q => q
decreasing_by exact Nat.mod_lt _ (Nat.succ_pos q)
theorem ts_zero (p : Nat) : ts p 0 = [] := by unfold ts; rfl
theorem ts_pos (p q : Nat) (h : 0 < q) : ts p q = p / q :: ts q (p % q) := by
  obtain ⟨k, rfl⟩ : ∃ k, q = k + 1 := ⟨q - 1, by omega⟩
  rw [ts]
/-- the fraction of a row of turns -/
def ot : List Nat → Nat × Nat
  | [] => (1, 0)
  | n :: r => (n * (ot r).1 + (ot r).2, (ot r).1)
def iL (ns : List Nat) : List D := ns.map fun n => .int (n : Nat)
theorem iL_eq (ns : List Nat) : iL ns = (ns.map fun n => ((n : Nat) : Int)).map PyData.int := by simp [iL]
/-! ### the defs -/
theorem F_turns_to_eq (p q : Nat) (hp : p ≤ 1000) (hq : q ≤ 1000) : F_turns_to [pg p q] = some (.tuple (iL (ts p q))) := by
  have key : ∀ (q : Nat) (hq : q ≤ 1000) (p : Nat) (n : Nat) (acc : List Nat) (w : Option D) (h : List Int), q < n → acc.length + q ≤ 2000 →
      ∃ p', whL (tV (eOp gGt (eVar 2) (eC (.int 0)))) (sSeq (sApp 3 (eOp gFdiv (eVar 1) (eVar 2))) (aPar2 1 2 (aCons (eVar 2) (aCons (eOp gMod (eVar 1) (eVar 2)) aNil)))) n [w, some (.int (p : Nat)), some (.int (q : Nat)), some (.list (iL acc))] h =
        some (.nx [w, some p', some (.int 0), some (.list (iL (acc ++ ts p q)))], h) := by
    intro q
    induction q using Nat.strongRecOn with
    | ind q ih =>
      intro hq p n acc w h hn hl
      cases n with
      | zero => omega
      | succ n =>
        by_cases h0 : q = 0
        · subst h0
          refine ⟨.int (p : Nat), ?_⟩
          rw [ts_zero]
          simp [whL]
        · have hpos : 0 < q := Nat.pos_of_ne_zero h0
          have hlt : p % q < q := Nat.mod_lt _ hpos
          obtain ⟨p', e⟩ := ih (p % q) hlt (by omega) q n (acc ++ [p / q]) w h (by omega) (by simp; omega)
          refine ⟨p', ?_⟩
          rw [ts_pos p q hpos]
          have e1 : gFdiv (.int (p : Nat)) (.int (q : Nat)) = some (.int ((p / q : Nat) : Int)) := by
            rw [gFdiv_ok ⟨by omega, by omega⟩, natdiv]
          have e2 : gMod (.int (p : Nat)) (.int (q : Nat)) = some (.int ((p % q : Nat) : Int)) := by
            rw [gMod_ok (by omega), natmod]
          generalize p / q = a at *
          generalize p % q = b at *
          have e3 : appAt 3 (.int (a : Nat)) [w, some (.int (p : Nat)), some (.int (q : Nat)), some (.list (iL acc))] = some [w, some (.int (p : Nat)), some (.int (q : Nat)), some (.list (iL (acc ++ [a])))] := by
            have hb : acc.length ≤ big := by
              have : big = 1000000 := rfl
              omega
            simp [appAt, hb, iL]
          have hg : (0 : Int) < (q : Nat) := by omega
          simp only [List.append_assoc, List.singleton_append] at e
          simp [whL, hpos, e1, e2, e3, h0, e]
  obtain ⟨p', e⟩ := key q hq p big [] (some (pg p q)) [] (by have : big = 1000000 := rfl; omega) (by simp; omega)
  unfold F_turns_to b_turns_to l_turns_to_0
  have e' := e
  simp only [iL, List.map_nil, List.nil_append] at e'
  simp [startD, sWh, pg]
  rw [mb_eq e']
  simp [retOf, iL]
theorem ot_rev (ns : List Nat) : ∀ (p q : Nat) (w y : Option D) (h : List Int), (∀ n ∈ ns, n ≤ 1000) → ∃ y', forL (gN 3) (aPar2 1 2 (aCons (eOp gAdd (eOp gMul (eVar 3) (eVar 1)) (eVar 2)) (aCons (eVar 1) aNil))) (iL ns) [w, some (.int (p : Nat)), some (.int (q : Nat)), y] h =
    some (.nx [w, some (.int ((ns.foldl (fun (z : Nat × Nat) n => (n * z.1 + z.2, z.1)) (p, q)).1 : Nat)), some (.int ((ns.foldl (fun (z : Nat × Nat) n => (n * z.1 + z.2, z.1)) (p, q)).2 : Nat)), y'], h) := by
  induction ns with
  | nil => exact fun p q w y h _ => ⟨y, rfl⟩
  | cons n ns ih =>
    intro p q w y h hn
    obtain ⟨y', e⟩ := ih (n * p + q) p w (some (.int (n : Nat))) h fun x hx => hn x (List.mem_cons_of_mem _ hx)
    refine ⟨y', ?_⟩
    have hn1 := hn n List.mem_cons_self
    have e1 : gMul (.int (n : Nat)) (.int (p : Nat)) = some (.int ((n : Int) * (p : Int))) := x_mull (by unfold Sm; omega)
    rw [List.foldl_cons, ← e]
    simp [forL, iL, e1]
theorem ot_foldr (ns : List Nat) : ns.reverse.foldl (fun (z : Nat × Nat) n => (n * z.1 + z.2, z.1)) (1, 0) = ot ns := by
  induction ns with
  | nil => rfl
  | cons n ns ih => rw [List.reverse_cons, List.foldl_append, ih]; rfl
theorem F_of_turns_eq (ns : List Nat) (hn : ∀ n ∈ ns, n ≤ 1000) : F_of_turns [.tuple (iL ns)] = some (pg ((ot ns).1 : Nat) ((ot ns).2 : Nat)) := by
  obtain ⟨y', e⟩ := ot_rev ns.reverse 1 0 (some (.tuple (iL ns))) none [] (by simpa using hn)
  rw [ot_foldr] at e
  have er : (iL ns).reverse = iL ns.reverse := by simp [iL]
  unfold F_of_turns b_of_turns l_of_turns_0
  simp [startD]
  rw [er]
  have e' : forL (gN 3) (aPar2 1 2 (aCons (eOp gAdd (eOp gMul (eVar 3) (eVar 1)) (eVar 2)) (aCons (eVar 1) aNil))) (iL ns.reverse) [some (.tuple (iL ns)), some (.int 1), some (.int 0), none] [] = _ := e
  rw [mb_eq e']
  simp [retOf, pg]
theorem mem_ts {p q : Nat} (hp : p ≤ 1000) (hq : q ≤ 1000) : ∀ n ∈ ts p q, n ≤ 1000 := by
  induction q using Nat.strongRecOn generalizing p with
  | ind q ih =>
    intro n hn
    by_cases h0 : q = 0
    · subst h0; rw [ts_zero] at hn; cases hn
    · have hpos : 0 < q := Nat.pos_of_ne_zero h0
      rw [ts_pos p q hpos] at hn
      rcases List.mem_cons.mp hn with rfl | hn
      · exact Nat.le_trans (Nat.div_le_self _ _) hp
      · exact ih (p % q) (Nat.mod_lt _ hpos) hq (by have := Nat.mod_lt p hpos; omega) n hn
theorem ts_length {p q : Nat} : (ts p q).length ≤ q := by
  induction q using Nat.strongRecOn generalizing p with
  | ind q ih =>
    by_cases h0 : q = 0
    · subst h0; rw [ts_zero]; exact Nat.le_refl _
    · have hpos : 0 < q := Nat.pos_of_ne_zero h0
      rw [ts_pos p q hpos, List.length_cons]
      have := ih (p % q) (Nat.mod_lt _ hpos) (p := q)
      have := Nat.mod_lt p hpos
      omega
def pgN (z : Nat × Nat) : D := pg (z.1 : Nat) (z.2 : Nat)
theorem F_nearest_row_eq (p q : Nat) (hp : p ≤ 1000) (hq : q ≤ 1000) : F_nearest_row [pg p q] = some (.list ((List.range (ts p q).length).map fun k => pgN (ot ((ts p q).take (k + 1))))) := by
  have hl := ts_length (p := p) (q := q)
  unfold F_nearest_row b_nearest_row
  simp [startD, F_turns_to_eq p q hp hq, rg1]
  have h1 : small62 ((iL (ts p q)).length : Nat) = true := by
    unfold small62
    have : (iL (ts p q)).length = (ts p q).length := by simp [iL]
    rw [decide_eq_true (by omega), decide_eq_true (by omega)]
    rfl
  rw [if_pos h1]
  have h2 : (rgD 0 ((iL (ts p q)).length)).length ≤ big := by
    have : big = 1000000 := rfl
    rw [rgD_len]; simp [iL]; omega
  simp only [Int.toNat_natCast, x_mbl, if_pos h2]
  have e3 : rgD 0 (iL (ts p q)).length = (List.range (ts p q).length).map fun k => PyData.int ((k : Nat) : Int) := by simp [rgD, iL]
  rw [e3]
  rw [mb_mb_eq (compL_map (g := fun k => pgN (ot ((ts p q).take (k + 1)))) (h := []) fun k hk => ?_)]
  · simp [retOf]
  · have hk : k < (ts p q).length := List.mem_range.mp hk
    refine ⟨[some (pg p q), some (.tuple (iL (ts p q))), some (.int (k : Nat))], by simp [wipeD], rfl, ?_⟩
    have ec : PL.cutD (iL (ts p q)) none (some (((k : Nat) : Int) + 1)) = iL ((ts p q).take (k + 1)) := by
      unfold PL.cutD
      rw [HT.sIx_none, show (((k : Nat) : Int) + 1) = ((k + 1 : Nat) : Int) by omega, HT.sIx_nat]
      have : min (k + 1) (iL (ts p q)).length = k + 1 := by simp [iL]; omega
      rw [this]
      simp [iL, List.map_take]
    simp [ec, F_of_turns_eq _ fun n hn => mem_ts hp hq n (List.mem_of_mem_take hn)]
    rfl
end K40

namespace K40
open PySem PySem.Spec PyProof.Rows L2 PL
theorem F_turned_peg_2 {a b c d x y : Int} (hx : Sm x) (hy : Sm y) : F_turned_peg [q4 a b c d, pg x y] = some (pg (a * x + b * y) (c * x + d * y)) := by
  unfold F_turned_peg b_turned_peg
  simp [startD, x_mulr hx, x_mulr hy, retOf]
theorem F_turned_peg_1 {a b c d x y : Int} (ha : Sm a) (hb : Sm b) (hc : Sm c) (hd : Sm d) : F_turned_peg [q4 a b c d, pg x y] = some (pg (a * x + b * y) (c * x + d * y)) := by
  unfold F_turned_peg b_turned_peg
  simp [startD, x_mull ha, x_mull hb, x_mull hc, x_mull hd, retOf]
theorem F_then_2 {a b c d e f g i : Int} (ha : Sm e) (hb : Sm f) (hc : Sm g) (hd : Sm i) : F_then [q4 a b c d, q4 e f g i] = some (q4 (e * a + f * c) (e * b + f * d) (g * a + i * c) (g * b + i * d)) := by
  have t := fun x y => F_turned_peg_1 (x := x) (y := y) ha hb hc hd
  unfold F_then b_then
  simp [startD, t, retOf]
theorem F_undone_eq {a b c d : Int} (ha : Sm a) (hb : Sm b) (hc : Sm c) (hd : Sm d) : F_undone [q4 a b c d] = some (q4 ((a * d - b * c) * d) (-(a * d - b * c) * b) (-(a * d - b * c) * c) ((a * d - b * c) * a)) := by
  unfold F_undone b_undone
  simp [startD, x_mull ha, x_mull hb, x_mulr ha, x_mulr hb, x_mulr hc, x_mulr hd, retOf]
theorem F_is_whole_int (i : Int) : F_is_whole [.int i] = some (.bool true) := by
  unfold F_is_whole b_is_whole
  simp [startD, retOf]
theorem F_is_numbers_4 (a b c d : Int) : F_is_numbers [q4 a b c d, .int 4] = some (.bool true) := by
  unfold F_is_numbers b_is_numbers
  have : (4 : Nat) ≤ big := by decide
  simp [startD, compL, F_is_whole_int, wipeD, fAll, asBls, retOf, this]
theorem F_is_turning_eq {a b c d : Int} (ha : Sm a) (hb : Sm b) : F_is_turning [q4 a b c d] = some (.bool (decide (a * d - b * c = 1 ∨ a * d - b * c = -1))) := by
  unfold F_is_turning b_is_turning
  simp [startD, F_is_numbers_4, x_mull ha, x_mull hb, retOf]
theorem F_cross_0 {a b c d : Int} (ha : Sm a) (hb : Sm b) : F_cross [pg 0 0, pg a b, pg c d] = some (.int (a * d - b * c)) := by
  unfold F_cross b_cross
  simp [startD, x_mull ha, x_mull hb, retOf]
theorem F_is_basis_eq {a b c d : Int} (ha : Sm a) (hb : Sm b) : F_is_basis [pg a b, pg c d] = some (.bool (decide (a * d - b * c = 1 ∨ a * d - b * c = -1))) := by
  unfold F_is_basis b_is_basis
  simp [startD, F_cross_0 ha hb, retOf]
theorem F_size_of_eq {a b c d : Int} (ha : Sm a) (hb : Sm b) : F_size_of [pg a b, pg c d] = some (.int (if a * d - b * c < 0 then -(a * d - b * c) else a * d - b * c)) := by
  unfold F_size_of b_size_of
  simp [startD, F_cross_0 ha hb, retOf]
theorem F_gcd_eq (a b : Nat) (hb : b < 100000) : F__law_gcd [.int (a : Nat), .int (b : Nat)] = some (.int (Nat.gcd a b : Nat)) := by
  have key : ∀ (b : Nat) (a n : Nat) (h : List Int), b < n → whL (tV (eOp gNe (eVar 1) (eC (.int 0)))) (aPar2 0 1 (aCons (eVar 1) (aCons (eOp gMod (eCall fInt (aCons (eVar 0) aNil)) (eVar 1)) aNil))) n [some (.int (a : Nat)), some (.int (b : Nat))] h = some (.nx [some (.int (Nat.gcd a b : Nat)), some (.int 0)], h) := by
    intro b
    induction b using Nat.strongRecOn with
    | ind b ih =>
      intro a n h hn
      cases n with
      | zero => omega
      | succ n =>
        by_cases h0 : b = 0
        · subst h0
          simp [whL]
        · have hpos : 0 < b := Nat.pos_of_ne_zero h0
          have hlt : a % b < b := Nat.mod_lt _ hpos
          have e := ih (a % b) hlt b n h (by omega)
          have eg : Nat.gcd b (a % b) = Nat.gcd a b := by rw [Nat.gcd_comm a b, Nat.gcd_rec b a, Nat.gcd_comm]
          rw [eg] at e
          have e2 : gMod (.int (a : Nat)) (.int (b : Nat)) = some (.int ((a % b : Nat) : Int)) := by rw [gMod_ok (by omega), natmod]
          generalize a % b = r at *
          simp [whL, h0, e2, e]
  have e := key b a big [] (by have : big = 1000000 := rfl; omega)
  unfold F__law_gcd b__law_gcd l__law_gcd_0
  have h1 : ¬ ((a : Int) < 0) := by omega
  have h2 : ¬ ((b : Int) < 0) := by omega
  simp [startD, h1, h2, sWh]
  rw [mb_eq e]
  simp [retOf]
/-- one more turn -/
def stp (h : Nat × Nat × Nat × Nat) (n : Nat) : Nat × Nat × Nat × Nat := (h.1 * n + h.2.1, h.1, h.2.2.1 * n + h.2.2.2, h.2.2.1)
theorem stp_ot (l : List Nat) : ∀ (a b c d : Nat), (l.foldl stp (a, b, c, d)).1 = a * (ot l).1 + b * (ot l).2 ∧ (l.foldl stp (a, b, c, d)).2.2.1 = c * (ot l).1 + d * (ot l).2 := by
  induction l with
  | nil => intro a b c d; simp [ot]
  | cons n l ih =>
    intro a b c d
    rw [List.foldl_cons]
    obtain ⟨h1, h2⟩ := ih (a * n + b) a (c * n + d) c
    constructor
    · rw [show stp (a, b, c, d) n = (a * n + b, a, c * n + d, c) from rfl, h1]
      show (a * n + b) * (ot l).1 + a * (ot l).2 = a * (n * (ot l).1 + (ot l).2) + b * (ot l).1
      rw [Nat.add_mul, Nat.mul_add, Nat.mul_assoc]; omega
    · rw [show stp (a, b, c, d) n = (a * n + b, a, c * n + d, c) from rfl, h2]
      show (c * n + d) * (ot l).1 + c * (ot l).2 = c * (n * (ot l).1 + (ot l).2) + d * (ot l).1
      rw [Nat.add_mul, Nat.mul_add, Nat.mul_assoc]; omega
end K40

namespace K40
open PySem PySem.Spec PyProof.Rows L2 PL
theorem smN {n : Nat} (h : n ≤ 2000) : Sm (n : Int) := by unfold Sm; omega
theorem smNn {n : Nat} (h : n ≤ 2000) : Sm (-(n : Int)) := by unfold Sm; omega
/-- the state of the loop -/
def rho (p q size : D) (ns : List Nat) (rows : List D) (a b c d : Nat) (x y : Nat) (kk pp : Option D) : Lo :=
  [none, none, some p, some q, some size, some (.tuple (iL ns)), some (.list rows), some (q4 a b c d), some (pg x y), kk, pp]
theorem turn_ok {o : List Int → Int → Int} {nn : Nat} {p q size : D} {ns : List Nat} {rows : List D} {a b c d n : Nat} {k : Nat} {kk pp : Option D} {h : List Int} (first : Bool) (x y : Nat)
    (hk : ns[k]? = some n) (hr : rows[k]? = some (pg ((a * n + b : Nat) : Int) ((c * n + d : Nat) : Int))) (ha : a ≤ 1000) (hb : b ≤ 1000) (hc : c ≤ 1000) (hd : d ≤ 1000) (ha2 : a * n + b ≤ 1000) (hc2 : c * n + d ≤ 1000) (hx : x = a) (hy : y = c)
    (det : (a : Int) * d - b * c = 1 ∨ (a : Int) * d - b * c = -1) :
    ∃ pp', l_law_0 o nn (rho p q size ns rows a b c d x y (some (.int (k : Nat))) pp) h = some (.nx (rho p q size ns rows (a * n + b) a (c * n + d) c (a * n + b) (c * n + d) (some (.int (k : Nat))) pp'), h) := by
  subst hx hy
  have e1 : atI (iL ns) ((k : Nat) : Int) = some (.int (n : Nat)) := at_map hk
  have e2 : atI rows ((k : Nat) : Int) = some (pg ((x * n + b : Nat) : Int) ((y * n + d : Nat) : Int)) := atI_nat hr
  have e3 : F_then [q4 (n : Nat) 1 1 0, q4 (x : Nat) (b : Nat) (y : Nat) (d : Nat)] = some (q4 ((x * n + b : Nat) : Int) (x : Nat) ((y * n + d : Nat) : Int) (y : Nat)) := by
    rw [F_then_2 (smN (by omega)) (smN (by omega)) (smN (by omega)) (smN (by omega))]
    simp
  have det2 : ((x * n + b : Nat) : Int) * (y : Nat) - (x : Nat) * ((y * n + d : Nat) : Int) = -((x : Int) * d - b * y) := by
    push_cast
    rw [Int.add_mul, Int.mul_add, Int.mul_assoc, Int.mul_comm (n : Int) (y : Int)]; omega
  generalize hA : x * n + b = A at *
  generalize hC : y * n + d = C at *
  have e4 : F_is_turning [q4 (A : Nat) (x : Nat) (C : Nat) (y : Nat)] = some (.bool true) := by
    rw [F_is_turning_eq (smN (by omega)) (smN (by omega)), det2, decide_eq_true (by omega)]
  have det3 : (A : Int) * y - C * x = -((x : Int) * d - b * y) := by rw [← det2, Int.mul_comm (C : Int)]
  have e5 : F_is_basis [pg (A : Nat) (C : Nat), pg (x : Nat) (y : Nat)] = some (.bool true) := by
    rw [F_is_basis_eq (smN (by omega)) (smN (by omega)), det3, decide_eq_true (by omega)]
  have e6 : F_size_of [pg (A : Nat) (C : Nat), pg (x : Nat) (y : Nat)] = some (.int 1) := by
    have e7 : (if -((x : Int) * d - b * y) < 0 then - -((x : Int) * d - b * y) else -((x : Int) * d - b * y)) = 1 := by split <;> omega
    rw [F_size_of_eq (smN (by omega)) (smN (by omega)), det3, e7]
  refine ⟨some (pg (A : Nat) (C : Nat)), ?_⟩
  unfold l_law_0 rho
  simp [e1, e2, e3, e4, e5, e6]
theorem loop_ok {o : List Int → Int → Int} {nn : Nat} {p q size : D} {ns : List Nat} {P Q : Nat} (hP : P ≤ 500) (hQ : Q ≤ 500) (rest : List Nat) : ∀ (pre : List Nat) (a b c d p' q' : Nat) (kk pp : Option D) (h : List Int),
    ns = pre ++ rest → rest = ts p' q' → pre.foldl stp (1, 0, 0, 1) = (a, b, c, d) → P = a * p' + b * q' → Q = c * p' + d * q' → a ≤ 1000 → b ≤ 1000 → c ≤ 1000 → d ≤ 1000 → ((a : Int) * d - b * c = 1 ∨ (a : Int) * d - b * c = -1) →
    ∃ (a' b' c' d' g : Nat) (kk' pp' : Option D), forL (gN 9) (l_law_0 o nn) ((List.range' pre.length rest.length).map fun k => PyData.int ((k : Nat) : Int)) (rho p q size ns ((List.range ns.length).map fun k => pgN (ot (ns.take (k + 1)))) a b c d a c kk pp) h =
      some (.nx (rho p q size ns ((List.range ns.length).map fun k => pgN (ot (ns.take (k + 1)))) a' b' c' d' a' c' kk' pp'), h) ∧ P = a' * g ∧ Q = c' * g ∧ a' ≤ 1000 ∧ b' ≤ 1000 ∧ c' ≤ 1000 ∧ d' ≤ 1000 ∧ ((a' : Int) * d' - b' * c' = 1 ∨ (a' : Int) * d' - b' * c' = -1) := by
  induction rest with
  | nil =>
    intro pre a b c d p' q' kk pp h e1 e2 e3 e4 e5 ha hb hc hd det
    have hq0 : q' = 0 := by
      by_cases h0 : q' = 0
      · exact h0
      · rw [ts_pos p' q' (Nat.pos_of_ne_zero h0)] at e2
        cases e2
    subst hq0
    exact ⟨a, b, c, d, p', kk, pp, rfl, by rw [e4]; omega, by rw [e5]; omega, ha, hb, hc, hd, det⟩
  | cons n rest ih =>
    intro pre a b c d p' q' kk pp h e1 e2 e3 e4 e5 ha hb hc hd det
    have hq0 : 0 < q' := by
      rcases Nat.eq_zero_or_pos q' with h0 | h0
      · subst h0
        rw [ts_zero] at e2
        cases e2
      · exact h0
    rw [ts_pos p' q' hq0] at e2
    injection e2 with e6 e7
    have hdm : q' * n + p' % q' = p' := by rw [e6]; exact Nat.div_add_mod p' q'
    have f1 : P = (a * n + b) * q' + a * (p' % q') := by
      rw [e4]
      conv => lhs; rw [← hdm]
      rw [Nat.mul_add, Nat.add_mul, Nat.mul_comm q' n, Nat.mul_assoc]; omega
    have f2 : Q = (c * n + d) * q' + c * (p' % q') := by
      rw [e5]
      conv => lhs; rw [← hdm]
      rw [Nat.mul_add, Nat.add_mul, Nat.mul_comm q' n, Nat.mul_assoc]; omega
    have g1 : a * n + b ≤ 1000 := by
      have : (a * n + b) * 1 ≤ (a * n + b) * q' := Nat.mul_le_mul_left _ hq0
      omega
    have g2 : c * n + d ≤ 1000 := by
      have : (c * n + d) * 1 ≤ (c * n + d) * q' := Nat.mul_le_mul_left _ hq0
      omega
    have hlen : pre.length < ns.length := by rw [e1]; simp
    have hk : ns[pre.length]? = some n := by rw [e1]; simp
    have hf : (pre ++ [n]).foldl stp (1, 0, 0, 1) = (a * n + b, a, c * n + d, c) := by rw [List.foldl_append, e3]; rfl
    have ht : ns.take (pre.length + 1) = pre ++ [n] := by
      rw [e1, List.take_append, List.take_of_length_le (by omega)]
      simp
    have ho := stp_ot (pre ++ [n]) 1 0 0 1
    rw [hf] at ho
    have hr : ((List.range ns.length).map fun k => pgN (ot (ns.take (k + 1))))[pre.length]? = some (pg ((a * n + b : Nat) : Int) ((c * n + d : Nat) : Int)) := by
      rw [List.getElem?_map, List.getElem?_range hlen]
      simp only [Option.map_some, ht, pgN]
      have h1 : (ot (pre ++ [n])).1 = a * n + b := by have := ho.1; simp at this; omega
      have h2 : (ot (pre ++ [n])).2 = c * n + d := by have := ho.2; simp at this; omega
      rw [h1, h2]
    obtain ⟨pp1, e8⟩ := turn_ok (o := o) (nn := nn) (p := p) (q := q) (size := size) (kk := kk) (pp := pp) (h := h) true a c hk hr ha hb hc hd g1 g2 rfl rfl det
    obtain ⟨a', b', c', d', g, kk', pp', e9, r1, r2, r3⟩ := ih (pre ++ [n]) (a * n + b) a (c * n + d) c q' (p' % q') (some (.int (pre.length : Nat))) pp1 h (by rw [e1]; simp) e7 hf f1 f2 g1 ha g2 hc (by
      have det2 : ((a * n + b : Nat) : Int) * (c : Nat) - (a : Nat) * ((c * n + d : Nat) : Int) = -((a : Int) * d - b * c) := by
        push_cast
        rw [Int.add_mul, Int.mul_add, Int.mul_assoc, Int.mul_comm (n : Int) (c : Int)]; omega
      rw [det2]; omega)
    refine ⟨a', b', c', d', g, kk', pp', ?_, r1, r2, r3⟩
    rw [← e9]
    have er : List.range' pre.length (n :: rest).length = pre.length :: List.range' (pre ++ [n]).length rest.length := by
      rw [List.length_cons, List.range'_succ, List.length_append]
      rfl
    rw [er, List.map_cons]
    show mb (ml (gN 9 _ _)) _ h = _
    have eg : gN 9 (.int ((pre.length : Nat) : Int)) (rho p q size ns ((List.range ns.length).map fun k => pgN (ot (ns.take (k + 1)))) a b c d a c kk pp) = some (rho p q size ns ((List.range ns.length).map fun k => pgN (ot (ns.take (k + 1)))) a b c d a c (some (.int ((pre.length : Nat) : Int))) pp) := rfl
    rw [eg, mb_ml, mb_eq e8]
theorem ot_ts (q : Nat) : ∀ p, (ot (ts p q)).1 * Nat.gcd p q = p ∧ (ot (ts p q)).2 * Nat.gcd p q = q := by
  induction q using Nat.strongRecOn with
  | ind q ih =>
    intro p
    by_cases h0 : q = 0
    · subst h0; rw [ts_zero]; simp [ot]
    · have hpos : 0 < q := Nat.pos_of_ne_zero h0
      obtain ⟨h1, h2⟩ := ih (p % q) (Nat.mod_lt _ hpos) q
      have eg : Nat.gcd q (p % q) = Nat.gcd p q := by rw [Nat.gcd_comm p q, Nat.gcd_rec q p, Nat.gcd_comm]
      rw [eg] at h1 h2
      rw [ts_pos p q hpos]
      refine ⟨?_, h1⟩
      show (p / q * (ot (ts q (p % q))).1 + (ot (ts q (p % q))).2) * Nat.gcd p q = p
      rw [Nat.add_mul, Nat.mul_assoc, h1, h2, Nat.mul_comm]
      exact Nat.div_add_mod p q
theorem undo_ok {a b c d : Nat} (ha : a ≤ 1000) (hb : b ≤ 1000) (hc : c ≤ 1000) (hd : d ≤ 1000) (det : (a : Int) * d - b * c = 1 ∨ (a : Int) * d - b * c = -1) :
    ∃ u1 u2 u3 u4 : Int, F_undone [q4 (a : Nat) (b : Nat) (c : Nat) (d : Nat)] = some (q4 u1 u2 u3 u4) ∧ F_turned_peg [q4 u1 u2 u3 u4, pg (a : Nat) (c : Nat)] = some (pg 1 0) ∧
      F_then [q4 (a : Nat) (b : Nat) (c : Nat) (d : Nat), q4 u1 u2 u3 u4] = some (q4 1 0 0 1) ∧ F_then [q4 u1 u2 u3 u4, q4 (a : Nat) (b : Nat) (c : Nat) (d : Nat)] = some (q4 1 0 0 1) := by
  have sa := smN (n := a) (by omega)
  have sb := smN (n := b) (by omega)
  have sc := smN (n := c) (by omega)
  have sd := smN (n := d) (by omega)
  have na := smNn (n := a) (by omega)
  have nb := smNn (n := b) (by omega)
  have nc := smNn (n := c) (by omega)
  have nd := smNn (n := d) (by omega)
  have m1 : (d : Int) * a = a * d := Int.mul_comm _ _
  have m2 : (c : Int) * b = b * c := Int.mul_comm _ _
  have m3 : (d : Int) * b = b * d := Int.mul_comm _ _
  have m4 : (c : Int) * a = a * c := Int.mul_comm _ _
  have m5 : (b : Int) * a = a * b := Int.mul_comm _ _
  have m6 : (d : Int) * c = c * d := Int.mul_comm _ _
  have q4e : ∀ {x1 x2 x3 x4 y1 y2 y3 y4 : Int}, x1 = y1 → x2 = y2 → x3 = y3 → x4 = y4 → some (q4 x1 x2 x3 x4) = some (q4 y1 y2 y3 y4) := by
    rintro _ _ _ _ _ _ _ _ rfl rfl rfl rfl; rfl
  have pge : ∀ {x1 x2 y1 y2 : Int}, x1 = y1 → x2 = y2 → some (pg x1 x2) = some (pg y1 y2) := by
    rintro _ _ _ _ rfl rfl; rfl
  rcases det with det | det
  · refine ⟨d, -b, -c, a, ?_, ?_, ?_, ?_⟩
    · rw [F_undone_eq sa sb sc sd, det]
      exact q4e (by omega) (by omega) (by omega) (by omega)
    · rw [F_turned_peg_2 sa sc]
      exact pge (by rw [Int.neg_mul]; omega) (by rw [Int.neg_mul]; omega)
    · rw [F_then_2 sd nb nc sa]
      exact q4e (by rw [Int.neg_mul]; omega) (by rw [Int.neg_mul]; omega) (by rw [Int.neg_mul]; omega) (by rw [Int.neg_mul]; omega)
    · rw [F_then_2 sa sb sc sd]
      exact q4e (by rw [Int.mul_neg]; omega) (by rw [Int.mul_neg]; omega) (by rw [Int.mul_neg]; omega) (by rw [Int.mul_neg]; omega)
  · refine ⟨-d, b, c, -a, ?_, ?_, ?_, ?_⟩
    · rw [F_undone_eq sa sb sc sd, det]
      exact q4e (by omega) (by omega) (by omega) (by omega)
    · rw [F_turned_peg_2 sa sc]
      exact pge (by rw [Int.neg_mul]; omega) (by rw [Int.neg_mul]; omega)
    · rw [F_then_2 nd sb sc na]
      exact q4e (by rw [Int.neg_mul]; omega) (by rw [Int.neg_mul]; omega) (by rw [Int.neg_mul]; omega) (by rw [Int.neg_mul]; omega)
    · rw [F_then_2 sa sb sc sd]
      exact q4e (by rw [Int.mul_neg]; omega) (by rw [Int.mul_neg]; omega) (by rw [Int.mul_neg]; omega) (by rw [Int.mul_neg]; omega)
theorem law_spec : LawSpec := by
  intro o fair
  obtain ⟨f1, f2⟩ := fair [] 400 (by decide)
  obtain ⟨f3, f4⟩ := fair [400] 400 (by decide)
  obtain ⟨P, hP⟩ : ∃ P : Nat, o [] 400 = P := ⟨(o [] 400).toNat, by omega⟩
  obtain ⟨Q, hQ, hQ0, hQ4⟩ : ∃ Q : Nat, 1 + o [400] 400 = (Q : Nat) ∧ 0 < Q ∧ Q ≤ 400 := ⟨(1 + o [400] 400).toNat, by omega, by omega, by omega⟩
  have d1 : G__law_pick o [.int 400] [] = some (.int (P : Nat), [400]) := by
    show (if (0 : Int) < 400 ∧ ([] : List Int).length < 1000000 then some (PyData.int (o [] 400), [] ++ [400]) else none) = _
    rw [if_pos ⟨by decide, by decide⟩, hP]; rfl
  have d2 : G__law_pick o [.int 400] [400] = some (.int (o [400] 400), [400, 400]) := by
    show (if (0 : Int) < 400 ∧ ([400] : List Int).length < 1000000 then some (PyData.int (o [400] 400), [400] ++ [400]) else none) = _
    rw [if_pos ⟨by decide, by decide⟩]; rfl
  generalize hg : Nat.gcd P Q = g
  have hg0 : 0 < g := by rw [← hg]; exact Nat.gcd_pos_of_pos_right _ (by omega)
  obtain ⟨p, hp⟩ : ∃ p, p = P / g := ⟨_, rfl⟩
  obtain ⟨q, hq⟩ : ∃ q, q = Q / g := ⟨_, rfl⟩
  have cop : Nat.gcd p q = 1 := by
    rw [hp, hq, ← hg]
    exact Nat.gcd_div_gcd_div_gcd_of_pos_right (by omega)
  have hp5 : p ≤ 400 := by rw [hp]; exact Nat.le_trans (Nat.div_le_self _ _) (by omega)
  have hq5 : q ≤ 400 := by rw [hq]; exact Nat.le_trans (Nat.div_le_self _ _) (by omega)
  have hgle : g ≤ Q := by rw [← hg]; exact Nat.gcd_le_right _ (by omega)
  have hq0 : 0 < q := by rw [hq]; exact Nat.div_pos hgle hg0
  have k1 : F__law_gcd [.int (P : Nat), .int (Q : Nat)] = some (.int (g : Nat)) := by rw [F_gcd_eq _ _ (by omega), hg]
  have k2 : gFdiv (.int (P : Nat)) (.int (g : Nat)) = some (.int (p : Nat)) := by rw [gFdiv_ok ⟨by omega, by omega⟩, natdiv, hp]
  have k3 : gFdiv (.int (Q : Nat)) (.int (g : Nat)) = some (.int (q : Nat)) := by rw [gFdiv_ok ⟨by omega, by omega⟩, natdiv, hq]
  have k4 := F_turns_to_eq p q (by omega) (by omega)
  have k5 := F_nearest_row_eq p q (by omega) (by omega)
  have k6 := F_of_turns_eq (ts p q) (mem_ts (by omega) (by omega))
  obtain ⟨o1, o2⟩ := ot_ts q p
  rw [cop, Nat.mul_one] at o1 o2
  rw [o1, o2] at k6
  have hl := ts_length (p := p) (q := q)
  obtain ⟨a, b, c, d, u, kk, pp, e, r1, r2, r3, r4, r5, r6, det⟩ := loop_ok (o := o) (nn := big) (p := .int (p : Nat)) (q := .int (q : Nat)) (size := .int (g : Nat)) (ns := ts p q) (P := p) (Q := q) (by omega) (by omega) (ts p q) [] 1 0 0 1 p q none none [400, 400] rfl rfl rfl (by omega) (by omega) (by decide) (by decide) (by decide) (by decide) (by decide)
  have hu : u = 1 := by
    have h1 : u ∣ p := ⟨a, by rw [r1, Nat.mul_comm]⟩
    have h2 : u ∣ q := ⟨c, by rw [r2, Nat.mul_comm]⟩
    have h3 := Nat.dvd_gcd h1 h2
    rw [cop] at h3
    exact Nat.dvd_one.mp h3
  subst hu
  rw [Nat.mul_one] at r1 r2
  obtain ⟨u1, u2, u3, u4, v1, v2, v3, v4⟩ := undo_ok r3 r4 r5 r6 det
  rw [← r1, ← r2] at v2
  have t1 : F_turned_peg [q4 (a : Nat) (b : Nat) (c : Nat) (d : Nat), pg 1 0] = some (pg (p : Nat) (q : Nat)) := by
    rw [F_turned_peg_2 (by unfold Sm; omega) (by unfold Sm; omega), r1, r2]
    simp
  have lr : (iL (ts p q)).length = (ts p q).length := by simp [iL]
  have small : small62 ((ts p q).length : Nat) = true := by
    unfold small62
    rw [decide_eq_true (by omega), decide_eq_true (by omega)]
    rfl
  have erg : rg1 [.int ((ts p q).length : Nat)] = some ((List.range' ([] : List Nat).length (ts p q).length).map fun k => PyData.int ((k : Nat) : Int)) := by
    show (if small62 ((ts p q).length : Nat) = true then some (rgD 0 (((ts p q).length : Nat) : Int).toNat) else none) = _
    rw [if_pos small]
    simp [rgD, List.range_eq_range']
  generalize hns : ts p q = ns at *
  unfold rho at e
  refine ⟨big, [400, 400], ?_⟩
  unfold b_law
  simp only [x_sSeq, x_aPar2, x_aCons, x_aNil, x_eCallM, x_eOp, x_eC, x_mba, x_mbp]
  rw [mb_eq d1]
  rw [mb_eq d2]
  simp [hP, hQ, k1, k2, k3, k4, k5, k6, lr, erg]
  have e' : forL (gN 9) (l_law_0 o big) ((List.range' 0 ns.length).map fun k => PyData.int ((k : Nat) : Int)) [none, none, some (.int (p : Nat)), some (.int (q : Nat)), some (.int (g : Nat)), some (.tuple (iL ns)), some (.list ((List.range ns.length).map fun k => pgN (ot (ns.take (k + 1))))),
      some (.tuple [.int 1, .int 0, .int 0, .int 1]), some (.tuple [.int 1, .int 0]), none, none] [400, 400] = _ := e
  rw [mb_eq e']
  simp [t1, v1, v2, v3, v4]
end K40

open PySem PySem.W PyProof.Rows
set_option maxHeartbeats 0 in
theorem PySem.Challenge.cw_pegfigures_k40_whole_parts_as_turnings_holds : PySem.Challenge.rw_pegfigures_k40_whole_parts_as_turnings.Holds := by
  w_on; o_law; k_head; (case hw => w_witness2)
  k_fill
  refine L2.walk_of (l := PySem.Challenge.rw_pegfigures_k40_whole_parts_as_turnings) (n := 63) (k := 4) (x := "script") (CX := fun _ => L2.CX0) (sp := fun w => PL.spLaw _) rfl (by decide) rfl ⟨rfl, by decide, by decide⟩ (fun w h Y => PySem.W.kIn_of Y) ?F (fun _ _ a ns hl _ hS => ⟨a, ns, rfl, hS, hl, fun _ => rfl⟩) (fun _ _ _ _ _ h => h)
  case F =>
    intro w mg fa h KX G hmg
    refine' K40.all_mk K40.law_spec KX G hmg ?a0 ?l0 ?c0 ?k0 ?a1 ?l1 ?c1 ?k1 ?a2 ?l2 ?c2 ?k2 ?a3 ?l3 ?c3 ?k3 ?a4 ?l4 ?c4 ?k4 ?a5 ?l5 ?c5 ?k5 ?a6 ?l6 ?c6 ?k6 ?a7 ?l7 ?c7 ?k7 ?a8 ?l8 ?c8 ?k8 ?a9 ?l9 ?c9 ?k9 ?a10 ?l10 ?c10 ?k10 ?a11 ?l11 ?c11 ?k11 ?a12 ?l12 ?c12 ?k12 ?a13 ?l13 ?c13 ?k13 ?a14 ?l14 ?c14 ?k14 ?a15 ?l15 ?c15 ?k15 ?a16 ?l16 ?c16 ?k16 ?a17 ?l17 ?c17 ?k17 ?z_abs ?z_all ?z_bool ?z_int ?z_isinstance ?z_len ?z_max ?z_min ?z_range ?z_tuple
    (case a0 => k_is); (case l0 => k_is); (case c0 => k_is); (case k0 => k_is); (case a1 => k_is); (case l1 => k_is); (case c1 => k_is); (case k1 => k_is)
    (case a2 => k_is); (case l2 => k_is); (case c2 => k_is); (case k2 => k_is); (case a3 => k_is); (case l3 => k_is); (case c3 => k_is); (case k3 => k_is)
    (case a4 => k_is); (case l4 => k_is); (case c4 => k_is); (case k4 => k_is); (case a5 => k_is); (case l5 => k_is); (case c5 => k_is); (case k5 => k_is)
    (case a6 => k_is); (case l6 => k_is); (case c6 => k_is); (case k6 => k_is); (case a7 => k_is); (case l7 => k_is); (case c7 => k_is); (case k7 => k_is)
    (case a8 => k_is); (case l8 => k_is); (case c8 => k_is); (case k8 => k_is); (case a9 => k_is); (case l9 => k_is); (case c9 => k_is); (case k9 => k_is)
    (case a10 => k_is); (case l10 => k_is); (case c10 => k_is); (case k10 => k_is); (case a11 => k_is); (case l11 => k_is); (case c11 => k_is); (case k11 => k_is)
    (case a12 => k_is); (case l12 => k_is); (case c12 => k_is); (case k12 => k_is); (case a13 => k_is); (case l13 => k_is); (case c13 => k_is); (case k13 => k_is)
    (case a14 => k_is); (case l14 => k_is); (case c14 => k_is); (case k14 => k_is); (case a15 => k_is); (case l15 => k_is); (case c15 => k_is); (case k15 => k_is)
    (case a16 => k_is); (case l16 => k_is); (case c16 => k_is); (case k16 => k_is); (case a17 => k_is); (case l17 => k_is); (case c17 => k_is); (case k17 => k_is)
    (case z_abs => k_is); (case z_all => k_is); (case z_bool => k_is); (case z_int => k_is); (case z_isinstance => k_is); (case z_len => k_is); (case z_max => k_is); (case z_min => k_is)
    (case z_range => k_is); (case z_tuple => k_is)
