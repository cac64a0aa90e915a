import PyProof.Rows.All
import Wide.All
import OpenK.AllK
import Wide.FinOn
import HandS.ForMost
import HandS.Style
import HandS.TupAny
import HandS.TupLe
import HandS.IsInst
import HandS.Deep
import HandS.TupSets
import KE.SortData
import PySem.Challenge.RW_pegfigures_k41_whole_sails_as_figures
set_option Elab.async false
set_option linter.all false
set_option maxRecDepth 100000
set_option maxHeartbeats 4000000
/-! PL: a pure layer. Pieces of syntax against plain Lean functions on data. -/
namespace PL
open PySem PySem.Spec PyProof.Rows L2

abbrev D := PyData
/-- the locals by slot -/
abbrev Lo := List (Option D)
/-- what depends on the draws so far, and may fail -/
abbrev M (α : Type) := List Int → Option (α × List Int)
def mp {α : Type} (a : α) : M α := fun h => some (a, h)
def mb {α β : Type} (m : M α) (k : α → M β) : M β := fun h => match m h with
  | some (a, h') => k a h'
  | none => none
def ml {α : Type} (o : Option α) : M α := fun h => match o with
  | some a => some (a, h)
  | none => none
theorem mb_some {α β : Type} {m : M α} {k : α → M β} {h h' : List Int} {b : β} (e : mb m k h = some (b, h')) : ∃ a h1, m h = some (a, h1) ∧ k a h1 = some (b, h') := by
  unfold mb at e
  cases q : m h with
  | none => rw [q] at e; cases e
  | some p => rw [q] at e; exact ⟨p.1, p.2, rfl, e⟩
theorem ml_some {α : Type} {o : Option α} {h h' : List Int} {a : α} (e : ml o h = some (a, h')) : o = some a ∧ h' = h := by
  unfold ml at e
  cases o with
  | none => cases e
  | some x => cases e; exact ⟨rfl, rfl⟩
theorem mp_some {α : Type} {x a : α} {h h' : List Int} (e : mp x h = some (a, h')) : a = x ∧ h' = h := by
  cases e; exact ⟨rfl, rfl⟩

/-- the draws: where their objects stand, what is true of them behind a history, what they give -/
structure Orc where
  slot : Option Nat
  adr : Addr
  OC : Addr → Prop
  OR : List Int → Hp → Prop
  o : List Int → Int → Int
  alloc : ∀ h H, OR h H → ∀ p, OC p → H p ≠ none
  stable : ∀ h H H', OR h H → (∀ p o, OC p → H p = some o → H' p = some o) → OR h H'
/-- no draws -/
def Orc.no : Orc := ⟨none, 0, fun _ => False, fun _ _ => True, fun _ _ => 0, fun _ _ _ _ h => h.elim, fun _ _ _ _ _ => trivial⟩

/-- from the frozen heap F within H to F' within H' -/
structure Stp (Ω : Orc) (F H F' H' : Hp) : Prop where
  sf : Same F F'
  fh : Same F' H'
  kp : ∀ p o, H p = some o → ¬ Ω.OC p → H' p = some o
  ap : ∀ p, H p ≠ none → F p = none → F' p = none
  al : ∀ p, H p ≠ none → H' p ≠ none
/-- .. where all stays -/
structure Stq (F H F' H' : Hp) : Prop where
  sf : Same F F'
  fh : Same F' H'
  kp : Same H H'
  ap : ∀ p, H p ≠ none → F p = none → F' p = none
section
variable {Ω : Orc} {F H F1 H1 F2 H2 : Hp}
theorem Stp.refl (s : Same F H) : Stp Ω F H F H := ⟨Same.refl _, s, fun _ _ h _ => h, fun _ _ h => h, fun _ h => h⟩
theorem Stp.trans (a : Stp Ω F H F1 H1) (b : Stp Ω F1 H1 F2 H2) : Stp Ω F H F2 H2 :=
  ⟨a.sf.trans b.sf, b.fh, fun p o h n => b.kp p o (a.kp p o h n) n, fun p h n => b.ap p (a.al p h) (a.ap p h n), fun p h => b.al p (a.al p h)⟩
theorem Same.some {H H' : Hp} (s : Same H H') {p : Addr} (h : H p ≠ none) : H' p ≠ none := by
  cases e : H p with
  | none => exact absurd e h
  | some o => rw [s p o e]; simp
theorem Stq.stp (s : Stq F H F1 H1) : Stp Ω F H F1 H1 := ⟨s.sf, s.fh, fun p o h _ => s.kp p o h, s.ap, fun _ h => Same.some s.kp h⟩
theorem Stq.refl (s : Same F H) : Stq F H F H := ⟨Same.refl _, s, Same.refl _, fun _ _ h => h⟩
theorem Stq.orc {h : List Int} (s : Stq F H F1 H1) (o : Ω.OR h H) : Ω.OR h H1 := Ω.stable h H H1 o fun p o _ e => s.kp p o e
/-- a new object, frozen at once -/
theorem same_upd {H : Hp} {p : Addr} {o : HO} (h : H p = none) : Same H (upd H p o) := fun b x e => by
  rw [upd_ne (ne_of_none e h)]
  exact e
theorem same_upd2 {F H : Hp} {p : Addr} {o : HO} (s : Same F H) : Same F H → Same (upd F p o) (upd H p o) := fun _ b x e => by
  by_cases hb : b = p
  · subst hb; rw [upd_same] at e ⊢; exact e
  · rw [upd_ne hb] at e ⊢; exact s b x e
theorem Stq.new {p : Addr} {o : HO} (s : Same F H) (n : H p = none) : Stq F H (upd F p o) (upd H p o) :=
  ⟨same_upd (s.free n), same_upd2 s s, same_upd n, fun q h z => by
    have : q ≠ p := by rintro rfl; exact h n
    rw [upd_ne this]; exact z⟩
end

/-! ### data -/
theorem sqT_mono {K : PySem.W.Frag} {H H' : Hp} {a : Addr} {xs : List V} (e : Same H H') (h : SqT K H a xs) : SqT K H' a xs := by
  rcases h with (h | ⟨o, h⟩) | h
  · exact .inl (.inl (e _ _ h))
  · exact .inl (.inr ⟨o, e _ _ h⟩)
  · exact .inr h
mutual
theorem Dp_mono {K : PySem.W.Frag} {H H' : Hp} (e : Same H H') : ∀ {d : D} {v : V}, Dp K H v d → Dp K H' v d
  | .none, _, .non => .non
  | .bool _, _, .bl b => .bl b
  | .int _, _, .int i => .int i
  | .str _, _, .str x => .str x
  | .list _, _, .lst s a => .lst (e.seq s) (DpAll_mono e a)
  | .tuple _, _, .tup s a => .tup (sqT_mono e s) (DpAll_mono e a)
theorem DpAll_mono {K : PySem.W.Frag} {H H' : Hp} (e : Same H H') : ∀ {ds : List D} {vs : List V}, DpAll K H vs ds → DpAll K H' vs ds
  | [], _, .nil => .nil
  | _ :: _, _, .cons a b => .cons (Dp_mono e a) (DpAll_mono e b)
end
theorem DpAll.length {K : PySem.W.Frag} {H : Hp} : ∀ {ds : List D} {vs : List V}, DpAll K H vs ds → vs.length = ds.length
  | [], _, .nil => rfl
  | _ :: _, _, .cons _ b => by simp [DpAll.length b]
theorem DpAll.append {K : PySem.W.Frag} {H : Hp} : ∀ {ds es : List D} {vs us : List V}, DpAll K H vs ds → DpAll K H us es → DpAll K H (vs ++ us) (ds ++ es)
  | [], _, _, _, .nil, b => b
  | _ :: _, _, _, _, .cons a r, b => .cons a (DpAll.append r b)
theorem DpAll.get {K : PySem.W.Frag} {H : Hp} : ∀ {ds : List D} {vs : List V} {i : Nat} {d : D}, DpAll K H vs ds → ds[i]? = some d → ∃ v, vs[i]? = some v ∧ Dp K H v d
  | [], [], _, _, .nil, h => by simp at h
  | d :: _, v :: _, 0, e, .cons a _, h => by simp at h; subst h; exact ⟨v, rfl, a⟩
  | _ :: ds, _ :: vs, i + 1, e, .cons _ b, h => by simpa using DpAll.get (i := i) b (by simpa using h)
theorem DpAll.get' {K : PySem.W.Frag} {H : Hp} : ∀ {ds : List D} {vs : List V} {i : Nat} {v : V}, DpAll K H vs ds → vs[i]? = some v → ∃ d, ds[i]? = some d ∧ Dp K H v d
  | [], [], _, _, .nil, h => by simp at h
  | d :: _, v :: _, 0, e, .cons a _, h => by simp at h; subst h; exact ⟨d, rfl, a⟩
  | _ :: ds, _ :: vs, i + 1, e, .cons _ b, h => by simpa using DpAll.get' (i := i) b (by simpa using h)
theorem DpAll.take {K : PySem.W.Frag} {H : Hp} : ∀ (n : Nat) {ds : List D} {vs : List V}, DpAll K H vs ds → DpAll K H (vs.take n) (ds.take n)
  | 0, _, _, _ => .nil
  | _ + 1, _, _, .nil => .nil
  | n + 1, _, _, .cons a b => .cons a (DpAll.take n b)
theorem DpAll.drop {K : PySem.W.Frag} {H : Hp} : ∀ (n : Nat) {ds : List D} {vs : List V}, DpAll K H vs ds → DpAll K H (vs.drop n) (ds.drop n)
  | 0, _, _, h => h
  | _ + 1, _, _, .nil => .nil
  | n + 1, _, _, .cons _ b => DpAll.drop n b
theorem DpAll.reverse {K : PySem.W.Frag} {H : Hp} : ∀ {ds : List D} {vs : List V}, DpAll K H vs ds → DpAll K H vs.reverse ds.reverse
  | [], _, .nil => .nil
  | _ :: _, _, .cons a b => by
    rw [List.reverse_cons, List.reverse_cons]
    exact DpAll.append (DpAll.reverse b) (.cons a .nil)

/-! ### the state -/
/-- a list that only one slot holds -/
def OwnAt (K : PySem.W.Frag) (Ω : Orc) (H0 F H : Hp) (p : Addr) (d : D) : Prop :=
  ∃ xs ds, d = .list ds ∧ H p = some (.lst xs) ∧ DpAll K F xs ds ∧ F p = none ∧ H0 p = none ∧ ¬ Ω.OC p
structure SR (K : PySem.W.Frag) (Ω : Orc) (ow : List Nat) (F0 H0 F H : Hp) (σ : L2.St) (ρ : Lo) (h : List Int) : Prop where
  st : Stp Ω F0 H0 F H
  len : σ.length = ρ.length
  val : ∀ i d, i ∉ ow → ρ[i]? = some (some d) → ∃ v, σ[i]? = some (some v) ∧ Dp K F v d
  own : ∀ i d, i ∈ ow → ρ[i]? = some (some d) → ∃ p, σ[i]? = some (some (.ref p)) ∧ OwnAt K Ω H0 F H p d
  apart : ∀ i j p d e, i ∈ ow → j ∈ ow → ρ[i]? = some (some d) → ρ[j]? = some (some e) → σ[i]? = some (some (.ref p)) → σ[j]? = some (some (.ref p)) → i = j
  orc : Ω.OR h H
  ocf : ∀ p, Ω.OC p → F p = none
  pool : ∀ i, Ω.slot = some i → σ[i]? = some (some (.ref Ω.adr)) ∧ ρ[i]? = some none
section
variable {K : PySem.W.Frag} {Ω : Orc} {ow : List Nat} {F0 H0 F H F1 H1 : Hp} {σ : L2.St} {ρ : Lo} {h h1 : List Int}
theorem OwnAt.next {p : Addr} {d : D} (o : OwnAt K Ω H0 F H p d) (s : Stp Ω F H F1 H1) : OwnAt K Ω H0 F1 H1 p d := by
  obtain ⟨xs, ds, rfl, e, a, n, n0, oc⟩ := o
  exact ⟨xs, ds, rfl, s.kp p _ e oc, DpAll_mono s.sf a, s.ap p (by rw [e]; simp) n, n0, oc⟩
theorem SR.next (S : SR K Ω ow F0 H0 F H σ ρ h) (s : Stp Ω F H F1 H1) (o : Ω.OR h1 H1) : SR K Ω ow F0 H0 F1 H1 σ ρ h1 :=
  ⟨S.st.trans s, S.len, fun i d hi e => let ⟨v, a, b⟩ := S.val i d hi e; ⟨v, a, Dp_mono s.sf b⟩, fun i d hi e => let ⟨p, a, b⟩ := S.own i d hi e; ⟨p, a, b.next s⟩, S.apart, o,
    fun p hp => s.ap p (Ω.alloc h H S.orc p hp) (S.ocf p hp), S.pool⟩
theorem SR.fh (S : SR K Ω ow F0 H0 F H σ ρ h) : Same F H := S.st.fh
/-- fewer slots are known to hold what no other holds -/
theorem SR.thaw (S : SR K Ω ow F0 H0 F H σ ρ h) (ow' : List Nat) (sub : ∀ i ∈ ow', i ∈ ow) :
    ∃ F', Stp Ω F0 H0 F' H ∧ Same F F' ∧ SR K Ω ow' F0 H0 F' H σ ρ h := by
  classical
  refine ⟨fun p => if (∃ i d, i ∈ ow ∧ i ∉ ow' ∧ ρ[i]? = some (some d) ∧ σ[i]? = some (some (.ref p))) then H p else F p, ?_⟩
  generalize hF : (fun p => if (∃ i d, i ∈ ow ∧ i ∉ ow' ∧ ρ[i]? = some (some d) ∧ σ[i]? = some (some (.ref p))) then H p else F p) = F'
  have at1 : ∀ {p : Addr}, (∃ i d, i ∈ ow ∧ i ∉ ow' ∧ ρ[i]? = some (some d) ∧ σ[i]? = some (some (.ref p))) → F' p = H p := fun {p} q => by rw [← hF]; exact if_pos q
  have at2 : ∀ {p : Addr}, ¬ (∃ i d, i ∈ ow ∧ i ∉ ow' ∧ ρ[i]? = some (some d) ∧ σ[i]? = some (some (.ref p))) → F' p = F p := fun {p} q => by rw [← hF]; exact if_neg q
  have own' : ∀ {p : Addr}, (∃ i d, i ∈ ow ∧ i ∉ ow' ∧ ρ[i]? = some (some d) ∧ σ[i]? = some (some (.ref p))) → ∃ d, OwnAt K Ω H0 F H p d := fun {p} ⟨i, d, h1, _, h3, h4⟩ => by
    obtain ⟨p', e, o⟩ := S.own i d h1 h3
    rw [h4] at e
    cases e
    exact ⟨d, o⟩
  have sf : Same F F' := fun p o e => by
    by_cases q : ∃ i d, i ∈ ow ∧ i ∉ ow' ∧ ρ[i]? = some (some d) ∧ σ[i]? = some (some (.ref p))
    · rw [at1 q]; exact S.fh p o e
    · rw [at2 q]; exact e
  have st : Stp Ω F0 H0 F' H := ⟨S.st.sf.trans sf, fun p o e => by
      by_cases q : ∃ i d, i ∈ ow ∧ i ∉ ow' ∧ ρ[i]? = some (some d) ∧ σ[i]? = some (some (.ref p))
      · rw [at1 q] at e; exact e
      · rw [at2 q] at e; exact S.fh p o e, S.st.kp, fun p hp n => by
      by_cases q : ∃ i d, i ∈ ow ∧ i ∉ ow' ∧ ρ[i]? = some (some d) ∧ σ[i]? = some (some (.ref p))
      · obtain ⟨d, _, _, _, _, _, _, n0, _⟩ := own' q
        exact absurd n0 hp
      · rw [at2 q]; exact S.st.ap p hp n, S.st.al⟩
  refine ⟨st, sf, ⟨st, S.len, fun i d hi e => ?_, fun i d hi e => ?_, fun i j p d e hi hj => S.apart i j p d e (sub i hi) (sub j hj), S.orc, fun p hp => ?_, S.pool⟩⟩
  · by_cases hw : i ∈ ow
    · obtain ⟨p, e1, xs, ds, rfl, e2, a, n, n0, oc⟩ := S.own i d hw e
      refine ⟨_, e1, .lst (.inl (.inl ?_)) (DpAll_mono sf a)⟩
      rw [at1 ⟨i, _, hw, hi, e, e1⟩]
      exact e2
    · obtain ⟨v, e1, a⟩ := S.val i d hw e
      exact ⟨v, e1, Dp_mono sf a⟩
  · obtain ⟨p, e1, xs, ds, rfl, e2, a, n, n0, oc⟩ := S.own i d (sub i hi) e
    refine ⟨p, e1, xs, ds, rfl, e2, DpAll_mono sf a, ?_, n0, oc⟩
    rw [at2]
    · exact n
    · rintro ⟨j, d', h1, h2, h3, h4⟩
      have := S.apart i j p _ d' (sub i hi) h1 e h3 e1 h4
      subst this
      exact h2 hi
  · rw [at2]
    · exact S.ocf p hp
    · intro q
      obtain ⟨d, _, _, _, _, _, _, _, oc⟩ := own' q
      exact oc hp
end

/-! ### judgements -/
/-- the largest readings -/
def WE (X : Cx) (e : Expr) : TE := fun σ H Q => ∀ pins s, Inv X pins σ H s → wpAny (model X.prog X.w) X.A (eval e X.env) (EP X pins σ Q) X.xe s
def WT (X : Cx) (e : Expr) : TT := fun σ H Q => ∀ pins s, Inv X pins σ H s → wpAny (model X.prog X.w) X.A (isTrue e X.env (eval e X.env)) (TP X pins σ Q) X.xe s
def WW (X : Cx) (e : Expr) : TT := fun σ H Q => ∀ whole pins s, Inv X pins σ H s → wpAny (model X.prog X.w) X.A (isTrue e X.env whole) (TP X pins σ Q) X.xe s
def WA (X : Cx) (es : List Expr) : TA := fun σ H Q => ∀ pos pins s, Inv X pins σ H s → wpAny (model X.prog X.w) X.A (spliced (backTo pos (starEach es X.env))) (AP X pins σ Q) X.xe s
def WS (X : Cx) (st : Stmt) : TS := fun Dn σ H => ∀ pins s, Inv X pins σ H s → wpAny (model X.prog X.w) X.A (exec st X.env) (SP X pins Dn) X.xe s
def WSs (X : Cx) (st : List Stmt) : TS := fun Dn σ H => ∀ pins s, Inv X pins σ H s → wpAny (model X.prog X.w) X.A (execs st X.env) (SP X pins Dn) X.xe s
section
variable {X : Cx} {e : Expr} {es : List Expr} {st : Stmt} {sts : List Stmt} {t : TE} {tt : TT} {ta : TA} {ts : TS} {σ : L2.St} {H : Hp}
theorem we : PE X e (WE X e) := ⟨fun pins s _ _ _ I h => h pins s I⟩
theorem wt : PT X e (WT X e) := ⟨fun pins s _ _ _ I h => h pins s I⟩
theorem ww : PW X e (WW X e) := ⟨fun whole pins s _ _ _ I h => h whole pins s I⟩
theorem wa : PA X es (WA X es) := ⟨fun pos pins s _ _ _ I h => h pos pins s I⟩
theorem ws : PS X st (WS X st) := ⟨fun pins s _ _ _ I h => h pins s I⟩
theorem wss : PSs X sts (WSs X sts) := ⟨fun pins s _ _ _ I h => h pins s I⟩
theorem we_of {Q : VK} (p : PE X e t) (h : t σ H Q) : WE X e σ H Q := fun pins s I => p.run pins s σ H Q I h
theorem wt_of {Q} (p : PT X e tt) (h : tt σ H Q) : WT X e σ H Q := fun pins s I => p.run pins s σ H Q I h
theorem ww_of {Q} (p : PW X e tt) (h : tt σ H Q) : WW X e σ H Q := fun w pins s I => p.run w pins s σ H Q I h
theorem wa_of {Q} (p : PA X es ta) (h : ta σ H Q) : WA X es σ H Q := fun pos pins s I => p.run pos pins s σ H Q I h
theorem ws_of {Dn} (p : PS X st ts) (h : ts Dn σ H) : WS X st Dn σ H := fun pins s I => p.run pins s σ H Dn I h
theorem wss_of {Dn} (p : PSs X sts ts) (h : ts Dn σ H) : WSs X sts Dn σ H := fun pins s I => p.run pins s σ H Dn I h
end

section
variable (X : Cx) (Ω : Orc) (ow : List Nat)
/-- an expression gives the data that f says -/
def EV (e : Expr) (f : Lo → M D) : Prop := ∀ F0 H0 F H σ ρ h d h' Q, SR X.K Ω ow F0 H0 F H σ ρ h → f ρ h = some (d, h') →
  (∀ v F' H', Stp Ω F H F' H' → Ω.OR h' H' → Dp X.K F' v d → Q v H') → WE X e σ H Q
def ET (e : Expr) (f : Lo → M Bool) : Prop := ∀ F0 H0 F H σ ρ h b h' Q, SR X.K Ω ow F0 H0 F H σ ρ h → f ρ h = some (b, h') →
  (∀ F' H', Stp Ω F H F' H' → Ω.OR h' H' → Q b H') → WT X e σ H Q
def EW (e : Expr) (f : Lo → M Bool) : Prop := ∀ F0 H0 F H σ ρ h b h' Q, SR X.K Ω ow F0 H0 F H σ ρ h → f ρ h = some (b, h') →
  (∀ F' H', Stp Ω F H F' H' → Ω.OR h' H' → Q b H') → WW X e σ H Q
def EA (es : List Expr) (f : Lo → M (List D)) : Prop := ∀ F0 H0 F H σ ρ h ds h' Q, SR X.K Ω ow F0 H0 F H σ ρ h → f ρ h = some (ds, h') →
  (∀ vs F' H', Stp Ω F H F' H' → Ω.OR h' H' → DpAll X.K F' vs ds → Q vs H') → WA X es σ H Q
/-- an expression gives a new list that nothing else holds -/
def EO (e : Expr) (f : Lo → M D) : Prop := ∀ F0 H0 F H σ ρ h d h' Q, SR X.K Ω ow F0 H0 F H σ ρ h → f ρ h = some (d, h') →
  (∀ p F' H', Stp Ω F H F' H' → Ω.OR h' H' → H p = none → OwnAt X.K Ω H0 F' H' p d → Q (.ref p) H') → WE X e σ H Q
end
/-- how a statement ends -/
inductive Fl where
  | nx (ρ : Lo) | ct (ρ : Lo) | ret (d : D)
/-- a statement does what f says; ow, ow': the slots that alone hold their lists, before and behind; oc: at a continue -/
def FlOk (X : Cx) (Ω : Orc) (oc ow' : List Nat) (F0 H0 : Hp) (Dn : Ends) (h' : List Int) : Fl → Prop
  | .nx ρ' => ∀ F' H' σ', SR X.K Ω ow' F0 H0 F' H' σ' ρ' h' → Dn.nx σ' H'
  | .ct ρ' => ∀ F' H' σ', SR X.K Ω oc F0 H0 F' H' σ' ρ' h' → Dn.ct σ' H'
  | .ret d => ∀ v F' H', Stp Ω F0 H0 F' H' → Ω.OR h' H' → Dp X.K F' v d → Dn.rt v H'
def ES (X : Cx) (Ω : Orc) (oc ow : List Nat) (st : Stmt) (ow' : List Nat) (f : Lo → M Fl) : Prop := ∀ F0 H0 F H σ ρ h r h' Dn, SR X.K Ω ow F0 H0 F H σ ρ h → f ρ h = some (r, h') →
  FlOk X Ω oc ow' F0 H0 Dn h' r → WS X st Dn σ H
def ESs (X : Cx) (Ω : Orc) (oc ow : List Nat) (sts : List Stmt) (ow' : List Nat) (f : Lo → M Fl) : Prop := ∀ F0 H0 F H σ ρ h r h' Dn, SR X.K Ω ow F0 H0 F H σ ρ h → f ρ h = some (r, h') →
  FlOk X Ω oc ow' F0 H0 Dn h' r → WSs X sts Dn σ H
end PL

namespace PL
open PySem PySem.Spec PyProof.Rows L2

/-! ### operators on data -/
section
variable (X : Cx)
def OpS (f : Value → Value → Sem Value) (g : D → D → Option D) : Prop :=
  ∃ r, OpR X f r ∧ ∀ F H x y dx dy d Q, Same F H → Dp X.K F x dx → Dp X.K F y dy → g dx dy = some d → (∀ v F' H', Stq F H F' H' → Dp X.K F' v d → Q v H') → r x y H Q
def UnS (f : Value → Sem Value) (g : D → Option D) : Prop :=
  ∃ r, UnR X f r ∧ ∀ F H x dx d Q, Same F H → Dp X.K F x dx → g dx = some d → (∀ v F' H', Stq F H F' H' → Dp X.K F' v d → Q v H') → r x H Q
def CallS (f : Value) (g : List D → Option D) : Prop :=
  ∃ r, CallR X f r ∧ ∀ F H vs ds d Q, Same F H → DpAll X.K F vs ds → g ds = some d → (∀ v F' H', Stq F H F' H' → Dp X.K F' v d → Q v H') → r vs H Q
def IxS (g : D → D → Option D) : Prop :=
  ∃ r, IxR X r ∧ ∀ F H x y dx dy d Q, Same F H → Dp X.K F x dx → Dp X.K F y dy → g dx dy = some d → (∀ v F' H', Stq F H F' H' → Dp X.K F' v d → Q v H') → r x y H Q
end

/-! ### semantic combinators -/
abbrev SE := Lo → M D
abbrev ST := Lo → M Bool
abbrev SA := Lo → M (List D)
abbrev SS := Lo → M Fl
def rd (i : Nat) (ρ : Lo) : Option D := match ρ[i]? with
  | some (some d) => some d
  | _ => none
def eVar (i : Nat) : SE := fun ρ => ml (rd i ρ)
def eC (d : D) : SE := fun _ => mp d
def eOp (g : D → D → Option D) (a b : SE) : SE := fun ρ => mb (a ρ) fun x => mb (b ρ) fun y => ml (g x y)
def eUn (g : D → Option D) (a : SE) : SE := fun ρ => mb (a ρ) fun x => ml (g x)
def asB : D → Option Bool
  | .bool b => some b
  | _ => none
def tV (a : SE) : ST := fun ρ => mb (a ρ) fun x => ml (asB x)
def tAn (a b : ST) : ST := fun ρ => mb (a ρ) fun c => if c = true then b ρ else mp false
def tOu (a b : ST) : ST := fun ρ => mb (a ρ) fun c => if c = true then mp true else b ρ
def tNo (a : ST) : ST := fun ρ => mb (a ρ) fun c => mp (!c)
def eB (t : ST) : SE := fun ρ => mb (t ρ) fun c => mp (.bool c)
def eIf (t : ST) (a b : SE) : SE := fun ρ => mb (t ρ) fun c => if c = true then a ρ else b ρ
def aNil : SA := fun _ => mp []
def aCons (a : SE) (b : SA) : SA := fun ρ => mb (a ρ) fun x => mb (b ρ) fun xs => mp (x :: xs)
def eTup (a : SA) : SE := fun ρ => mb (a ρ) fun xs => if xs.length ≤ 1000 then mp (.tuple xs) else fun _ => none
def eLst (a : SA) : SE := fun ρ => mb (a ρ) fun xs => if xs.length ≤ 1000 then mp (.list xs) else fun _ => none
def eCall (F : List D → Option D) (a : SA) : SE := fun ρ => mb (a ρ) fun xs => ml (F xs)
def eChain (g g' : D → D → Option D) (a b c : SE) : SE := fun ρ => mb (a ρ) fun x => mb (b ρ) fun y => mb (ml (g x y)) fun z => mb (ml (asB z)) fun k =>
  if k = true then mb (c ρ) fun w => ml (g' y w) else mp (.bool false)

theorem rd_some {i : Nat} {ρ : Lo} {d : D} (e : rd i ρ = some d) : ρ[i]? = some (some d) := by
  unfold rd at e
  split at e
  · cases e; assumption
  · cases e

section
variable {X : Cx} {Ω : Orc} {ow : List Nat} {a b c : Expr} {fa fb fc : SE} {pos : Pos} {ta tb : ST}

/-! ### names, constants -/
theorem ev_var (i : Nat) {x : Str} (hN : X.N[i]? = some x := by rfl) (hv : Vis X.env.scope x := by first | exact Or.inl rfl | exact Or.inr (Or.inl rfl) | exact Or.inr (Or.inr rfl)) (ho : i ∉ ow := by decide)
    (hd : (x == ("__debug__" : Str)) = false := by decide) (hcd : (x == ("__classdict__" : Str)) = false := by decide) : EV X Ω ow (.Name x pos) (eVar i) := by
  intro F0 H0 F H σ ρ h d h' Q S e q
  obtain ⟨e1, rfl⟩ := ml_some e
  obtain ⟨v, e2, dv⟩ := S.val i d ho (rd_some e1)
  exact we_of (pe_var hN hv hd hcd) ⟨v, e2, q v F H (Stp.refl S.fh) S.orc dv⟩
theorem ev_const {e : Expr} {v : V} {d : D} (p : PE X e (tC v)) (hd : ∀ F, Dp X.K F v d) : EV X Ω ow e (eC d) := by
  intro F0 H0 F H σ ρ h d' h' Q S e q
  obtain ⟨rfl, rfl⟩ := mp_some e
  exact we_of p (q v F H (Stp.refl S.fh) S.orc (hd F))
theorem ev_int {i : Int} {j : Nat} : EV X Ω ow (.Constant (.int i) j pos) (eC (.int i)) := ev_const pe_int fun _ => .int i
theorem ev_bl {i : Bool} {j : Nat} : EV X Ω ow (.Constant (.bool i) j pos) (eC (.bool i)) := ev_const pe_bl fun _ => .bl i
theorem ev_non {j : Nat} : EV X Ω ow (.Constant .none j pos) (eC .none) := ev_const pe_non fun _ => .non
theorem ev_str {x : Str} {j : Nat} : EV X Ω ow (.Constant (.str x) j pos) (eC (.str x)) := ev_const pe_str fun _ => .str x

/-! ### operators -/
theorem ev_op {op : Operator} {g : D → D → Option D} (ho : OpS X (binaryOp op) g) (ha : EV X Ω ow a fa) (hb : EV X Ω ow b fb) : EV X Ω ow (.BinOp a op b pos) (eOp g fa fb) := by
  intro F0 H0 F H σ ρ h d h' Q S e q
  obtain ⟨x, h1, e1, e⟩ := mb_some e
  obtain ⟨y, h2, e2, e⟩ := mb_some e
  obtain ⟨e3, rfl⟩ := ml_some e
  obtain ⟨r, hr, hq⟩ := ho
  refine we_of (pe_op hr we we) ?_
  refine ha _ _ _ _ _ _ _ _ _ _ S e1 fun v F1 H1 s1 o1 d1 => ?_
  refine hb _ _ _ _ _ _ _ _ _ _ (S.next s1 o1) e2 fun w F2 H2 s2 o2 d2 => ?_
  exact hq _ _ _ _ _ _ _ _ s2.fh (Dp_mono s2.sf d1) d2 e3 fun v3 F3 H3 s3 d3 => q _ _ _ ((s1.trans s2).trans s3.stp) (s3.orc o2) d3
theorem ev_un {op : UnaryOp} {g : D → Option D} (ho : UnS X (unaryOp op) g) (ha : EV X Ω ow a fa) : EV X Ω ow (.UnaryOp op a pos) (eUn g fa) := by
  intro F0 H0 F H σ ρ h d h' Q S e q
  obtain ⟨x, h1, e1, e⟩ := mb_some e
  obtain ⟨e3, rfl⟩ := ml_some e
  obtain ⟨r, hr, hq⟩ := ho
  refine we_of (pe_un hr we) ?_
  refine ha _ _ _ _ _ _ _ _ _ _ S e1 fun v F1 H1 s1 o1 d1 => ?_
  exact hq _ _ _ _ _ _ s1.fh d1 e3 fun v3 F3 H3 s3 d3 => q _ _ _ (s1.trans s3.stp) (s3.orc o1) d3
theorem ev_cmp {op : CmpOp} {g : D → D → Option D} (ho : OpS X (compareOp op) g) (ha : EV X Ω ow a fa) (hb : EV X Ω ow b fb) (hm : behindInMarks op b = false := by rfl) : EV X Ω ow (.Compare a [op] [b] pos) (eOp g fa fb) := by
  intro F0 H0 F H σ ρ h d h' Q S e q
  obtain ⟨x, h1, e1, e⟩ := mb_some e
  obtain ⟨y, h2, e2, e⟩ := mb_some e
  obtain ⟨e3, rfl⟩ := ml_some e
  obtain ⟨r, hr, hq⟩ := ho
  refine we_of (pe_cmpR hr we we hm) ?_
  refine ha _ _ _ _ _ _ _ _ _ _ S e1 fun v F1 H1 s1 o1 d1 => ?_
  refine hb _ _ _ _ _ _ _ _ _ _ (S.next s1 o1) e2 fun w F2 H2 s2 o2 d2 => ?_
  exact hq _ _ _ _ _ _ _ _ s2.fh (Dp_mono s2.sf d1) d2 e3 fun v3 F3 H3 s3 d3 => q _ _ _ ((s1.trans s2).trans s3.stp) (s3.orc o2) d3
theorem asB_some {K : PySem.W.Frag} {H : Hp} {d : D} {b : Bool} {v : V} (e : asB d = some b) (h : Dp K H v d) : v = .bl b := by
  cases d with
  | bool x => cases e; cases h; rfl
  | _ => cases e
theorem et_cmp {op : CmpOp} {g : D → D → Option D} (ho : OpS X (compareOp op) g) (ha : EV X Ω ow a fa) (hb : EV X Ω ow b fb) (hm : behindInMarks op b = false := by rfl) : ET X Ω ow (.Compare a [op] [b] pos) (tV (eOp g fa fb)) := by
  intro F0 H0 F H σ ρ h k h' Q S e q
  obtain ⟨z, h3, e, z0⟩ := mb_some e
  obtain ⟨ez, rfl⟩ := ml_some z0
  obtain ⟨x, h1, e1, e⟩ := mb_some e
  obtain ⟨y, h2, e2, e⟩ := mb_some e
  obtain ⟨e3, rfl⟩ := ml_some e
  obtain ⟨r, hr, hq⟩ := ho
  refine wt_of (pt_cmpR hr we we hm) ?_
  refine ha _ _ _ _ _ _ _ _ _ _ S e1 fun v F1 H1 s1 o1 d1 => ?_
  refine hb _ _ _ _ _ _ _ _ _ _ (S.next s1 o1) e2 fun w F2 H2 s2 o2 d2 => ?_
  exact hq _ _ _ _ _ _ _ _ s2.fh (Dp_mono s2.sf d1) d2 e3 fun v3 F3 H3 s3 d3 => ⟨k, asB_some ez d3, q _ _ ((s1.trans s2).trans s3.stp) (s3.orc o2)⟩
/-- a test that is an expression with a bool -/
theorem et_val {e : Expr} {f : SE} (h : EV X Ω ow e f) (he : ∀ whole, isTrue e X.env whole = (do let v ← whole; standAt e.pos; holding [v] (truthy v)) := by intro _; rfl) : ET X Ω ow e (tV f) := by
  intro F0 H0 F H σ ρ hh k h' Q S e1 q
  obtain ⟨z, h3, e, z0⟩ := mb_some e1
  obtain ⟨ez, rfl⟩ := ml_some z0
  refine wt_of (pt_val we he) ?_
  exact h _ _ _ _ _ _ _ _ _ _ S e fun v F1 H1 s1 o1 d1 => ⟨k, asB_some ez d1, q _ _ s1 o1⟩
theorem ev_chain {op op' : CmpOp} {g g' : D → D → Option D} (ho : OpS X (compareOp op) g) (ho' : OpS X (compareOp op') g') (ha : EV X Ω ow a fa) (hb : EV X Ω ow b fb) (hc : EV X Ω ow c fc)
    (r1 : ∀ {r r'}, OpR X (compareOp op) r → OpR X (compareOp op') r' → PE X (.Compare a [op, op'] [b, c] pos) (tChain r r' (WE X a) (WE X b) (WE X c)) := by intro r r' h1 h2; exact pe_chain h1 h2 we we we) : EV X Ω ow (.Compare a [op, op'] [b, c] pos) (eChain g g' fa fb fc) := by
  intro F0 H0 F H σ ρ h d h' Q S e q
  obtain ⟨x, h1, e1, e⟩ := mb_some e
  obtain ⟨y, h2, e2, ea⟩ := mb_some e
  obtain ⟨z, h3, z3, eb⟩ := mb_some ea
  obtain ⟨k, h4, z4, e⟩ := mb_some eb
  obtain ⟨e3, y3⟩ := ml_some z3
  obtain ⟨e4, y4⟩ := ml_some z4
  clear ea eb z3 z4
  subst y4 y3
  obtain ⟨r, hr, hq⟩ := ho
  obtain ⟨r', hr', hq'⟩ := ho'
  refine we_of (r1 hr hr') ?_
  refine ha _ _ _ _ _ _ _ _ _ _ S e1 fun v F1 H1 s1 o1 d1 => ?_
  refine hb _ _ _ _ _ _ _ _ _ _ (S.next s1 o1) e2 fun w F2 H2 s2 o2 d2 => ?_
  refine hq _ _ _ _ _ _ _ _ s2.fh (Dp_mono s2.sf d1) d2 e3 fun v3 F3 H3 s3 d3 => ⟨k, asB_some e4 d3, ?_⟩
  have s03 := (s1.trans s2).trans s3.stp (Ω := Ω)
  cases k with
  | false =>
    rw [if_neg Bool.false_ne_true]
    rw [if_neg Bool.false_ne_true] at e
    obtain ⟨rfl, rfl⟩ := mp_some e
    exact q _ _ _ s03 (s3.orc o2) (.bl false)
  | true =>
    rw [if_pos rfl]
    rw [if_pos rfl] at e
    obtain ⟨w', h5, e5, e⟩ := mb_some e
    obtain ⟨e6, rfl⟩ := ml_some e
    refine hc _ _ _ _ _ _ _ _ _ _ (S.next s03 (s3.orc o2)) e5 fun u F4 H4 s4 o4 d4 => ?_
    exact hq' _ _ _ _ _ _ _ _ s4.fh (Dp_mono (s3.sf.trans s4.sf) d2) d4 e6 fun v5 F5 H5 s5 d5 => q _ _ _ ((s03.trans s4).trans s5.stp) (s5.orc o4) d5
theorem et_chain {op op' : CmpOp} {g g' : D → D → Option D} (ho : OpS X (compareOp op) g) (ho' : OpS X (compareOp op') g') (ha : EV X Ω ow a fa) (hb : EV X Ω ow b fb) (hc : EV X Ω ow c fc)
    (r1 : ∀ {r r'}, OpR X (compareOp op) r → OpR X (compareOp op') r' → PT X (.Compare a [op, op'] [b, c] pos) (tTest (tChain r r' (WE X a) (WE X b) (WE X c))) := by intro r r' h1 h2; exact pt_chain h1 h2 we we we) : ET X Ω ow (.Compare a [op, op'] [b, c] pos) (tV (eChain g g' fa fb fc)) := by
  intro F0 H0 F H σ ρ h kk h' Q S e q
  obtain ⟨zz, hz, e, z0⟩ := mb_some e
  obtain ⟨ez, rfl⟩ := ml_some z0
  obtain ⟨x, h1, e1, e⟩ := mb_some e
  obtain ⟨y, h2, e2, ea⟩ := mb_some e
  obtain ⟨z, h3, z3, eb⟩ := mb_some ea
  obtain ⟨k, h4, z4, e⟩ := mb_some eb
  obtain ⟨e3, y3⟩ := ml_some z3
  obtain ⟨e4, y4⟩ := ml_some z4
  clear ea eb z3 z4
  subst y4 y3
  obtain ⟨r, hr, hq⟩ := ho
  obtain ⟨r', hr', hq'⟩ := ho'
  refine wt_of (r1 hr hr') ?_
  refine ha _ _ _ _ _ _ _ _ _ _ S e1 fun v F1 H1 s1 o1 d1 => ?_
  refine hb _ _ _ _ _ _ _ _ _ _ (S.next s1 o1) e2 fun w F2 H2 s2 o2 d2 => ?_
  refine hq _ _ _ _ _ _ _ _ s2.fh (Dp_mono s2.sf d1) d2 e3 fun v3 F3 H3 s3 d3 => ⟨k, asB_some e4 d3, ?_⟩
  have s03 := (s1.trans s2).trans s3.stp (Ω := Ω)
  cases k with
  | false =>
    rw [if_neg Bool.false_ne_true]
    rw [if_neg Bool.false_ne_true] at e
    obtain ⟨rfl, rfl⟩ := mp_some e
    cases ez
    exact ⟨_, rfl, q _ _ s03 (s3.orc o2)⟩
  | true =>
    rw [if_pos rfl]
    rw [if_pos rfl] at e
    obtain ⟨w', h5, e5, e⟩ := mb_some e
    obtain ⟨e6, rfl⟩ := ml_some e
    refine hc _ _ _ _ _ _ _ _ _ _ (S.next s03 (s3.orc o2)) e5 fun u F4 H4 s4 o4 d4 => ?_
    exact hq' _ _ _ _ _ _ _ _ s4.fh (Dp_mono (s3.sf.trans s4.sf) d2) d4 e6 fun v5 F5 H5 s5 d5 => ⟨_, asB_some ez d5, q _ _ ((s03.trans s4).trans s5.stp) (s5.orc o4)⟩

/-! ### and, or, not, if -/
variable {rest : List Expr}
theorem ew_and1 (ha : ET X Ω ow a ta) : EW X Ω ow (.BoolOp .And [a] pos) ta := fun F0 H0 F H σ ρ h k h' Q S e q => ww_of (pw_and1 wt) (ha _ _ _ _ _ _ _ _ _ _ S e q)
theorem ew_or1 (ha : ET X Ω ow a ta) : EW X Ω ow (.BoolOp .Or [a] pos) ta := fun F0 H0 F H σ ρ h k h' Q S e q => ww_of (pw_or1 wt) (ha _ _ _ _ _ _ _ _ _ _ S e q)
theorem ew_and (ha : ET X Ω ow a ta) (hb : EW X Ω ow (.BoolOp .And (b :: rest) pos) tb) : EW X Ω ow (.BoolOp .And (a :: b :: rest) pos) (tAn ta tb) := by
  intro F0 H0 F H σ ρ h k h' Q S e q
  obtain ⟨c, h1, e1, e⟩ := mb_some e
  refine ww_of (pw_and wt ww) (ha _ _ _ _ _ _ _ _ _ _ S e1 fun F1 H1 s1 o1 => ?_)
  cases c with
  | true =>
    rw [if_pos rfl] at e ⊢
    exact hb _ _ _ _ _ _ _ _ _ _ (S.next s1 o1) e fun F2 H2 s2 o2 => q _ _ (s1.trans s2) o2
  | false =>
    rw [if_neg Bool.false_ne_true] at e ⊢
    obtain ⟨rfl, rfl⟩ := mp_some e
    exact q _ _ s1 o1
theorem ew_or (ha : ET X Ω ow a ta) (hb : EW X Ω ow (.BoolOp .Or (b :: rest) pos) tb) : EW X Ω ow (.BoolOp .Or (a :: b :: rest) pos) (tOu ta tb) := by
  intro F0 H0 F H σ ρ h k h' Q S e q
  obtain ⟨c, h1, e1, e⟩ := mb_some e
  refine ww_of (pw_or wt ww) (ha _ _ _ _ _ _ _ _ _ _ S e1 fun F1 H1 s1 o1 => ?_)
  cases c with
  | true =>
    rw [if_pos rfl] at e ⊢
    obtain ⟨rfl, rfl⟩ := mp_some e
    exact q _ _ s1 o1
  | false =>
    rw [if_neg Bool.false_ne_true] at e ⊢
    exact hb _ _ _ _ _ _ _ _ _ _ (S.next s1 o1) e fun F2 H2 s2 o2 => q _ _ (s1.trans s2) o2
theorem et_w {e : Expr} (h : EW X Ω ow e ta) : ET X Ω ow e ta := fun F0 H0 F H σ ρ hh k h' Q S e1 q => wt_of ww.pt (h _ _ _ _ _ _ _ _ _ _ S e1 q)
theorem et_not (ha : ET X Ω ow a ta) : ET X Ω ow (.UnaryOp .Not a pos) (tNo ta) := by
  intro F0 H0 F H σ ρ h k h' Q S e q
  obtain ⟨c, h1, e1, e⟩ := mb_some e
  obtain ⟨rfl, rfl⟩ := mp_some e
  exact wt_of (pt_not wt) (ha _ _ _ _ _ _ _ _ _ _ S e1 q)
/-- as values: each part a bool -/
theorem ev_one {op : BoolOp} (ha : EV X Ω ow a fa) : EV X Ω ow (.BoolOp op [a] pos) (eB (tV fa)) := by
  intro F0 H0 F H σ ρ h d h' Q S e q
  obtain ⟨k, h1, e, e1⟩ := mb_some e
  obtain ⟨z, h3, e, z0⟩ := mb_some e
  obtain ⟨ez, rfl⟩ := ml_some z0
  obtain ⟨rfl, rfl⟩ := mp_some e1
  refine we_of (pe_one we) (ha _ _ _ _ _ _ _ _ _ _ S e fun v F1 H1 s1 o1 d1 => q _ _ _ s1 o1 ?_)
  rw [asB_some ez d1]
  exact .bl k
theorem ev_and (ha : EV X Ω ow a fa) (hb : EV X Ω ow (.BoolOp .And (b :: rest) pos) (eB tb)) : EV X Ω ow (.BoolOp .And (a :: b :: rest) pos) (eB (tAn (tV fa) tb)) := by
  intro F0 H0 F H σ ρ h d h' Q S e q
  obtain ⟨k, h1, e, e1⟩ := mb_some e
  obtain ⟨rfl, rfl⟩ := mp_some e1
  obtain ⟨c, h2, e2, e⟩ := mb_some e
  obtain ⟨z, h3, e2, z0⟩ := mb_some e2
  obtain ⟨ez, rfl⟩ := ml_some z0
  refine we_of (pe_and we we) (ha _ _ _ _ _ _ _ _ _ _ S e2 fun v F1 H1 s1 o1 d1 => ⟨c, asB_some ez d1, ?_⟩)
  cases c with
  | true =>
    rw [if_pos rfl] at e ⊢
    refine hb _ _ _ _ _ _ _ (.bool k) _ _ (S.next s1 o1) ?_ fun v F2 H2 s2 o2 d2 => q _ _ _ (s1.trans s2) o2 d2
    unfold eB mb
    rw [e]
    rfl
  | false =>
    rw [if_neg Bool.false_ne_true] at e ⊢
    obtain ⟨rfl, rfl⟩ := mp_some e
    exact q _ _ _ s1 o1 (.bl _)
theorem ev_or (ha : EV X Ω ow a fa) (hb : EV X Ω ow (.BoolOp .Or (b :: rest) pos) (eB tb)) : EV X Ω ow (.BoolOp .Or (a :: b :: rest) pos) (eB (tOu (tV fa) tb)) := by
  intro F0 H0 F H σ ρ h d h' Q S e q
  obtain ⟨k, h1, e, e1⟩ := mb_some e
  obtain ⟨rfl, rfl⟩ := mp_some e1
  obtain ⟨c, h2, e2, e⟩ := mb_some e
  obtain ⟨z, h3, e2, z0⟩ := mb_some e2
  obtain ⟨ez, rfl⟩ := ml_some z0
  refine we_of (pe_or we we) (ha _ _ _ _ _ _ _ _ _ _ S e2 fun v F1 H1 s1 o1 d1 => ⟨c, asB_some ez d1, ?_⟩)
  cases c with
  | true =>
    rw [if_pos rfl] at e ⊢
    obtain ⟨rfl, rfl⟩ := mp_some e
    exact q _ _ _ s1 o1 (.bl _)
  | false =>
    rw [if_neg Bool.false_ne_true] at e ⊢
    refine hb _ _ _ _ _ _ _ (.bool k) _ _ (S.next s1 o1) ?_ fun v F2 H2 s2 o2 d2 => q _ _ _ (s1.trans s2) o2 d2
    unfold eB mb
    rw [e]
    rfl
theorem ev_not (ha : EV X Ω ow a fa) : EV X Ω ow (.UnaryOp .Not a pos) (eB (tNo (tV fa))) := by
  intro F0 H0 F H σ ρ h d h' Q S e q
  obtain ⟨k, h1, e, e1⟩ := mb_some e
  obtain ⟨rfl, rfl⟩ := mp_some e1
  obtain ⟨c, h2, e2, e⟩ := mb_some e
  obtain ⟨z, h3, e2, z0⟩ := mb_some e2
  obtain ⟨ez, rfl⟩ := ml_some z0
  obtain ⟨rfl, rfl⟩ := mp_some e
  exact we_of (pe_not we) (ha _ _ _ _ _ _ _ _ _ _ S e2 fun v F1 H1 s1 o1 d1 => ⟨c, asB_some ez d1, q _ _ _ s1 o1 (.bl _)⟩)
theorem ev_if {t : Expr} (ht : ET X Ω ow t ta) (ha : EV X Ω ow a fa) (hb : EV X Ω ow b fb) : EV X Ω ow (.IfExp t a b pos) (eIf ta fa fb) := by
  intro F0 H0 F H σ ρ h d h' Q S e q
  obtain ⟨c, h1, e1, e⟩ := mb_some e
  refine we_of (pe_ifExp wt we we) (ht _ _ _ _ _ _ _ _ _ _ S e1 fun F1 H1 s1 o1 => ?_)
  cases c with
  | true =>
    rw [if_pos rfl] at e ⊢
    exact ha _ _ _ _ _ _ _ _ _ _ (S.next s1 o1) e fun v F2 H2 s2 o2 d2 => q _ _ _ (s1.trans s2) o2 d2
  | false =>
    rw [if_neg Bool.false_ne_true] at e ⊢
    exact hb _ _ _ _ _ _ _ _ _ _ (S.next s1 o1) e fun v F2 H2 s2 o2 d2 => q _ _ _ (s1.trans s2) o2 d2

/-! ### displays, calls -/
variable {es : List Expr} {sa : SA}
theorem ea_nil : EA X Ω ow [] aNil := by
  intro F0 H0 F H σ ρ h d h' Q S e q
  obtain ⟨rfl, rfl⟩ := mp_some e
  exact wa_of pa_nil (q _ _ _ (Stp.refl S.fh) S.orc .nil)
theorem ea_cons (ha : EV X Ω ow a fa) (hr : EA X Ω ow es sa) (hs : starEach (a :: es) X.env = (false, eval a X.env) :: starEach es X.env := by rfl) : EA X Ω ow (a :: es) (aCons fa sa) := by
  intro F0 H0 F H σ ρ h d h' Q S e q
  obtain ⟨x, h1, e1, e⟩ := mb_some e
  obtain ⟨xs, h2, e2, e⟩ := mb_some e
  obtain ⟨rfl, rfl⟩ := mp_some e
  refine wa_of (pa_cons we wa hs) (ha _ _ _ _ _ _ _ _ _ _ S e1 fun v F1 H1 s1 o1 d1 => ?_)
  exact hr _ _ _ _ _ _ _ _ _ _ (S.next s1 o1) e2 fun vs F2 H2 s2 o2 d2 => q _ _ _ (s1.trans s2) o2 (.cons (Dp_mono s2.sf d1) d2)
theorem line1000 {n : Nat} (h : n ≤ 1000) : n ≤ sizeLine := Nat.le_of_lt (small1000 h)
theorem ev_tup {k : Nat} (ha : EA X Ω ow es sa) : EV X Ω ow (.Tuple es k pos) (eTup sa) := by
  intro F0 H0 F H σ ρ h d h' Q S e q
  obtain ⟨xs, h1, e1, e⟩ := mb_some e
  split at e
  · rename_i hl
    obtain ⟨rfl, rfl⟩ := mp_some e
    refine we_of (pe_tup wa) (ha _ _ _ _ _ _ _ _ _ _ S e1 fun vs F1 H1 s1 o1 d1 => ⟨line1000 (by rw [DpAll.length d1]; exact hl), fun p np => ?_⟩)
    have s2 : Stq F1 H1 (upd F1 p (.tup vs)) (upd H1 p (.tup vs)) := Stq.new s1.fh np
    exact q _ _ _ (s1.trans s2.stp) (s2.orc o1) (.tup (.inl (.inl upd_same)) (DpAll_mono s2.sf d1))
  · cases e
theorem eo_lst (ha : EA X Ω ow es sa) : EO X Ω ow (.List es pos) (eLst sa) := by
  intro F0 H0 F H σ ρ h d h' Q S e q
  obtain ⟨xs, h1, e1, e⟩ := mb_some e
  split at e
  · rename_i hl
    obtain ⟨rfl, rfl⟩ := mp_some e
    refine we_of (pe_lst wa) (ha _ _ _ _ _ _ _ _ _ _ S e1 fun vs F1 H1 s1 o1 d1 => ⟨line1000 (by rw [DpAll.length d1]; exact hl), fun p np => ?_⟩)
    have st := S.st.trans s1
    have n0 : H0 p = none := by
      cases z : H0 p with
      | none => rfl
      | some o => exact absurd np (st.al p (by rw [z]; simp))
    have nH : H p = none := by
      cases z : H p with
      | none => rfl
      | some o => exact absurd np (s1.al p (by rw [z]; simp))
    have oc : ¬ Ω.OC p := fun z => Ω.alloc _ _ o1 p z np
    refine q p F1 (upd H1 p (.lst vs)) ⟨s1.sf, s1.fh.trans (same_upd np), fun b o z n => ?_, s1.ap, fun b z => ?_⟩ (Ω.stable _ _ _ o1 fun b o _ z => same_upd np b o z) nH ⟨vs, xs, rfl, upd_same, d1, s1.fh.free np, n0, oc⟩
    · exact same_upd np b o (s1.kp b o z n)
    · exact Same.some (same_upd np) (s1.al b z)
  · cases e
/-- a new list as any other -/
theorem ev_of_eo {e : Expr} {f : SE} (h : EO X Ω ow e f) : EV X Ω ow e f := by
  intro F0 H0 F H σ ρ hh d h' Q S e1 q
  refine h _ _ _ _ _ _ _ _ _ _ S e1 fun p F1 H1 s1 o1 np o => ?_
  obtain ⟨xs, ds, rfl, ep, a, n, n0, oc⟩ := o
  have sF : Same F1 (upd F1 p (.lst xs)) := same_upd n
  refine q _ (upd F1 p (.lst xs)) H1 ⟨s1.sf.trans sF, fun b o z => ?_, s1.kp, fun b z w => ?_, s1.al⟩ o1 (.lst (.inl (.inl upd_same)) (DpAll_mono sF a))
  · by_cases hb : b = p
    · subst hb; rw [upd_same] at z; rw [ep]; exact z
    · rw [upd_ne hb] at z; exact s1.fh b o z
  · have hb : b ≠ p := by rintro rfl; exact z np
    rw [upd_ne hb]
    exact s1.ap b z w
theorem ev_callB {x : Str} {p : Pos} {id : String} {g : List D → Option D} (hc : CallS X (.builtin id) g) (hm : X.mg x = none) (ha : EA X Ω ow (a :: es) sa) (hg : Gl X x := by rfl) (hv : bootBuiltins x = some (.builtin id) := by decide +kernel)
    (hn : x ≠ "__name__" := by decide) (hdb : (x == ("__debug__" : Str)) = false := by decide)
    (he : starEach (a :: es) X.env = (false, eval a X.env) :: starEach es X.env := by rfl) (hpl : (backTo pos (starEach es X.env)).any (·.1) = false := by rfl) : EV X Ω ow (.Call (.Name x p) (a :: es) [] pos) (eCall g sa) := by
  intro F0 H0 F H σ ρ h d h' Q S e q
  obtain ⟨xs, h1, e1, e⟩ := mb_some e
  obtain ⟨e2, rfl⟩ := ml_some e
  obtain ⟨r, hr, hq⟩ := hc
  refine we_of (pe_callB hr hg hm hv wa hn hdb he hpl) (ha _ _ _ _ _ _ _ _ _ _ S e1 fun vs F1 H1 s1 o1 d1 => ?_)
  exact hq _ _ _ _ _ _ s1.fh d1 e2 fun v F2 H2 s2 d2 => q _ _ _ (s1.trans s2.stp) (s2.orc o1) d2
theorem ev_callTy {x : Str} {p : Pos} {id : String} {g : List D → Option D} (hc : CallS X (.type id) g) (hm : X.mg x = none) (ha : EA X Ω ow (a :: es) sa) (hg : Gl X x := by rfl) (hv : bootBuiltins x = some (.type id) := by decide +kernel)
    (hn : x ≠ "__name__" := by decide) (hdb : (x == ("__debug__" : Str)) = false := by decide)
    (he : starEach (a :: es) X.env = (false, eval a X.env) :: starEach es X.env := by rfl) (hpl : (backTo pos (starEach es X.env)).any (·.1) = false := by rfl) : EV X Ω ow (.Call (.Name x p) (a :: es) [] pos) (eCall g sa) := by
  intro F0 H0 F H σ ρ h d h' Q S e q
  obtain ⟨xs, h1, e1, e⟩ := mb_some e
  obtain ⟨e2, rfl⟩ := ml_some e
  obtain ⟨r, hr, hq⟩ := hc
  refine we_of (pe_callTy hr hg hm hv wa hn hdb he hpl) (ha _ _ _ _ _ _ _ _ _ _ S e1 fun vs F1 H1 s1 o1 d1 => ?_)
  exact hq _ _ _ _ _ _ s1.fh d1 e2 fun v F2 H2 s2 d2 => q _ _ _ (s1.trans s2.stp) (s2.orc o1) d2
/-- subscripts -/
theorem ev_ix {g : D → D → Option D} (ho : IxS X g) (ha : EV X Ω ow a fa) (hb : EV X Ω ow b fb) (hs : PlainIx b := by intro _ _; rfl) : EV X Ω ow (.Subscript a b pos) (eOp g fa fb) := by
  intro F0 H0 F H σ ρ h d h' Q S e q
  obtain ⟨x, h1, e1, e⟩ := mb_some e
  obtain ⟨y, h2, e2, e⟩ := mb_some e
  obtain ⟨e3, rfl⟩ := ml_some e
  obtain ⟨r, hr, hq⟩ := ho
  refine we_of (pe_ix hr we we hs) ?_
  refine ha _ _ _ _ _ _ _ _ _ _ S e1 fun v F1 H1 s1 o1 d1 => ?_
  refine hb _ _ _ _ _ _ _ _ _ _ (S.next s1 o1) e2 fun w F2 H2 s2 o2 d2 => ?_
  exact hq _ _ _ _ _ _ _ _ s2.fh (Dp_mono s2.sf d1) d2 e3 fun v3 F3 H3 s3 d3 => q _ _ _ ((s1.trans s2).trans s3.stp) (s3.orc o2) d3

/-! ### calls of the program's own defs -/
/-- the promise of a def that computes F -/
def spF (K : PySem.W.Frag) (F : List D → Option D) (n : Nat) : Sp := fun vs H Q _ => vs.length = n ∧ ∃ Fz ds r, Same Fz H ∧ DpAll K Fz vs ds ∧ F ds = some r ∧ ∀ v F' H', Stq Fz H F' H' → Dp K F' v r → Q v H'
variable {K0 : PySem.W.Frag} {k : Nat} {f : Addr} {fd : FuncData} {ps : List Str}
theorem ev_call {x : Str} {p : Pos} {Fn : List D → Option D} {n : Nat} (G : FnOk X.prog X.w X.K X.mg X.base CX0 k f fd ps (spF X.K Fn n)) (hr : Room k X.A) (hm : X.mg x = some (.ref f)) (hk : PySem.W.keepIn X.K (.ref f) = true) (hb : Binds X.K fd ps [])
    (ha : EA X Ω ow (a :: es) sa) (hn : (a :: es).length = n := by rfl) (hl : ∀ ρ h ds h', sa ρ h = some (ds, h') → ds.length = n) (hg : Gl X x := by rfl) (hdb : (x == ("__debug__" : Str)) = false := by decide) (he : starEach (a :: es) X.env = (false, eval a X.env) :: starEach es X.env := by rfl) (hpl : (backTo pos (starEach es X.env)).any (·.1) = false := by rfl) :
    EV X Ω ow (.Call (.Name x p) (a :: es) [] pos) (eCall Fn sa) := by
  intro F0 H0 F H σ ρ h d h' Q S e q
  obtain ⟨xs, h1, e1, e⟩ := mb_some e
  obtain ⟨e2, rfl⟩ := ml_some e
  refine we_of (pe_call G hr hg hm hk hb .nil pass0 wa hdb he hpl) (ha _ _ _ _ _ _ _ _ _ _ S e1 fun vs F1 H1 s1 o1 d1 => ?_)
  rw [List.append_nil]
  exact ⟨by rw [DpAll.length d1]; exact hl _ _ _ _ e1, F1, xs, d, s1.fh, d1, e2, fun v F2 H2 s2 d2 => q _ _ _ (s1.trans s2.stp) (s2.orc o1) d2⟩
end
end PL

namespace PL
open PySem PySem.Spec PyProof.Rows L2

/-! ### stores -/
section
variable {K : PySem.W.Frag} {Ω : Orc} {ow : List Nat} {F0 H0 F H F1 H1 : Hp} {σ : L2.St} {ρ : Lo} {h h1 : List Int}
theorem get_set_ne {α : Type} {l : List α} {i j : Nat} {x : α} (h : i ≠ j) : (l.set i x)[j]? = l[j]? := List.getElem?_set_ne h
theorem SR.set {i : Nat} {v : V} {d : D} (S : SR K Ω ow F0 H0 F H σ ρ h) (hi : i ∉ ow) (hs : Ω.slot ≠ some i) (dv : Dp K F v d) : SR K Ω ow F0 H0 F H (σ.set i (some v)) (ρ.set i (some d)) h := by
  have other : ∀ j, j ∈ ow → i ≠ j := fun j hj e => hi (e ▸ hj)
  refine ⟨S.st, by simp [S.len], fun j e hj he => ?_, fun j e hj he => ?_, fun j k p d' e hj hk h1 h2 h3 h4 => ?_, S.orc, S.ocf, fun j hj => ?_⟩
  · by_cases hij : i = j
    · subst hij
      have hl : i < ρ.length := by
        have := List.getElem?_eq_some_iff.mp he
        obtain ⟨q, _⟩ := this
        simpa using q
      rw [List.getElem?_set_self hl] at he
      cases he
      exact ⟨v, List.getElem?_set_self (by rw [S.len]; exact hl), dv⟩
    · rw [get_set_ne hij] at he ⊢
      exact S.val j e hj he
  · rw [get_set_ne (other j hj)] at he ⊢
    exact S.own j e hj he
  · rw [get_set_ne (other j hj)] at h1 h3
    rw [get_set_ne (other k hk)] at h2 h4
    exact S.apart j k p d' e hj hk h1 h2 h3 h4
  · have hij : i ≠ j := fun e => hs (e ▸ hj)
    rw [get_set_ne hij, get_set_ne hij]
    exact S.pool j hj
theorem SR.setO {i : Nat} {p : Addr} {d : D} {Hb Fb : Hp} {hb : List Int} (S : SR K Ω ow F0 H0 F H σ ρ h) (Sb : SR K Ω ow F0 H0 Fb Hb σ ρ hb) (np : Hb p = none) (hi : i ∉ ow) (hs : Ω.slot ≠ some i) (o : OwnAt K Ω H0 F H p d) : SR K Ω (i :: ow) F0 H0 F H (σ.set i (some (.ref p))) (ρ.set i (some d)) h := by
  have other : ∀ j, j ∈ ow → i ≠ j := fun j hj e => hi (e ▸ hj)
  have lt : ∀ {e}, (ρ.set i (some d))[i]? = some (some e) → i < ρ.length ∧ e = d := fun {e} he => by
    have := List.getElem?_eq_some_iff.mp he
    obtain ⟨q, _⟩ := this
    have hl : i < ρ.length := by simpa using q
    rw [List.getElem?_set_self hl] at he
    cases he
    exact ⟨hl, rfl⟩
  have none_at : ∀ j, j ∈ ow → ∀ e, ρ[j]? = some (some e) → σ[j]? = some (some (.ref p)) → False := fun j hj e he hp => by
    obtain ⟨p', e1, _, _, _, e2, _⟩ := Sb.own j e hj he
    rw [hp] at e1
    cases e1
    rw [np] at e2
    cases e2
  refine ⟨S.st, by simp [S.len], fun j e hj he => ?_, fun j e hj he => ?_, fun j k q d' e hj hk h1 h2 h3 h4 => ?_, S.orc, S.ocf, fun j hj => ?_⟩
  · simp only [List.mem_cons, not_or] at hj
    rw [get_set_ne (Ne.symm hj.1)] at he ⊢
    exact S.val j e hj.2 he
  · rcases List.mem_cons.mp hj with rfl | hj
    · obtain ⟨hl, rfl⟩ := lt he
      exact ⟨p, List.getElem?_set_self (by rw [S.len]; exact hl), o⟩
    · rw [get_set_ne (other j hj)] at he ⊢
      exact S.own j e hj he
  · rcases List.mem_cons.mp hj with ej | hj1
    · rcases List.mem_cons.mp hk with ek | hk1
      · exact ej.trans ek.symm
      · subst ej
        obtain ⟨hl, rfl⟩ := lt h1
        rw [List.getElem?_set_self (by rw [S.len]; exact hl)] at h3
        cases h3
        rw [get_set_ne (other k hk1)] at h2 h4
        exact (none_at k hk1 e h2 h4).elim
    · rcases List.mem_cons.mp hk with ek | hk1
      · subst ek
        obtain ⟨hl, rfl⟩ := lt h2
        rw [List.getElem?_set_self (by rw [S.len]; exact hl)] at h4
        cases h4
        rw [get_set_ne (other j hj1)] at h1 h3
        exact (none_at j hj1 d' h1 h3).elim
      · rw [get_set_ne (other j hj1)] at h1 h3
        rw [get_set_ne (other k hk1)] at h2 h4
        exact S.apart j k q d' e hj1 hk1 h1 h2 h3 h4
  · have hij : i ≠ j := fun e => hs (e ▸ hj)
    rw [get_set_ne hij, get_set_ne hij]
    exact S.pool j hj
/-- the list in slot i changes -/
theorem SR.chg {i : Nat} {p : Addr} {d : D} {xs : List V} {ds : List D} (S : SR K Ω ow F0 H0 F H σ ρ h) (hi : i ∈ ow) (hρ : ρ[i]? = some (some d)) (hσ : σ[i]? = some (some (.ref p))) (a : DpAll K F xs ds) :
    SR K Ω ow F0 H0 F (upd H p (.lst xs)) σ (ρ.set i (some (.list ds))) h := by
  obtain ⟨p', e1, xs', ds', rfl, e2, a', n, n0, oc⟩ := S.own i d hi hρ
  rw [hσ] at e1
  cases e1
  have hl : i < ρ.length := (List.getElem?_eq_some_iff.mp hρ).1
  have fp : ∀ {q : Addr} {o}, F q = some o → q ≠ p := fun {q o} e z => by subst z; rw [n] at e; cases e
  have lt : ∀ {e}, (ρ.set i (some (.list ds)))[i]? = some (some e) → e = .list ds := fun {e} he => by
    rw [List.getElem?_set_self hl] at he
    cases he
    rfl
  refine ⟨⟨S.st.sf, fun q o e => by rw [upd_ne (fp e)]; exact S.fh q o e, fun q o e z => ?_, S.st.ap, fun q z => ?_⟩, by simp [S.len], fun j e hj he => ?_, fun j e hj he => ?_, fun j k q d' e hj hk h1 h2 h3 h4 => ?_, ?_, S.ocf, fun j hj => ?_⟩
  · rw [upd_ne (by rintro rfl; rw [n0] at e; cases e)]
    exact S.st.kp q o e z
  · by_cases hq : q = p
    · subst hq; rw [upd_same]; simp
    · rw [upd_ne hq]; exact S.st.al q z
  · have hij : i ≠ j := fun z => hj (z ▸ hi)
    rw [get_set_ne hij] at he
    exact S.val j e hj he
  · by_cases hij : i = j
    · subst hij
      rw [lt he]
      exact ⟨p, hσ, xs, ds, rfl, upd_same, a, n, n0, oc⟩
    · rw [get_set_ne hij] at he
      obtain ⟨q, e3, xs2, ds2, rfl, e4, a2, n2, n3, oc2⟩ := S.own j e hj he
      have hq : q ≠ p := fun z => hij (S.apart i j p _ _ hi hj hρ he hσ (by rw [e3, z]))
      exact ⟨q, e3, xs2, ds2, rfl, by rw [upd_ne hq]; exact e4, a2, n2, n3, oc2⟩
  · have g : ∀ {j e}, j ∈ ow → (ρ.set i (some (.list ds)))[j]? = some (some e) → ∃ e', ρ[j]? = some (some e') := fun {j e} hj he => by
      by_cases hij : i = j
      · subst hij; exact ⟨_, hρ⟩
      · rw [get_set_ne hij] at he; exact ⟨e, he⟩
    obtain ⟨d1, g1⟩ := g hj h1
    obtain ⟨d2, g2⟩ := g hk h2
    exact S.apart j k q d1 d2 hj hk g1 g2 h3 h4
  · exact Ω.stable _ _ _ S.orc fun q o z e => by rw [upd_ne (by rintro rfl; exact oc z)]; exact e
  · obtain ⟨b1, b2⟩ := S.pool j hj
    have hij : i ≠ j := fun e => by rw [e, b2] at hρ; cases hρ
    rw [get_set_ne hij]
    exact ⟨b1, b2⟩
/-- all slots out of the list are as they were -/
def AgreeOff (sl : List Nat) (σ σ' : L2.St) : Prop := σ'.length = σ.length ∧ ∀ j, j ∉ sl → σ'[j]? = σ[j]?
theorem AgreeOff.wipe {sl : List Nat} {σ σ' : L2.St} (a : AgreeOff sl σ σ') {vs : List Nat} (sub : ∀ i ∈ sl, i ∈ vs) : L2.wipe σ' vs = L2.wipe σ vs := by
  have get : ∀ (τ : L2.St) (ws : List Nat) (j : Nat), (L2.wipe τ ws)[j]? = if j ∈ ws then (if j < τ.length then some none else none) else τ[j]? := by
    intro τ ws
    induction ws with
    | nil => intro j; simp [L2.wipe]
    | cons w ws ih =>
      intro j
      show ((L2.wipe τ ws).set w none)[j]? = _
      by_cases hw : w = j
      · subst hw
        by_cases hl : w < τ.length
        · rw [List.getElem?_set_self (by rw [wipe_length]; exact hl)]; simp [hl]
        · rw [List.getElem?_eq_none (by rw [List.length_set, wipe_length]; omega)]; simp [hl]
      · rw [get_set_ne hw, ih j]
        have : j ≠ w := fun e => hw e.symm
        simp [this]
  apply List.ext_getElem?
  intro j
  rw [get, get, a.1]
  by_cases hj : j ∈ vs
  · simp [hj]
  · simp only [hj, if_false]
    exact a.2 j fun z => hj (sub j z)
end

/-! ### targets -/
def WG (X : Cx) (tg : Expr) : TG := fun v σ H Q => ∀ pins s u, Inv X pins σ H s → RelV v u → wpAny (model X.prog X.w) X.A (assign tg X.env u) (fun _ s' => ∃ σ' H', Inv X pins σ' H' s' ∧ Q σ' H') X.xe s
def WGs (X : Cx) (tgs : List Expr) : TGs := fun vs σ H Q => ∀ pins s us, Inv X pins σ H s → Vals vs us → wpAny (model X.prog X.w) X.A (assignInOrder ((assignEach tgs X.env).map (·.2)) us) (fun _ s' => ∃ σ' H', Inv X pins σ' H' s' ∧ Q σ' H') X.xe s
theorem wg {X : Cx} {tg : Expr} : PG X tg (WG X tg) := ⟨fun pins s _ _ _ u _ I r h => h pins s u I r⟩
theorem wgs {X : Cx} {tgs : List Expr} : PGs X tgs (WGs X tgs) := ⟨fun pins s _ _ _ us _ I r h => h pins s us I r⟩
theorem wg_of {X : Cx} {tg : Expr} {t : TG} {v σ H Q} (p : PG X tg t) (h : t v σ H Q) : WG X tg v σ H Q := fun pins s u I r => p.run pins s σ H v u Q I r h
theorem wgs_of {X : Cx} {tgs : List Expr} {t : TGs} {vs σ H Q} (p : PGs X tgs t) (h : t vs σ H Q) : WGs X tgs vs σ H Q := fun pins s us I r => p.run pins s σ H vs us Q I r h
abbrev SG := D → Lo → Option Lo
abbrev SGs := List D → Lo → Option Lo
def EG (X : Cx) (Ω : Orc) (ow : List Nat) (tg : Expr) (sl : List Nat) (t : SG) : Prop := ∀ F0 H0 F H σ ρ h d v ρ' Q, SR X.K Ω ow F0 H0 F H σ ρ h → Dp X.K F v d → t d ρ = some ρ' →
  (∀ σ', AgreeOff sl σ σ' → SR X.K Ω ow F0 H0 F H σ' ρ' h → Q σ' H) → WG X tg v σ H Q
def EGs (X : Cx) (Ω : Orc) (ow : List Nat) (tgs : List Expr) (sl : List Nat) (t : SGs) : Prop := ∀ F0 H0 F H σ ρ h ds vs ρ' Q, SR X.K Ω ow F0 H0 F H σ ρ h → DpAll X.K F vs ds → t ds ρ = some ρ' →
  (∀ σ', AgreeOff sl σ σ' → SR X.K Ω ow F0 H0 F H σ' ρ' h → Q σ' H) → WGs X tgs vs σ H Q
def gN (i : Nat) : SG := fun d ρ => some (ρ.set i (some d))
def gsNil : SGs := fun ds ρ => match ds with
  | [] => some ρ
  | _ => none
def gsCons (t : SG) (u : SGs) : SGs := fun ds ρ => match ds with
  | d :: r => (t d ρ).bind fun ρ1 => u r ρ1
  | [] => none
def gT (n : Nat) (t : SGs) : SG := fun d ρ => match d with
  | .tuple ds => if ds.length = n then t ds ρ else none
  | _ => none
section
variable {X : Cx} {Ω : Orc} {ow oc : List Nat} {pos : Pos}
theorem eg_name (i : Nat) {x : Str} (hN : X.N.Nodup) (hs : Ω.slot ≠ some i) (hi : X.N[i]? = some x := by rfl) (hx : Loc X.env.scope x := by first | exact Or.inl rfl | exact Or.inr rfl) (ho : i ∉ ow := by decide)
    (hf : X.fn x = true ∨ X.env.scope.names.lookup x = some .local := by first | exact .inl rfl | exact .inr rfl) : EG X Ω ow (.Name x pos) [i] (gN i) := by
  intro F0 H0 F H σ ρ h d v ρ' Q S dv e q
  cases e
  refine wg_of (pg_name hN hi hx hf) (q _ ⟨by simp, fun j hj => ?_⟩ (S.set ho hs dv))
  exact get_set_ne (by simpa [eq_comm] using hj)
theorem egs_nil : EGs X Ω ow [] [] gsNil := by
  intro F0 H0 F H σ ρ h ds vs ρ' Q S dv e q
  cases ds with
  | cons _ _ => cases e
  | nil =>
    cases e
    cases dv
    exact wgs_of pgs_nil ⟨rfl, q σ ⟨rfl, fun _ _ => rfl⟩ S⟩
theorem egs_cons {e : Expr} {es : List Expr} {sl sl' : List Nat} {t : SG} {u : SGs} (h1 : EG X Ω ow e sl t) (h2 : EGs X Ω ow es sl' u) (hs : (assignEach (e :: es) X.env).map (·.2) = assign e X.env :: (assignEach es X.env).map (·.2) := by rfl) : EGs X Ω ow (e :: es) (sl ++ sl') (gsCons t u) := by
  intro F0 H0 F H σ ρ h ds vs ρ' Q S dv e q
  cases ds with
  | nil => cases e
  | cons d ds =>
    cases dv with
    | cons d1 dr =>
      obtain ⟨ρ1, e1, e2⟩ := Option.bind_eq_some_iff.mp e
      refine wgs_of (pgs_cons wg wgs hs) ⟨_, _, rfl, h1 _ _ _ _ _ _ _ _ _ _ _ S d1 e1 fun σ1 a1 S1 => ?_⟩
      refine h2 _ _ _ _ _ _ _ _ _ _ _ S1 dr e2 fun σ2 a2 S2 => q σ2 ⟨a2.1.trans a1.1, fun j hj => ?_⟩ S2
      simp only [List.mem_append, not_or] at hj
      exact (a2.2 j hj.2).trans (a1.2 j hj.1)
theorem eg_tup {es : List Expr} {k n : Nat} {sl : List Nat} {t : SGs} (hc : X.calm = true) (hg : EGs X Ω ow es sl t) (hn : (assignEach es X.env).length = n := by rfl) (hst : (assignEach es X.env).findIdx? (·.1) = none := by rfl) : EG X Ω ow (.Tuple es k pos) sl (gT n t) := by
  intro F0 H0 F H σ ρ h d v ρ' Q S dv e q
  cases d with
  | tuple ds =>
    have e' : (if ds.length = n then t ds ρ else none) = some ρ' := e
    split at e'
    · rename_i hl
      cases dv with
      | tup sq da =>
        refine wg_of (pg_tup hc wgs hn hst) ⟨_, _, rfl, sqT_mono S.fh sq, by rw [DpAll.length da]; exact hl, hg _ _ _ _ _ _ _ _ _ _ _ S da e' q⟩
    · cases e'
  | _ => cases e

/-! ### statements -/
def sRet (f : SE) : SS := fun ρ => mb (f ρ) fun d => mp (.ret d)
def sSet (g : SG) (f : SE) : SS := fun ρ => mb (f ρ) fun d => mb (ml (g d ρ)) fun ρ' => mp (.nx ρ')
def sIf (t : ST) (a b : SS) : SS := fun ρ => mb (t ρ) fun c => if c = true then a ρ else b ρ
def sNil : SS := fun ρ => mp (.nx ρ)
def sSeq (a b : SS) : SS := fun ρ => mb (a ρ) fun r => match r with
  | .nx ρ' => b ρ'
  | .ct ρ' => mp (.ct ρ')
  | .ret d => mp (.ret d)
def sCt : SS := fun ρ => mp (.ct ρ)
variable {a : Expr} {fa : SE} {ow' ow2 : List Nat}
theorem es_ret (ha : EV X Ω ow a fa) : ES X Ω oc ow (.Return (some a) pos) ow' (sRet fa) := by
  intro F0 H0 F H σ ρ h r h' Dn S e q
  obtain ⟨d, h1, e1, e⟩ := mb_some e
  obtain ⟨rfl, rfl⟩ := mp_some e
  exact ws_of (ps_ret we) (ha _ _ _ _ _ _ _ _ _ _ S e1 fun v F1 H1 s1 o1 d1 => q v F1 H1 (S.st.trans s1) o1 d1)
theorem es_asg {tg : Expr} {sl : List Nat} {g : SG} (ha : EV X Ω ow a fa) (hg : EG X Ω ow tg sl g) (hs : swapsWithSole [tg] a pos.line X.env = pure false := by rfl) (hw : swappedStores [tg] a X.env = pure none := by rfl)
    (h1 : (assignEach [tg] X.env).map (·.2) = [assign tg X.env] := by rfl) : ES X Ω oc ow (.Assign [tg] a pos) ow (sSet g fa) := by
  intro F0 H0 F H σ ρ h r h' Dn S e q
  obtain ⟨d, h2, e1, e⟩ := mb_some e
  obtain ⟨ρ1, h3, z2, e⟩ := mb_some e
  obtain ⟨rfl, rfl⟩ := mp_some e
  obtain ⟨e2, rfl⟩ := ml_some z2
  refine ws_of (ps_asg we wg hs hw h1) (ha _ _ _ _ _ _ _ _ _ _ S e1 fun v F1 H1 s1 o1 d1 => ?_)
  exact hg _ _ _ _ _ _ _ _ _ _ _ (S.next s1 o1) d1 e2 fun σ' _ S' => q _ _ _ S'
theorem es_set (i : Nat) {x : Str} {pos' : Pos} (hN : X.N.Nodup) (ho : Ω.slot ≠ some i) (ha : EV X Ω ow a fa) (hi : X.N[i]? = some x := by rfl) (hx : Loc X.env.scope x := by first | exact Or.inl rfl | exact Or.inr rfl) (hw : i ∉ ow := by decide)
    (hs : swapsWith a (some (.Name x pos')) pos.line X.env = pure false := by rfl) (hf : X.fn x = true ∨ X.env.scope.names.lookup x = some .local := by first | exact .inl rfl | exact .inr rfl) :
    ES X Ω oc ow (.Assign [.Name x pos'] a pos) ow (sSet (gN i) fa) := by
  intro F0 H0 F H σ ρ h r h' Dn S e q
  obtain ⟨d, h2, e1, e⟩ := mb_some e
  obtain ⟨ρ1, h3, z2, e⟩ := mb_some e
  obtain ⟨rfl, rfl⟩ := mp_some e
  obtain ⟨e2, rfl⟩ := ml_some z2
  cases e2
  refine ws_of (ps_set hN hi hx we hs hf) (ha _ _ _ _ _ _ _ _ _ _ S e1 fun v F1 H1 s1 o1 d1 => ?_)
  exact q _ _ _ ((S.next s1 o1).set hw ho d1)
theorem es_setO (i : Nat) {x : Str} {pos' : Pos} (hN : X.N.Nodup) (ho : Ω.slot ≠ some i) (ha : EO X Ω ow a fa) (hi : X.N[i]? = some x := by rfl) (hx : Loc X.env.scope x := by first | exact Or.inl rfl | exact Or.inr rfl) (hw : i ∉ ow := by decide)
    (hs : swapsWith a (some (.Name x pos')) pos.line X.env = pure false := by rfl) (hf : X.fn x = true ∨ X.env.scope.names.lookup x = some .local := by first | exact .inl rfl | exact .inr rfl) :
    ES X Ω oc ow (.Assign [.Name x pos'] a pos) (i :: ow) (sSet (gN i) fa) := by
  intro F0 H0 F H σ ρ h r h' Dn S e q
  obtain ⟨d, h2, e1, e⟩ := mb_some e
  obtain ⟨ρ1, h3, z2, e⟩ := mb_some e
  obtain ⟨rfl, rfl⟩ := mp_some e
  obtain ⟨e2, rfl⟩ := ml_some z2
  cases e2
  refine ws_of (ps_set hN hi hx we hs hf) (ha _ _ _ _ _ _ _ _ _ _ S e1 fun p F1 H1 s1 o1 np d1 => ?_)
  exact q _ _ _ ((S.next s1 o1).setO S np hw ho d1)
/-- a, b = x, y -/
def aPar2 (i j : Nat) (sa : SA) : SS := fun ρ => mb (sa ρ) fun ds => match ds with
  | [d, e] => mp (.nx ((ρ.set i (some d)).set j (some e)))
  | _ => fun _ => none
theorem es_par (i j : Nat) {x y : Str} {b : Expr} {sa : SA} {px py pt : Pos} {kt k2 : Nat} {pt2 : Pos} (hc : X.calm = true) (hN : X.N.Nodup) (hso : Ω.slot ≠ some i) (hsp : Ω.slot ≠ some j) (ha : EA X Ω ow [a, b] sa)
    (hi : X.N[i]? = some x := by rfl) (hj : X.N[j]? = some y := by rfl) (hij : i ≠ j := by decide) (hoi : i ∉ ow := by decide) (hoj : j ∉ ow := by decide)
    (hx : X.env.scope.names.lookup x = some .local := by rfl) (hy : X.env.scope.names.lookup y = some .local := by rfl)
    (hw : swappedStores [.Tuple [.Name x px, .Name y py] kt pt] (.Tuple [a, b] k2 pt2) X.env = pure (some [x, y]) := by rfl)
    (hs : swapsWithSole [.Tuple [.Name x px, .Name y py] kt pt] (.Tuple [a, b] k2 pt2) pos.line X.env = pure false := by rfl) :
    ES X Ω oc ow (.Assign [.Tuple [.Name x px, .Name y py] kt pt] (.Tuple [a, b] k2 pt2) pos) ow (aPar2 i j sa) := by
  intro F0 H0 F H σ ρ h r h' Dn S e q
  obtain ⟨ds, h2, e1, e⟩ := mb_some e
  match ds, e, e1 with
  | [d1, d2], e, e1 =>
    obtain ⟨rfl, rfl⟩ := mp_some e
    refine ws_of (ps_par hc hN hi hj hij hx hy wa hw hs) (ha _ _ _ _ _ _ _ _ _ _ S e1 fun vs F1 H1 s1 o1 da => ?_)
    cases da with
    | cons a1 ar =>
      cases ar with
      | cons a2 ar =>
        cases ar
        exact ⟨_, _, rfl, q _ _ _ (((S.next s1 o1).set hoi hso a1).set hoj hsp a2)⟩
theorem es_if {t : Expr} {ta : ST} {A B : List Stmt} {fA fB : SS} (ht : ET X Ω ow t ta) (hA : ESs X Ω oc ow A ow' fA) (hB : ESs X Ω oc ow B ow' fB) : ES X Ω oc ow (.If t A B pos) ow' (sIf ta fA fB) := by
  intro F0 H0 F H σ ρ h r h' Dn S e q
  obtain ⟨c, h1, e1, e⟩ := mb_some e
  refine ws_of (ps_if wt wss wss) (ht _ _ _ _ _ _ _ _ _ _ S e1 fun F1 H1 s1 o1 => ?_)
  cases c with
  | true =>
    rw [if_pos rfl] at e ⊢
    exact hA _ _ _ _ _ _ _ _ _ _ (S.next s1 o1) e q
  | false =>
    rw [if_neg Bool.false_ne_true] at e ⊢
    exact hB _ _ _ _ _ _ _ _ _ _ (S.next s1 o1) e q
theorem es_ct : ES X Ω ow ow (.Continue pos) ow' sCt := by
  intro F0 H0 F H σ ρ h r h' Dn S e q
  obtain ⟨rfl, rfl⟩ := mp_some e
  exact ws_of ps_continue (q _ _ _ S)
theorem ess_nil : ESs X Ω oc ow [] ow sNil := by
  intro F0 H0 F H σ ρ h r h' Dn S e q
  obtain ⟨rfl, rfl⟩ := mp_some e
  exact wss_of pss_nil (q _ _ _ S)
theorem ess_cons {st : Stmt} {sts : List Stmt} {f g : SS} (h1 : ES X Ω oc ow st ow' f) (h2 : ESs X Ω oc ow' sts ow2 g) : ESs X Ω oc ow (st :: sts) ow2 (sSeq f g) := by
  intro F0 H0 F H σ ρ h r h' Dn S e q
  obtain ⟨r1, h3, e1, e⟩ := mb_some e
  refine wss_of (pss_cons ws wss) (h1 _ _ _ _ _ _ _ _ _ _ S e1 ?_)
  cases r1 with
  | nx ρ' => exact fun F' H' σ' S' => h2 _ _ _ _ _ _ _ _ _ _ S' e q
  | ct ρ' =>
    obtain ⟨rfl, rfl⟩ := mp_some e
    exact q
  | ret d =>
    obtain ⟨rfl, rfl⟩ := mp_some e
    exact q
/-- the last one of a block -/
theorem ess_one {st : Stmt} {f : SS} (h1 : ES X Ω oc ow st ow' f) : ESs X Ω oc ow [st] ow' f := by
  intro F0 H0 F H σ ρ h r h' Dn S e q
  exact wss_of (pss_one ws) (h1 _ _ _ _ _ _ _ _ _ _ S e q)
/-- before a statement: fewer slots hold what no other holds -/
theorem es_fz (ow2 : List Nat) {st : Stmt} {f : SS} (h : ES X Ω oc ow2 st ow' f) (sub : ∀ i ∈ ow2, i ∈ ow := by decide) : ES X Ω oc ow st ow' f := by
  intro F0 H0 F H σ ρ hh r h' Dn S e q
  obtain ⟨F', _, _, S'⟩ := S.thaw ow2 sub
  exact h _ _ _ _ _ _ _ _ _ _ S' e q
theorem ess_fz (ow2 : List Nat) {st : List Stmt} {f : SS} (h : ESs X Ω oc ow2 st ow' f) (sub : ∀ i ∈ ow2, i ∈ ow := by decide) : ESs X Ω oc ow st ow' f := by
  intro F0 H0 F H σ ρ hh r h' Dn S e q
  obtain ⟨F', _, _, S'⟩ := S.thaw ow2 sub
  exact h _ _ _ _ _ _ _ _ _ _ S' e q
/-- behind a block -/
theorem ess_drop (ow2 : List Nat) {st : List Stmt} {f : SS} (h : ESs X Ω oc ow st ow2 f) (sub : ∀ i ∈ ow', i ∈ ow2 := by decide) : ESs X Ω oc ow st ow' f := by
  intro F0 H0 F H σ ρ hh r h' Dn S e q
  refine h _ _ _ _ _ _ _ _ _ _ S e ?_
  cases r with
  | nx ρ' =>
    intro F' H' σ' S'
    obtain ⟨F2, _, _, S2⟩ := S'.thaw ow' sub
    exact q _ _ _ S2
  | ct ρ' => exact q
  | ret d => exact q
/-- a test may look at all that the slots hold -/
theorem et_all {e : Expr} {t : ST} (h : ET X Ω [] e t) : ET X Ω ow e t := by
  intro F0 H0 F H σ ρ hh b h' Q S e1 q
  obtain ⟨F1, st1, sf, S1⟩ := S.thaw [] (fun i hi => nomatch hi)
  refine h _ _ _ _ _ _ _ _ _ _ S1 e1 fun F' H' s' o' => ?_
  refine q F H' ⟨Same.refl _, fun p o z => ?_, s'.kp, fun p _ z => z, s'.al⟩ o'
  exact s'.kp p o (S.fh p o z) fun oc => by rw [S.ocf p oc] at z; cases z
end
end PL

namespace PL
open PySem PySem.Spec PyProof.Rows L2

/-! ### what is walked -/
/-- the walk J gives the data ds, as long as the frozen heap F stands -/
structure Walk (K : PySem.W.Frag) (J : It) (F : Hp) (ds : List D) : Prop where
  go : ∀ i H, i < ds.length → Same F H → J.go i H
  yld : ∀ i H x H', i < ds.length → Same F H → J.yld i H x H' → H' = H ∧ ∃ d, ds[i]? = some d ∧ Dp K F x d
  stop : ∀ i H, ds.length ≤ i → Same F H → J.stop i H
def WI (X : Cx) (tg iter : Expr) : TI := fun σ H R => ∀ pins s, Inv X pins σ H s → wpAny (model X.prog X.w) X.A (eval iter X.env) (fun v s1 => wpAny (model X.prog X.w) X.A (pyIter v) (PIE X pins σ tg R) X.xe s1) X.xe s
theorem wi {X : Cx} {tg iter : Expr} : PI X tg iter (WI X tg iter) := ⟨fun pins s _ _ _ I h => h pins s I⟩
theorem wi_of {X : Cx} {tg iter : Expr} {t : TI} {σ H R} (p : PI X tg iter t) (h : t σ H R) : WI X tg iter σ H R := fun pins s I => p.run pins s σ H R I h
abbrev SI := Lo → M (List D)
def EI (X : Cx) (Ω : Orc) (ow : List Nat) (tg iter : Expr) (f : SI) : Prop := ∀ F0 H0 F H σ ρ h ds h' R, SR X.K Ω ow F0 H0 F H σ ρ h → f ρ h = some (ds, h') →
  (∀ J F' H', Stp Ω F H F' H' → Ω.OR h' H' → Walk X.K J F' ds → R J H') → WI X tg iter σ H R
section
variable {X : Cx} {tg : Expr}
def iAny (K : PySem.W.Frag) (tl : TE) : TI := fun σ H R => tl σ H fun x H1 => (∃ a, x = .ref a ∧ (∃ xs, SqL K H1 a xs) ∧ R (Itl K a) H1) ∨ (∃ a, x = .ref a ∧ (∃ xs, SqT K H1 a xs) ∧ R (Itt K a) H1)
theorem pi_any {l : Expr} {tl : TE} (hl : PE X l tl) : PI X tg l (iAny X.K tl) := by
  refine ⟨fun pins s σ H R I h => ?_⟩
  refine thn (hl.run pins s σ H _ I h) fun v s1 ⟨x, H1, I1, r1, q1⟩ => ?_
  rcases q1 with ⟨a, e, ⟨xs, hq⟩, q⟩ | ⟨a, e, ⟨xs, hq⟩, q⟩
  · subst e
    cases r1
    obtain ⟨its, rv, p, hz⟩ := I1.list hq
    refine wpAny_pyIter_list p.isList ?_
    refine ⟨s1.heap.objs.size, [s1.heap.objs.size], _, _, H1, rfl, I1.kept (t' := s1.toks) fun b o e => Heap.get?_push_of_some _ e, turn_list a _, ⟨_, Heap.get?_push_size _ rfl, rfl, rfl⟩, fun b hb => ?_, q⟩
    have e : b = s1.heap.objs.size := by simpa using hb
    subst e
    exact I1.fpOk (Nat.le_refl _) (I1.hok.fresh (Nat.le_refl _))
  · subst e
    cases r1
    obtain ⟨its, rv, p, hz⟩ := I1.tuple hq
    refine wpAny_pyIter_tuple (show s1.heap.IsTuple a its.toArray from p) ?_
    refine ⟨s1.heap.objs.size, [s1.heap.objs.size], _, _, H1, rfl, I1.kept (t' := s1.toks) fun b o e => Heap.get?_push_of_some _ e, turn_tuple a _, ⟨_, Heap.get?_push_size _ rfl, rfl, rfl⟩, fun b hb => ?_, q⟩
    have e : b = s1.heap.objs.size := by simpa using hb
    subst e
    exact I1.fpOk (Nat.le_refl _) (I1.hok.fresh (Nat.le_refl _))
end
theorem walk_list {K : PySem.W.Frag} {F : Hp} {a : Addr} {xs : List V} {ds : List D} (sq : SqL K F a xs) (da : DpAll K F xs ds) (inj : ∀ H ys, Same F H → SqL K H a ys → ys = xs) : Walk K (Itl K a) F ds := by
  have hl := DpAll.length da
  refine ⟨fun i H hi s => ?_, fun i H x H' hi s y => ?_, fun i H hi s => ⟨xs, s.seq sq, by omega⟩⟩
  · exact ⟨xs, xs[i]'(by omega), s.seq sq, List.getElem?_eq_getElem (by omega)⟩
  · obtain ⟨e, y⟩ := y
    have e1 := y xs (s.seq sq)
    obtain ⟨d, h1, h2⟩ := DpAll.get' da e1
    exact ⟨e, d, h1, h2⟩
theorem walk_tup {K : PySem.W.Frag} {F : Hp} {a : Addr} {xs : List V} {ds : List D} (sq : SqT K F a xs) (da : DpAll K F xs ds) : Walk K (Itt K a) F ds := by
  have hl := DpAll.length da
  refine ⟨fun i H hi s => ?_, fun i H x H' hi s y => ?_, fun i H hi s => ⟨xs, sqT_mono s sq, by omega⟩⟩
  · exact ⟨xs, xs[i]'(by omega), sqT_mono s sq, List.getElem?_eq_getElem (by omega)⟩
  · obtain ⟨e, y⟩ := y
    have e1 := y xs (sqT_mono s sq)
    obtain ⟨d, h1, h2⟩ := DpAll.get' da e1
    exact ⟨e, d, h1, h2⟩
theorem walk_list' {K : PySem.W.Frag} {F : Hp} {a : Addr} {xs : List V} {ds : List D} (sq : SqL K F a xs) (da : DpAll K F xs ds) : Walk K (Itl K a) F ds := by
  have hl := DpAll.length da
  refine ⟨fun i H hi s => ?_, fun i H x H' hi s y => ?_, fun i H hi s => ⟨xs, s.seq sq, by omega⟩⟩
  · exact ⟨xs, xs[i]'(by omega), s.seq sq, List.getElem?_eq_getElem (by omega)⟩
  · obtain ⟨e, y⟩ := y
    have e1 := y xs (s.seq sq)
    obtain ⟨d, h1, h2⟩ := DpAll.get' da e1
    exact ⟨e, d, h1, h2⟩
def rgD (lo : Int) (n : Nat) : List D := (List.range n).map fun i => .int (lo + (i : Nat))
theorem rgD_len (lo : Int) (n : Nat) : (rgD lo n).length = n := by simp [rgD]
theorem walk_rng {K : PySem.W.Frag} {F : Hp} {lo : Int} {n : Nat} : Walk K (Itr lo n) F (rgD lo n) := by
  refine ⟨fun i H hi s => by rw [rgD_len] at hi; exact hi, fun i H x H' hi s y => ?_, fun i H hi s => by rw [rgD_len] at hi; exact hi⟩
  obtain ⟨e, rfl⟩ := y
  rw [rgD_len] at hi
  exact ⟨e, .int (lo + (i : Nat)), by simp [rgD, hi], .int _⟩
def items : D → Option (List D)
  | .list ds => some ds
  | .tuple ds => some ds
  | _ => none
/-- over a list or tuple -/
def iSeq (f : SE) : SI := fun ρ => mb (f ρ) fun d => ml (items d)
def small62 (i : Int) : Bool := decide (-(2 ^ 62) ≤ i) && decide (i < 2 ^ 62)
theorem small62_iff {i : Int} (h : small62 i = true) : -(2 ^ 62) ≤ i ∧ i < 2 ^ 62 := by
  unfold small62 at h
  simpa using h
def rg1 : List D → Option (List D)
  | [.int j] => if small62 j = true then some (rgD 0 j.toNat) else none
  | _ => none
def rg2 : List D → Option (List D)
  | [.int i, .int j] => if (small62 i && small62 j) = true then some (rgD i (j - i).toNat) else none
  | _ => none
def rgDn (i j : Int) : List D := (List.range (i - j).toNat).map fun k => .int (i - (k : Nat))
/-- range(i, j, -1) -/
def rg3 : List D → Option (List D)
  | [.int i, .int j, .int c] => if (small62 i && small62 j && decide (c = -1)) = true then some (rgDn i j) else none
  | _ => none
def iRg (g : List D → Option (List D)) (a : SA) : SI := fun ρ => mb (a ρ) fun ds => ml (g ds)
section
variable {X : Cx} {Ω : Orc} {ow oc : List Nat} {pos p : Pos} {tg a b : Expr} {fa : SE} {sa : SA}
theorem ei_seq (ha : EV X Ω ow a fa) : EI X Ω ow tg a (iSeq fa) := by
  intro F0 H0 F H σ ρ h ds h' R S e q
  obtain ⟨d, h1, e1, e⟩ := mb_some e
  obtain ⟨e2, rfl⟩ := ml_some e
  refine wi_of (pi_any we) (ha _ _ _ _ _ _ _ _ _ _ S e1 fun v F1 H1 s1 o1 d1 => ?_)
  cases d1 with
  | lst sq da =>
    cases e2
    exact .inl ⟨_, rfl, ⟨_, s1.fh.seq sq⟩, q _ _ _ s1 o1 (walk_list' sq da)⟩
  | tup sq da =>
    cases e2
    exact .inr ⟨_, rfl, ⟨_, sqT_mono s1.fh sq⟩, q _ _ _ s1 o1 (walk_tup sq da)⟩
  | _ => cases e2
theorem ei_rg1 (hm : X.mg "range" = none) (ha : EA X Ω ow [a] sa) (hg : Gl X "range" := by rfl) (hs : starEach [a] X.env = [(false, eval a X.env)] := by rfl) : EI X Ω ow tg (.Call (.Name "range" p) [a] [] pos) (iRg rg1 sa) := by
  intro F0 H0 F H σ ρ h ds h' R S e q
  obtain ⟨d, h1, e1, e⟩ := mb_some e
  obtain ⟨e2, rfl⟩ := ml_some e
  refine wi_of (pi_range1 hg hm wa hs) (ha _ _ _ _ _ _ _ _ _ _ S e1 fun vs F1 H1 s1 o1 d1 => ?_)
  match d, d1, e2 with
  | [.int j], .cons (.int _) .nil, e2 =>
    have e2 : (if small62 j = true then some (rgD 0 j.toNat) else none) = some ds := e2
    split at e2
    · rename_i hj
      cases e2
      obtain ⟨b1, b2⟩ := small62_iff hj
      exact ⟨j, rfl, b1, b2, q _ _ _ s1 o1 walk_rng⟩
    · cases e2
theorem ei_rg2 (hm : X.mg "range" = none) (ha : EA X Ω ow [a, b] sa) (hg : Gl X "range" := by rfl) (hs : starEach [a, b] X.env = [(false, eval a X.env), (false, eval b X.env)] := by rfl) (hs2 : starEach [b] X.env = [(false, eval b X.env)] := by rfl) :
    EI X Ω ow tg (.Call (.Name "range" p) [a, b] [] pos) (iRg rg2 sa) := by
  intro F0 H0 F H σ ρ h ds h' R S e q
  obtain ⟨d, h1, e1, e⟩ := mb_some e
  obtain ⟨e2, rfl⟩ := ml_some e
  refine wi_of (pi_range2 hg hm wa hs hs2) (ha _ _ _ _ _ _ _ _ _ _ S e1 fun vs F1 H1 s1 o1 d1 => ?_)
  match d, d1, e2 with
  | [.int i, .int j], .cons (.int _) (.cons (.int _) .nil), e2 =>
    have e2 : (if (small62 i && small62 j) = true then some (rgD i (j - i).toNat) else none) = some ds := e2
    split at e2
    · rename_i hj
      cases e2
      rw [Bool.and_eq_true] at hj
      obtain ⟨b1, b2⟩ := small62_iff hj.1
      obtain ⟨b3, b4⟩ := small62_iff hj.2
      exact ⟨i, j, rfl, ⟨b1, b2, b3, b4⟩, q _ _ _ s1 o1 walk_rng⟩
    · cases e2

/-! ### for -/
/-- the frozen heap F1 laid over H0 -/
def bsH (F1 H0 : Hp) : Hp := fun p => match F1 p with
  | some o => some o
  | none => H0 p
section
variable {K : PySem.W.Frag} {F0 H0 F1 H1 F2 H2 : Hp} {σ : L2.St} {ρ : Lo} {h : List Int}
theorem bsH_some {p : Addr} {o : HO} (e : F1 p = some o) : bsH F1 H0 p = some o := by unfold bsH; rw [e]
theorem bsH_none {p : Addr} (e : F1 p = none) : bsH F1 H0 p = H0 p := by unfold bsH; rw [e]
theorem Stp.up (s1 : Stp Ω F0 H0 F1 H1) (s2 : Stp Ω F0 H0 F2 H2) (sf : Same F1 F2) : Stp Ω F1 (bsH F1 H0) F2 H2 := by
  refine ⟨sf, s2.fh, fun p o e n => ?_, fun p e n => ?_, fun p e => ?_⟩
  · cases z : F1 p with
    | some u => rw [bsH_some z] at e; cases e; exact s2.fh p _ (sf p _ z)
    | none => rw [bsH_none z] at e; exact s2.kp p o e n
  · rw [bsH_none n] at e
    exact s2.ap p e (s1.sf.free n)
  · cases z : F1 p with
    | some u => rw [s2.fh p _ (sf p _ z)]; simp
    | none => rw [bsH_none z] at e; exact s2.al p e
theorem Stp.down (s1 : Stp Ω F0 H0 F1 H1) (s2 : Stp Ω F1 (bsH F1 H0) F2 H2) : Stp Ω F0 H0 F2 H2 := by
  refine ⟨s1.sf.trans s2.sf, s2.fh, fun p o e n => ?_, fun p e n => ?_, fun p e => ?_⟩
  · refine s2.kp p o ?_ n
    cases z : F1 p with
    | some u =>
      have := s1.kp p o e n
      rw [s1.fh p u z] at this
      cases this
      exact bsH_some z
    | none => rw [bsH_none z]; exact e
  · have n1 := s1.ap p e n
    exact s2.ap p (by rw [bsH_none n1]; exact e) n1
  · refine s2.al p ?_
    cases z : F1 p with
    | some u => rw [bsH_some z]; simp
    | none => rw [bsH_none z]; exact e
theorem SR.up (s1 : Stp Ω F0 H0 F1 H1) (S : SR K Ω ow F0 H0 F2 H2 σ ρ h) (sf : Same F1 F2) : SR K Ω ow F1 (bsH F1 H0) F2 H2 σ ρ h := by
  refine ⟨Stp.up s1 S.st sf, S.len, S.val, fun i d hi e => ?_, S.apart, S.orc, S.ocf, S.pool⟩
  obtain ⟨p, e1, xs, ds, e2, e3, a, n, n0, oc⟩ := S.own i d hi e
  exact ⟨p, e1, xs, ds, e2, e3, a, n, by rw [bsH_none (sf.free n)]; exact n0, oc⟩
theorem SR.down (s1 : Stp Ω F0 H0 F1 H1) (S : SR K Ω ow F1 (bsH F1 H0) F2 H2 σ ρ h) : SR K Ω ow F0 H0 F2 H2 σ ρ h := by
  refine ⟨Stp.down s1 S.st, S.len, S.val, fun i d hi e => ?_, S.apart, S.orc, S.ocf, S.pool⟩
  obtain ⟨p, e1, xs, ds, e2, e3, a, n, n0, oc⟩ := S.own i d hi e
  refine ⟨p, e1, xs, ds, e2, e3, a, n, ?_, oc⟩
  cases z : F1 p with
  | some u => rw [bsH_some z] at n0; cases n0
  | none => rw [bsH_none z] at n0; exact n0
end
/-- a block keeps what is frozen -/
def FlOk' (X : Cx) (Ω : Orc) (oc ow' : List Nat) (F0 H0 F1 : Hp) (Dn : Ends) (h' : List Int) : Fl → Prop
  | .nx ρ' => ∀ F' H' σ', SR X.K Ω ow' F0 H0 F' H' σ' ρ' h' → Same F1 F' → Dn.nx σ' H'
  | .ct ρ' => ∀ F' H' σ', SR X.K Ω oc F0 H0 F' H' σ' ρ' h' → Same F1 F' → Dn.ct σ' H'
  | .ret d => ∀ v F' H', Stp Ω F0 H0 F' H' → Ω.OR h' H' → Dp X.K F' v d → Dn.rt v H'
theorem ess_keep {sts : List Stmt} {ow' : List Nat} {f : SS} {F0 H0 F1 H1 F2 H2 : Hp} {σ : L2.St} {ρ : Lo} {h h' : List Int} {r : Fl} {Dn : Ends} (hb : ESs X Ω oc ow sts ow' f) (s1 : Stp Ω F0 H0 F1 H1) (S : SR X.K Ω ow F0 H0 F2 H2 σ ρ h) (sf : Same F1 F2)
    (e : f ρ h = some (r, h')) (q : FlOk' X Ω oc ow' F0 H0 F1 Dn h' r) : WSs X sts Dn σ H2 := by
  refine hb _ _ _ _ _ _ _ _ _ _ (SR.up s1 S sf) e ?_
  cases r with
  | nx ρ' => exact fun F' H' σ' S' => q F' H' σ' (SR.down s1 S') S'.st.sf
  | ct ρ' => exact fun F' H' σ' S' => q F' H' σ' (SR.down s1 S') S'.st.sf
  | ret d => exact fun v F' H' s' => q v F' H' (Stp.down s1 s')
def forL (t : SG) (body : SS) : List D → Lo → M Fl
  | [], ρ => mp (.nx ρ)
  | d :: ds, ρ => mb (ml (t d ρ)) fun ρ1 => mb (body ρ1) fun r => match r with
    | .nx ρ2 => forL t body ds ρ2
    | .ct ρ2 => forL t body ds ρ2
    | .ret z => mp (.ret z)
def sFor (fi : SI) (t : SG) (body : SS) : SS := fun ρ => mb (fi ρ) fun ds => forL t body ds ρ
theorem drop_cons {α : Type} {l : List α} {i : Nat} {d : α} (h : l[i]? = some d) : l.drop i = d :: l.drop (i + 1) := by
  obtain ⟨hl, e⟩ := List.getElem?_eq_some_iff.mp h
  rw [List.drop_eq_getElem_cons hl, e]
theorem es_for {iter : Expr} {body : List Stmt} {fi : SI} {t : SG} {fb : SS} {sl : List Nat} (hp : PassesOwn (model X.prog X.w) X.A X.env X.xe) (hc : X.calm = true) (hi : EI X Ω ow tg iter fi) (hg : EG X Ω ow tg sl t) (hb : ESs X Ω ow ow body ow fb)
    (hs : ∀ x, foldedSetIterable iter X.env x = pure x := by intro _; rfl) : ES X Ω oc ow (.For tg iter body [] pos) ow (sFor fi t fb) := by
  intro F0 H0 F H σ ρ h r h' Dn S e q
  obtain ⟨ds, h1, e1, e⟩ := mb_some e
  refine ws_of (ps_for hp hc wi wg wss hs) (hi _ _ _ _ _ _ _ _ _ _ S e1 fun J F1 H1 s1 o1 W => ?_)
  have s01 := S.st.trans s1
  refine ⟨fun i m σ2 H2 => m = ds.length - i ∧ i ≤ ds.length ∧ ∃ F2 ρ2 h2, SR X.K Ω ow F0 H0 F2 H2 σ2 ρ2 h2 ∧ Same F1 F2 ∧ forL t fb (ds.drop i) ρ2 h2 = some (r, h'),
    ⟨ds.length, rfl, Nat.zero_le _, F1, ρ, h1, S.next s1 o1, Same.refl _, e⟩, ?_⟩
  rintro i m σ2 H2 ⟨rfl, hle, F2, ρ2, h2, S2, sF, e2⟩
  by_cases hlt : i < ds.length
  · refine .inr ⟨W.go i H2 hlt (sF.trans S2.fh), fun σ3 H3 => i + 1 ≤ ds.length ∧ ∃ F3 ρ3 h3, SR X.K Ω ow F0 H0 F3 H3 σ3 ρ3 h3 ∧ Same F1 F3 ∧ forL t fb (ds.drop (i + 1)) ρ3 h3 = some (r, h'), fun σ3 H3 ⟨z1, z2⟩ => ⟨ds.length - (i + 1), by omega, rfl, z1, z2⟩, fun x H3 y => ?_⟩
    obtain ⟨rfl, d, hd, dx⟩ := W.yld i H2 x H3 hlt (sF.trans S2.fh) y
    rw [drop_cons hd] at e2
    obtain ⟨ρ3, h3, z3, e4⟩ := mb_some e2
    obtain ⟨e3, y3⟩ := ml_some z3
    obtain ⟨r5, h5, e5, e6⟩ := mb_some e4
    subst y3
    refine hg _ _ _ _ _ _ _ _ _ _ _ S2 (Dp_mono sF dx) e3 fun σ4 _ S4 => ?_
    refine ess_keep hb s01 S4 sF e5 ?_
    cases r5 with
    | nx ρ' => exact fun F' H' σ' S' sF' => ⟨hlt, F', ρ', h5, S', sF', e6⟩
    | ct ρ' => exact fun F' H' σ' S' sF' => ⟨hlt, F', ρ', h5, S', sF', e6⟩
    | ret d =>
      obtain ⟨rfl, rfl⟩ := mp_some e6
      exact q
  · have ei : i = ds.length := by omega
    subst ei
    rw [List.drop_length] at e2
    obtain ⟨rfl, rfl⟩ := mp_some e2
    exact .inl ⟨W.stop _ H2 (Nat.le_refl _) (sF.trans S2.fh), q _ _ _ S2⟩

/-! ### while -/
def whL (c : ST) (b : SS) : Nat → Lo → M Fl
  | 0, _ => fun _ => none
  | n + 1, ρ => mb (c ρ) fun k => if k = true then mb (b ρ) fun r => match r with
      | .nx ρ2 => whL c b n ρ2
      | .ct ρ2 => whL c b n ρ2
      | .ret z => mp (.ret z)
    else mp (.nx ρ)
def sWh (n : Nat) (c : ST) (b : SS) : SS := whL c b n
theorem es_wh (n : Nat) {t : Expr} {ta : ST} {body : List Stmt} {fb : SS} (hp : PassesOwn (model X.prog X.w) X.A X.env X.xe) (ht : ET X Ω ow t ta) (hb : ESs X Ω ow ow body ow fb) : ES X Ω oc ow (.While t body [] pos) ow (sWh n ta fb) := by
  intro F0 H0 F H σ ρ h r h' Dn S e q
  refine ws_of (ps_while hp wt wss) ?_
  refine ⟨fun m σ2 H2 => ∃ F2 ρ2 h2, SR X.K Ω ow F0 H0 F2 H2 σ2 ρ2 h2 ∧ whL ta fb m ρ2 h2 = some (r, h'), ⟨n, F, ρ, h, S, e⟩, ?_⟩
  rintro m σ2 H2 ⟨F2, ρ2, h2, S2, e2⟩
  cases m with
  | zero => cases e2
  | succ m =>
    obtain ⟨k, h3, e3, e4⟩ := mb_some e2
    refine ht _ _ _ _ _ _ _ _ _ _ S2 e3 fun F3 H3 s3 o3 => ?_
    cases k with
    | false =>
      rw [if_neg Bool.false_ne_true] at e4 ⊢
      obtain ⟨rfl, rfl⟩ := mp_some e4
      exact q _ _ _ (S2.next s3 o3)
    | true =>
      rw [if_pos rfl] at e4 ⊢
      obtain ⟨r5, h5, e5, e6⟩ := mb_some e4
      refine ⟨fun σ3 H3 => ∃ F2 ρ2 h2, SR X.K Ω ow F0 H0 F2 H3 σ3 ρ2 h2 ∧ whL ta fb m ρ2 h2 = some (r, h'), fun σ' H' z => ⟨m, Nat.lt_succ_self m, z⟩, ?_⟩
      refine hb _ _ _ _ _ _ _ _ _ _ (S2.next s3 o3) e5 ?_
      cases r5 with
      | nx ρ' => exact fun F' H' σ' S' => ⟨F', ρ', h5, S', e6⟩
      | ct ρ' => exact fun F' H' σ' S' => ⟨F', ρ', h5, S', e6⟩
      | ret d =>
        obtain ⟨rfl, rfl⟩ := mp_some e6
        exact q

/-! ### lists that one slot holds: append, pop -/
def big : Nat := 1000000
theorem big_line {n : Nat} (h : n ≤ big) : n < sizeLine := by
  have e : sizeLine = 16777216 := sizeLine_eq
  have : big = 1000000 := rfl
  omega
def appAt (i : Nat) (d : D) (ρ : Lo) : Option Lo := match rd i ρ with
  | some (.list ds) => if ds.length ≤ big then some (ρ.set i (some (.list (ds ++ [d])))) else none
  | _ => none
def sApp (i : Nat) (f : SE) : SS := fun ρ => mb (f ρ) fun d => mb (ml (appAt i d ρ)) fun ρ' => mp (.nx ρ')
theorem es_app (i : Nat) {x : Str} {px pa pc : Pos} (ha : EV X Ω ow a fa) (hw : i ∈ ow := by decide) (hN : X.N[i]? = some x := by rfl) (hv : Vis X.env.scope x := by first | exact Or.inl rfl | exact Or.inr (Or.inl rfl) | exact Or.inr (Or.inr rfl))
    (r1 : PE X (.Name x px) (tVar i) → PA X [a] (tCons (WE X a) tNil) → PS X (.Expr (.Call (.Attribute (.Name x px) "append" pa) [a] [] pc) pos) (tDrop (tBM X.K "list" rAppend (tVar i) (tCons (WE X a) tNil))) := by
      intro h1 h2; exact ps_expr (pe_bm PySem.F.plainAttrs_list PySem.F.slot_list_append PySem.F.type_list_append mt_append h1 h2))
    (r2 : PA X [a] (tCons (WE X a) tNil) := by exact pa_cons we pa_nil)
    (hd : (x == ("__debug__" : Str)) = false := by decide) (hcd : (x == ("__classdict__" : Str)) = false := by decide) :
    ES X Ω oc ow (.Expr (.Call (.Attribute (.Name x px) "append" pa) [a] [] pc) pos) ow (sApp i fa) := by
  intro F0 H0 F H σ ρ h r h' Dn S e q
  obtain ⟨d, h1, e1, e⟩ := mb_some e
  obtain ⟨ρ', h2, z2, e⟩ := mb_some e
  obtain ⟨rfl, rfl⟩ := mp_some e
  obtain ⟨e2, y2⟩ := ml_some z2
  subst y2
  refine ws_of (r1 (pe_var hN hv hd hcd) r2) ?_
  unfold appAt at e2
  split at e2
  · rename_i ds hrd
    split at e2
    · rename_i hb
      cases e2
      obtain ⟨p, ep, xs, ds', ed, eH, da, n, n0, oc'⟩ := S.own i _ hw (rd_some hrd)
      cases ed
      refine ⟨_, ep, .inl ⟨rfl, _, .inl (.inl eH)⟩, ha _ _ _ _ _ _ _ _ _ _ S e1 fun v F1 H1 s1 o1 d1 => ?_⟩
      have S1 := S.next s1 o1
      have eH1 := s1.kp p _ eH oc'
      refine ⟨p, xs, v, rfl, rfl, eH1, big_line (by rw [DpAll.length da]; exact hb), ?_⟩
      exact q _ _ _ (S1.chg hw (rd_some hrd) ep (DpAll.append (DpAll_mono s1.sf da) (.cons d1 .nil)))
    · cases e2
  · cases e2
def popAt (i : Nat) (ρ : Lo) : Option Lo := match rd i ρ with
  | some (.list ds) => if ds = [] then none else some (ρ.set i (some (.list ds.dropLast)))
  | _ => none
end
end PL

namespace PL
open PySem PySem.Spec PyProof.Rows L2

/-! ### comprehensions -/
def wipeD (ρ : Lo) : List Nat → Lo
  | [] => ρ
  | v :: vs => (wipeD ρ vs).set v none
theorem wipeD_get (ρ : Lo) : ∀ (vs : List Nat) (j : Nat), (wipeD ρ vs)[j]? = if j ∈ vs then (if j < ρ.length then some none else none) else ρ[j]?
  | [], j => by simp [wipeD]
  | w :: ws, j => by
    have hlen : ∀ vs : List Nat, (wipeD ρ vs).length = ρ.length := by
      intro vs
      induction vs with
      | nil => rfl
      | cons v vs ih => show ((wipeD ρ vs).set v none).length = _; rw [List.length_set, ih]
    show ((wipeD ρ ws).set w none)[j]? = _
    by_cases hw : w = j
    · subst hw
      by_cases hl : w < ρ.length
      · rw [List.getElem?_set_self (by rw [hlen]; exact hl)]; simp [hl]
      · rw [List.getElem?_eq_none (by rw [List.length_set, hlen]; omega)]; simp [hl]
    · rw [get_set_ne hw, wipeD_get ρ ws j]
      have : j ≠ w := fun e => hw e.symm
      simp [this]
theorem wipeD_length (ρ : Lo) : ∀ vs : List Nat, (wipeD ρ vs).length = ρ.length
  | [] => rfl
  | v :: vs => by show ((wipeD ρ vs).set v none).length = _; rw [List.length_set, wipeD_length ρ vs]
theorem wipe_get (τ : L2.St) : ∀ (ws : List Nat) (j : Nat), j ∉ ws → (L2.wipe τ ws)[j]? = τ[j]?
  | [], j, _ => rfl
  | w :: ws, j, h => by
    simp only [List.mem_cons, not_or] at h
    show ((L2.wipe τ ws).set w none)[j]? = _
    rw [get_set_ne (fun e => h.1 e.symm), wipe_get τ ws j h.2]
section
variable {K : PySem.W.Frag} {Ω : Orc} {ow : List Nat} {F0 H0 F H F1 H1 : Hp} {σ : L2.St} {ρ : Lo} {h h1 : List Int}
theorem SR.wipe (S : SR K Ω ow F0 H0 F H σ ρ h) (vs : List Nat) (hv : ∀ i ∈ vs, i ∉ ow) (hs : ∀ i ∈ vs, Ω.slot ≠ some i) : SR K Ω ow F0 H0 F H (L2.wipe σ vs) (wipeD ρ vs) h := by
  have g : ∀ {i d}, (wipeD ρ vs)[i]? = some (some d) → i ∉ vs ∧ ρ[i]? = some (some d) := fun {i d} e => by
    rw [wipeD_get] at e
    by_cases hi : i ∈ vs
    · simp only [hi, if_true] at e
      split at e <;> cases e
    · simp only [hi, if_false] at e
      exact ⟨hi, e⟩
  refine ⟨S.st, by rw [wipe_length, wipeD_length]; exact S.len, fun i d hi e => ?_, fun i d hi e => ?_, fun i j p d e hi hj e1 e2 e3 e4 => ?_, S.orc, S.ocf, fun i hi => ?_⟩
  · obtain ⟨n, e⟩ := g e
    rw [wipe_get σ vs i n]
    exact S.val i d hi e
  · obtain ⟨n, e⟩ := g e
    rw [wipe_get σ vs i n]
    exact S.own i d hi e
  · obtain ⟨n1, e1⟩ := g e1
    obtain ⟨n2, e2⟩ := g e2
    rw [wipe_get σ vs i n1] at e3
    rw [wipe_get σ vs j n2] at e4
    exact S.apart i j p d e hi hj e1 e2 e3 e4
  · have n : i ∉ vs := fun z => hs i z hi
    rw [wipe_get σ vs i n, wipeD_get]
    simp only [n, if_false]
    exact S.pool i hi
/-- an object that no slot holds changes -/
theorem SR.chgX {q : Addr} {o : HO} (S : SR K Ω ow F0 H0 F H σ ρ h) (nF : F q = none) (n0 : H0 q = none) (oc : ¬ Ω.OC q) (nq : ∀ i d, i ∈ ow → ρ[i]? = some (some d) → σ[i]? ≠ some (some (.ref q))) :
    SR K Ω ow F0 H0 F (upd H q o) σ ρ h := by
  refine ⟨⟨S.st.sf, fun p u e => ?_, fun p u e z => ?_, S.st.ap, fun p z => ?_⟩, S.len, S.val, fun i d hi e => ?_, S.apart, Ω.stable _ _ _ S.orc fun p u z e => ?_, S.ocf, S.pool⟩
  · rw [upd_ne (by rintro rfl; rw [nF] at e; cases e)]; exact S.fh p u e
  · rw [upd_ne (by rintro rfl; rw [n0] at e; cases e)]; exact S.st.kp p u e z
  · by_cases hp : p = q
    · subst hp; rw [upd_same]; simp
    · rw [upd_ne hp]; exact S.st.al p z
  · obtain ⟨p, e1, xs, ds, rfl, e2, a, n, n0', oc'⟩ := S.own i d hi e
    have hp : p ≠ q := by rintro rfl; exact nq i _ hi e e1
    exact ⟨p, e1, xs, ds, rfl, by rw [upd_ne hp]; exact e2, a, n, n0', oc'⟩
  · rw [upd_ne (by rintro rfl; exact oc z)]; exact e
end
def WTs (X : Cx) (ifs : List Expr) : TT := fun σ H Q => ∀ pins s, Inv X pins σ H s → wpAny (model X.prog X.w) X.A (forIn ifs true fun c r => if r = true then do let ok ← isTrue c X.env (eval c X.env); pure (ForInStep.yield ok) else pure (ForInStep.yield r)) (TP X pins σ Q) X.xe s
theorem wts_of {X : Cx} {ifs : List Expr} {t : TT} {σ H Q} (p : L2.PTs X ifs t) (h : t σ H Q) : WTs X ifs σ H Q := fun pins s I => p.run pins s σ H Q I h
def ETs (X : Cx) (Ω : Orc) (ow : List Nat) (ifs : List Expr) (f : ST) : Prop := ∀ F0 H0 F H σ ρ h b h' Q, SR X.K Ω ow F0 H0 F H σ ρ h → f ρ h = some (b, h') →
  (∀ F' H', Stp Ω F H F' H' → Ω.OR h' H' → Q b H') → WTs X ifs σ H Q
def tYs : ST := fun _ => mp true
theorem ets_nil {X : Cx} {Ω : Orc} {ow : List Nat} : ETs X Ω ow [] tYs := by
  intro F0 H0 F H σ ρ h b h' Q S e q
  obtain ⟨rfl, rfl⟩ := mp_some e
  exact wts_of pts_nil (q _ _ (Stp.refl S.fh) S.orc)
theorem ets_one {X : Cx} {Ω : Orc} {ow : List Nat} {c : Expr} {t : ST} (hc : ET X Ω ow c t) : ETs X Ω ow [c] t := by
  intro F0 H0 F H σ ρ h b h' Q S e q
  exact wts_of (pts_one wt) (hc _ _ _ _ _ _ _ _ _ _ S e q)
section
variable (X : Cx) (scope : Scope)
/-- a block of X, whatever it starts at -/
abbrev Blk (s : Shared) (H : Hp) (C : Addr) (cl : List (Str × Addr)) (fp : List Addr) : Cx := X.blk s H scope (compEnvC scope cl C X.env) fp
def WGb (tg : Expr) : TG := fun v σ Hh Q => ∀ s H C cl fp, WG (Blk X scope s H C cl fp) tg v σ Hh Q
def WTb (ifs : List Expr) : TT := fun σ Hh Q => ∀ s H C cl fp, WTs (Blk X scope s H C cl fp) ifs σ Hh Q
def WEb (e : Expr) : TE := fun σ Hh Q => ∀ s H C cl fp, WE (Blk X scope s H C cl fp) e σ Hh Q
theorem wgb {tg : Expr} (s : Shared) (H : Hp) (C : Addr) (cl : List (Str × Addr)) (fp : List Addr) : PG (Blk X scope s H C cl fp) tg (WGb X scope tg) := ⟨fun pins s' _ _ _ u _ I r h => h s H C cl fp pins s' u I r⟩
theorem wtb {ifs : List Expr} (s : Shared) (H : Hp) (C : Addr) (cl : List (Str × Addr)) (fp : List Addr) : L2.PTs (Blk X scope s H C cl fp) ifs (WTb X scope ifs) := ⟨fun pins s' _ _ _ I h => h s H C cl fp pins s' I⟩
theorem web {e : Expr} (s : Shared) (H : Hp) (C : Addr) (cl : List (Str × Addr)) (fp : List Addr) : PE (Blk X scope s H C cl fp) e (WEb X scope e) := ⟨fun pins s' _ _ _ I h => h s H C cl fp pins s' I⟩
end
def compL (t : SG) (tt : ST) (fe : SE) (ρ : Lo) : List D → M (List D)
  | [] => mp []
  | d :: ds => mb (ml (t d ρ)) fun ρ1 => mb (tt ρ1) fun b => if b = true then mb (fe ρ1) fun y => mb (compL t tt fe ρ ds) fun ys => mp (y :: ys) else compL t tt fe ρ ds
def eComp (fi : SI) (t : SG) (tt : ST) (fe : SE) (vs : List Nat) : SE := fun ρ => mb (fi ρ) fun ds => if ds.length ≤ big then mb (compL t tt fe (wipeD ρ vs) ds) fun ys => mp (.list ys) else fun _ => none
section
variable {X : Cx} {Ω : Orc} {ow oc : List Nat} {pos : Pos} {tg iter elt : Expr} {ifs : List Expr} {scope : Scope} {own : List (Str × Nat)} {fi : SI} {t : SG} {tt : ST} {fe : SE} {sl : List Nat}
theorem lc_read {F0 H0 F H : Hp} {σ : L2.St} {ρ : Lo} {h h' : List Int} {d : D} {Q : VK} (hi : EI X Ω ow tg iter fi)
    (hg : ∀ s H C cl fp, EG (Blk X scope s H C cl fp) Ω ow tg sl t) (ht : ∀ s H C cl fp, ETs (Blk X scope s H C cl fp) Ω ow ifs tt) (he : ∀ s H C cl fp, EV (Blk X scope s H C cl fp) Ω ow elt fe)
    (hsl : ∀ i ∈ sl, i ∈ own.map (·.2)) (hv : ∀ i ∈ own.map (·.2), i ∉ ow) (hso : ∀ i ∈ own.map (·.2), Ω.slot ≠ some i)
    (S : SR X.K Ω ow F0 H0 F H σ ρ h) (e : eComp fi t tt fe (own.map (·.2)) ρ h = some (d, h'))
    (q : ∀ p F' H', Stp Ω F H F' H' → Ω.OR h' H' → H p = none → OwnAt X.K Ω H0 F' H' p d → Q (.ref p) H') :
    tLc (WI X tg iter) (WGb X scope tg) (WTb X scope ifs) (WEb X scope elt) (own.map (·.2)) σ H Q := by
  obtain ⟨ds, h1, e1, e⟩ := mb_some e
  split at e
  · rename_i hbig
    obtain ⟨ys, h2, e2, e⟩ := mb_some e
    obtain ⟨rfl, rfl⟩ := mp_some e
    refine hi _ _ _ _ _ _ _ _ _ _ S e1 fun J F1 H1 s1 o1 W => ?_
    intro Dd nD
    have S1 := S.next s1 o1
    have n0 : H0 Dd = none := by
      cases z : H0 Dd with
      | none => rfl
      | some o => exact absurd nD (S1.st.al Dd (by rw [z]; simp))
    have nH : H Dd = none := by
      cases z : H Dd with
      | none => rfl
      | some o => exact absurd nD (s1.al Dd (by rw [z]; simp))
    have oc : ¬ Ω.OC Dd := fun z => Ω.alloc _ _ o1 Dd z nD
    have nF1 : F1 Dd = none := S1.fh.free nD
    have nq : ∀ i d, i ∈ ow → ρ[i]? = some (some d) → σ[i]? ≠ some (some (.ref Dd)) := fun i d hi' e' z => by
      obtain ⟨p, e3, _, _, _, e4, _⟩ := S.own i d hi' e'
      rw [z] at e3
      cases e3
      rw [nH] at e4
      cases e4
    generalize hvs : own.map (·.2) = vs at *
    have nqw : ∀ i d, i ∈ ow → (wipeD ρ vs)[i]? = some (some d) → (L2.wipe σ vs)[i]? ≠ some (some (.ref Dd)) := fun i d hi' e' z => by
      rw [wipeD_get] at e'
      by_cases hiv : i ∈ vs
      · exact hv i hiv hi'
      · simp only [hiv, if_false] at e'
        rw [wipe_get σ vs i hiv] at z
        exact nq i d hi' e' z
    have Sw := (S1.wipe vs hv hso).chgX (o := .lst []) nF1 n0 oc nqw
    refine ⟨fun i m H2 => m = ds.length - i ∧ i ≤ ds.length ∧ ∃ F2 h2 acc ys1 ys2, SR X.K Ω ow F0 H0 F2 H2 (L2.wipe σ vs) (wipeD ρ vs) h2 ∧ Stp Ω F1 H1 F2 H2 ∧ H2 Dd = some (.lst acc) ∧ F2 Dd = none ∧ DpAll X.K F2 acc ys1 ∧ ys1.length ≤ i ∧
      compL t tt fe (wipeD ρ vs) (ds.drop i) h2 = some (ys2, h') ∧ ys = ys1 ++ ys2,
      ⟨ds.length, rfl, Nat.zero_le _, F1, h1, [], [], ys, Sw, ?_, upd_same, nF1, .nil, Nat.le_refl _, e2, rfl⟩, ?_⟩
    · refine ⟨Same.refl _, Sw.fh, fun p o z n => ?_, fun p _ z => z, fun p z => ?_⟩
      · rw [upd_ne (by rintro rfl; rw [nD] at z; cases z)]; exact z
      · exact Same.some (same_upd nD) z
    · rintro i m H2 ⟨rfl, hle, F2, h2, acc, ys1, ys2, S2, s12, eD, nF2, da, hlen, e3, ey⟩
      by_cases hlt : i < ds.length
      · refine .inr ⟨W.go i H2 hlt (s12.sf.trans S2.fh), fun H3 => i + 1 ≤ ds.length ∧ ∃ F2 h2 acc ys1 ys2, SR X.K Ω ow F0 H0 F2 H3 (L2.wipe σ vs) (wipeD ρ vs) h2 ∧ Stp Ω F1 H1 F2 H3 ∧ H3 Dd = some (.lst acc) ∧ F2 Dd = none ∧ DpAll X.K F2 acc ys1 ∧ ys1.length ≤ i + 1 ∧
          compL t tt fe (wipeD ρ vs) (ds.drop (i + 1)) h2 = some (ys2, h') ∧ ys = ys1 ++ ys2, fun H3 ⟨z1, z2⟩ => ⟨ds.length - (i + 1), by omega, rfl, z1, z2⟩, fun x H3 y => ?_⟩
        obtain ⟨rfl, d, hd, dx⟩ := W.yld i H2 x H3 hlt (s12.sf.trans S2.fh) y
        rw [drop_cons hd] at e3
        obtain ⟨ρ3, h3, z3, e4⟩ := mb_some e3
        obtain ⟨e5, y3⟩ := ml_some z3
        subst y3
        obtain ⟨b, h4, e6, e7⟩ := mb_some e4
        intro s' H' C cl fp
        refine hg s' H' C cl fp _ _ _ _ _ _ _ _ _ _ _ S2 (Dp_mono s12.sf dx) e5 fun σ4 ag S4 => ?_
        refine ⟨by rw [ag.wipe (vs := vs) hsl]; exact wipe_idem σ vs, fun s2' H2' C2 cl2 fp2 => ?_⟩
        refine ht s2' H2' C2 cl2 fp2 _ _ _ _ _ _ _ _ _ _ S4 e6 fun F5 H5 s5 o5 => ?_
        cases b with
        | false =>
          rw [if_neg Bool.false_ne_true] at e7 ⊢
          exact ⟨hlt, F5, h4, acc, ys1, ys2, S2.next s5 o5, s12.trans s5, s5.kp Dd _ eD oc, s5.ap Dd (by rw [eD]; simp) nF2, DpAll_mono s5.sf da, by omega, e7, ey⟩
        | true =>
          rw [if_pos rfl] at e7 ⊢
          obtain ⟨yv, h6, e8, e9⟩ := mb_some e7
          obtain ⟨ys3, h7, e10, e11⟩ := mb_some e9
          obtain ⟨rfl, rfl⟩ := mp_some e11
          intro s3' H3' C3 cl3 fp3
          refine he s3' H3' C3 cl3 fp3 _ _ _ _ _ _ _ _ _ _ (S4.next s5 o5) e8 fun v F6 H6 s6 o6 d6 => ?_
          have s56 := s5.trans s6
          have eD6 := s56.kp Dd _ eD oc
          have nF6 := s56.ap Dd (by rw [eD]; simp) nF2
          have S6 := (S2.next s56 o6).chgX (o := .lst (acc ++ [v])) nF6 n0 oc nqw
          refine ⟨acc, eD6, big_line (by rw [DpAll.length da]; omega), hlt, F6, h6, acc ++ [v], ys1 ++ [yv], ys3, S6, ?_, upd_same, nF6, DpAll.append (DpAll_mono s56.sf da) (.cons d6 .nil), by simp; omega, e10, by rw [ey]; simp⟩
          have s16 := s12.trans s56
          refine ⟨s16.sf, S6.fh, fun p o z n => ?_, s16.ap, fun p z => ?_⟩
          · rw [upd_ne (by rintro rfl; rw [nD] at z; cases z)]; exact s16.kp p o z n
          · by_cases hp : p = Dd
            · subst hp; rw [upd_same]; simp
            · rw [upd_ne hp]; exact s16.al p z
      · have ei : i = ds.length := by omega
        subst ei
        rw [List.drop_length] at e3
        obtain ⟨rfl, rfl⟩ := mp_some e3
        rw [List.append_nil] at ey
        subst ey
        refine .inl ⟨W.stop _ H2 (Nat.le_refl _) (s12.sf.trans S2.fh), q Dd F2 H2 (s1.trans s12) S2.orc nH ⟨acc, ys, rfl, eD, da, nF2, n0, oc⟩⟩
  · cases e
where
  wipe_idem (σ : L2.St) (vs : List Nat) : L2.wipe (L2.wipe σ vs) vs = L2.wipe σ vs := by
    have get : ∀ (τ : L2.St) (ws : List Nat) (j : Nat), (L2.wipe τ ws)[j]? = if j ∈ ws then (if j < τ.length then some none else none) else τ[j]? := by
      intro τ ws
      induction ws with
      | nil => intro j; simp [L2.wipe]
      | cons w ws ih =>
        intro j
        show ((L2.wipe τ ws).set w none)[j]? = _
        by_cases hw : w = j
        · subst hw
          by_cases hl : w < τ.length
          · rw [List.getElem?_set_self (by rw [wipe_length]; exact hl)]; simp [hl]
          · rw [List.getElem?_eq_none (by rw [List.length_set, wipe_length]; omega)]; simp [hl]
        · rw [get_set_ne hw, ih j]
          have : j ≠ w := fun e => hw e.symm
          simp [this]
    apply List.ext_getElem?
    intro j
    rw [get, get, wipe_length]
    by_cases hj : j ∈ vs <;> simp [hj]
theorem eo_lc (hc : X.calm = true) (hN : X.N.Nodup) (hi : EI X Ω ow tg iter fi) (ok : BlkOk X.N X.env.scope scope own)
    (hg : ∀ s H C cl fp, EG (Blk X scope s H C cl fp) Ω ow tg sl t) (ht : ∀ s H C cl fp, ETs (Blk X scope s H C cl fp) Ω ow ifs tt) (he : ∀ s H C cl fp, EV (Blk X scope s H C cl fp) Ω ow elt fe)
    (hso : ∀ i ∈ own.map (·.2), Ω.slot ≠ some i) (hsl : ∀ i ∈ sl, i ∈ own.map (·.2) := by decide) (hv : ∀ i ∈ own.map (·.2), i ∉ ow := by decide) (hs : ∀ x, foldedSetIterable iter X.env x = pure x := by intro _; rfl) :
    EO X Ω ow (.ListComp elt [⟨tg, iter, ifs, 0⟩] scope pos) (eComp fi t tt fe (own.map (·.2))) := by
  intro F0 H0 F H σ ρ h d h' Q S e q
  exact we_of (pe_lc hc hN wi ok (fun s H C cl fp => wgb X scope s H C cl fp) (fun s H C cl fp => wtb X scope s H C cl fp) (fun s H C cl fp => web X scope s H C cl fp) hs) (lc_read hi hg ht he hsl hv hso S e q)
/-- y = [..] on one line, y a local -/
theorem es_setLc (i : Nat) {y : Str} {py spos : Pos} (hc : X.calm = true) (hN : X.N.Nodup) (hoi : Ω.slot ≠ some i) (hi : EI X Ω ow tg iter fi) (ok : BlkOk X.N X.env.scope scope own)
    (hg : ∀ s H C cl fp, EG (Blk X scope s H C cl fp) Ω ow tg sl t) (ht : ∀ s H C cl fp, ETs (Blk X scope s H C cl fp) Ω ow ifs tt) (he : ∀ s H C cl fp, EV (Blk X scope s H C cl fp) Ω ow elt fe)
    (hso : ∀ i ∈ own.map (·.2), Ω.slot ≠ some i) (hsw : swapsWith (.ListComp elt [⟨tg, iter, ifs, 0⟩] scope pos) (some (.Name y py)) spos.line X.env = pure true) (hy : X.N[i]? = some y := by rfl) (hyl : X.env.scope.names.lookup y = some .local := by rfl) (hw : i ∉ ow := by decide)
    (hsl : ∀ i ∈ sl, i ∈ own.map (·.2) := by decide) (hv : ∀ i ∈ own.map (·.2), i ∉ ow := by decide) (hs : ∀ x, foldedSetIterable iter X.env x = pure x := by intro _; rfl) :
    ES X Ω oc ow (.Assign [.Name y py] (.ListComp elt [⟨tg, iter, ifs, 0⟩] scope pos) spos) (i :: ow) (sSet (gN i) (eComp fi t tt fe (own.map (·.2)))) := by
  intro F0 H0 F H σ ρ h r h' Dn S e q
  obtain ⟨d, h2, e1, e⟩ := mb_some e
  obtain ⟨ρ1, h3, z2, e⟩ := mb_some e
  obtain ⟨rfl, rfl⟩ := mp_some e
  obtain ⟨e2, rfl⟩ := ml_some z2
  cases e2
  refine ws_of (ps_setLc hc hN hy hyl hsw wi ok (fun s H C cl fp => wgb X scope s H C cl fp) (fun s H C cl fp => wtb X scope s H C cl fp) (fun s H C cl fp => web X scope s H C cl fp) hs) ?_
  exact lc_read hi hg ht he hsl hv hso S e1 fun p F1 H1 s1 o1 np d1 => q _ _ _ ((S.next s1 o1).setO S np hw hoi d1)
end

/-! ### a def -/
def startD (n : Nat) (ds : List D) : Lo := ds.map some ++ List.replicate (n - ds.length) none
/-- what a body hands back -/
def retOf (r : Option (Fl × List Int)) : Option D := match r with
  | some (.ret d, _) => some d
  | some (.nx _, _) => some .none
  | _ => none
theorem start_val {K : PySem.W.Frag} {F : Hp} : ∀ {ds : List D} {vs : List V} {n i : Nat} {d : D}, DpAll K F vs ds → (startD n ds)[i]? = some (some d) → ∃ v, (vs.map some ++ List.replicate (n - vs.length) none)[i]? = some (some v) ∧ Dp K F v d := by
  intro ds vs n i d da e
  unfold startD at e
  have hl := DpAll.length da
  by_cases hi : i < ds.length
  · rw [List.getElem?_append_left (by simpa using hi), List.getElem?_map] at e
    cases z : ds[i]? with
    | none => rw [z] at e; cases e
    | some d' =>
      rw [z] at e
      cases e
      obtain ⟨v, e1, e2⟩ := DpAll.get da z
      exact ⟨v, by rw [List.getElem?_append_left (by simp; omega), List.getElem?_map, e1]; rfl, e2⟩
  · rw [List.getElem?_append_right (by simpa using hi), List.getElem?_replicate] at e
    split at e <;> cases e
theorem fn_ok {P : Program} {w : World} {K : PySem.W.Frag} {mg : Str → Option Value} {base : Heap} {x qual : Str} {st : Stmt} {f : Addr} {fd : FuncData} {N ps : List Str} {k n : Nat} {oe : List Nat} {Fn : List D → Option D} {fb : Nat → SS}
    (G : Fun K x qual st f fd) (S : FnScope N ps (defScope st)) (hn : ps.length = n)
    (hb : ∀ nn cdv A outer s H E, Room k (A.deeper (envOfC qual (defScope st) s.heap.objs.size f cdv)) → ESs (cxOf CX0 P w K mg base N qual (defScope st) f cdv A outer s H E).nox Orc.no [] [] (defBody st) oe (fb nn))
    (hF : ∀ ds r, ds.length = n → Fn ds = some r → ∃ nn, retOf (fb nn (startD N.length ds) []) = some r) : FnOk P w K mg base CX0 (k + 1) f fd ps (spF K Fn n) := by
  refine G.ok S (fun vs H Q E h => by rw [h.1, hn]) (fun cdv A outer s H vs Q E hr h => ?_)
  obtain ⟨hv, F, ds, r, sF, da, hr', q⟩ := h
  have hd : ds.length = n := by rw [← DpAll.length da]; exact hv
  obtain ⟨nn, e⟩ := hF ds r hd hr'
  refine ⟨_, wss, ?_⟩
  have hps : ps.length ≤ N.length := by
    have := congrArg List.length S.pre
    rw [List.length_take] at this
    omega
  have SR0 : SR K Orc.no [] F H F H (L2.start N vs) (startD N.length ds) [] := by
    refine ⟨Stp.refl sF, ?_, fun i d _ e => ?_, fun i d hi => (nomatch hi), fun i j p d e hi => (nomatch hi), trivial, fun p hp => hp.elim, fun i hi => (nomatch hi)⟩
    · unfold L2.start startD
      simp [DpAll.length da]
    · exact start_val da e
  cases z : fb nn (startD N.length ds) [] with
  | none => rw [z] at e; cases e
  | some p =>
    obtain ⟨fl, h'⟩ := p
    rw [z] at e
    refine hb nn cdv A outer s H E hr _ _ _ _ _ _ _ _ _ _ SR0 z ?_
    have conv : ∀ {F' H' : Hp}, Stp Orc.no F H F' H' → Stq F H F' H' := fun {F' H'} s => ⟨s.sf, s.fh, fun p o e => s.kp p o e (fun z => z), s.ap⟩
    cases fl with
    | nx ρ' =>
      cases e
      exact fun F' H' σ' S' => q .non F' H' (conv S'.st) .non
    | ct ρ' => cases e
    | ret d =>
      cases e
      exact fun v F' H' s' _ dv => q v F' H' (conv s') dv
end PL

namespace PL
open PySem PySem.Spec PyProof.Rows L2

/-! ### the operators on data -/
def okD (d : D) : Bool := d.canLay0 && decide (d.depth ≤ 60)
theorem okD_lay {d : D} (h : okD d = true) : d.canLay0 = true := (Bool.and_eq_true_iff.mp h).1
theorem okD_depth {d : D} (h : okD d = true) : d.depth ≤ 60 := of_decide_eq_true (Bool.and_eq_true_iff.mp h).2
def small64 (i : Int) : Bool := decide (-(2 ^ 64) < i) && decide (i < 2 ^ 64)
def gAdd : D → D → Option D
  | .int i, .int j => some (.int (i + j))
  | .list xs, .list ys => if xs.length + ys.length ≤ big then some (.list (xs ++ ys)) else none
  | .tuple xs, .tuple ys => if xs.length + ys.length ≤ big then some (.tuple (xs ++ ys)) else none
  | .str x, .str y => if x.length + y.length ≤ big then some (.str (x ++ y)) else none
  | _, _ => none
def gSub : D → D → Option D
  | .int i, .int j => some (.int (i - j))
  | _, _ => none
def gMul : D → D → Option D
  | .int i, .int j => if (small64 i || small64 j) = true then some (.int (i * j)) else none
  | _, _ => none
def gFdiv : D → D → Option D
  | .int i, .int j => if j ≠ 0 ∧ j.natAbs < 1073741824 then some (.int (i.fdiv j)) else none
  | _, _ => none
def gMod : D → D → Option D
  | .int i, .int j => if j ≠ 0 then some (.int (i.fmod j)) else none
  | _, _ => none
def gPow : D → D → Option D
  | .int i, .int j => if 0 ≤ j ∧ j ≤ 1000000 ∧ i.natAbs < 2 ^ 64 then some (.int (i ^ j.toNat)) else none
  | _, _ => none
def gNeg : D → Option D
  | .int i => some (.int (-i))
  | _ => none
def gEq (x y : D) : Option D := if (okD x && okD y) = true then some (.bool (PyData.eqv x y)) else none
def gNe (x y : D) : Option D := if (okD x && okD y) = true then some (.bool (!PyData.eqv x y)) else none
def asInts : List D → Option (List Int)
  | [] => some []
  | .int i :: r => (asInts r).map (i :: ·)
  | _ => none
def gLt : D → D → Option D
  | .int i, .int j => some (.bool (decide (i < j)))
  | .tuple xs, .tuple ys => match asInts xs, asInts ys with
    | some ns, some ms => some (.bool (HT.lexLt ns ms))
    | _, _ => none
  | _, _ => none
def gLe : D → D → Option D
  | .int i, .int j => some (.bool (decide (i ≤ j)))
  | .tuple xs, .tuple ys => match asInts xs, asInts ys with
    | some [x, y], some [x', y'] => some (.bool (if x = x' then decide (y ≤ y') else decide (x ≤ x')))
    | _, _ => none
  | _, _ => none
def gGt : D → D → Option D
  | .int i, .int j => some (.bool (decide (j < i)))
  | _, _ => none
def gGe : D → D → Option D
  | .int i, .int j => some (.bool (decide (j ≤ i)))
  | _, _ => none
def gIn (x y : D) : Option D := match items y with
  | some ds => if (okD x && okD y) = true then some (.bool (ds.any fun z => PyData.eqv z x)) else none
  | none => none
def gNin (x y : D) : Option D := match items y with
  | some ds => if (okD x && okD y) = true then some (.bool (!ds.any fun z => PyData.eqv z x)) else none
  | none => none
def isNone : D → Bool
  | .none => true
  | _ => false
/-- is: with None, or of two bools -/
def gIs : D → D → Option D
  | x, .none => some (.bool (isNone x))
  | .bool a, .bool b => some (.bool (decide (a = b)))
  | _, _ => none
def gIsnt : D → D → Option D
  | x, .none => some (.bool (!isNone x))
  | .bool a, .bool b => some (.bool (!decide (a = b)))
  | _, _ => none
def gIx : D → D → Option D
  | .list xs, .int i => atI xs i
  | .tuple xs, .int i => atI xs i
  | _, _ => none

theorem DpAll.ints {K : PySem.W.Frag} {F : Hp} : ∀ {ds : List D} {vs : List V} {ns : List Int}, DpAll K F vs ds → asInts ds = some ns → vs = ns.map V.int
  | [], _, _, .nil, e => by cases e; rfl
  | d :: ds, _, ns, .cons a r, e => by
    cases d with
    | int i =>
      cases a
      obtain ⟨ms, e1, rfl⟩ := Option.map_eq_some_iff.mp e
      rw [DpAll.ints r e1]
      rfl
    | _ => cases e
theorem atI_rel {K : PySem.W.Frag} {F : Hp} {ds : List D} {vs : List V} {i : Int} {d : D} (da : DpAll K F vs ds) (e : atI ds i = some d) : ∃ v, atI vs i = some v ∧ Dp K F v d := by
  unfold atI at e ⊢
  rw [DpAll.length da]
  obtain ⟨j, e1, e2⟩ := Option.bind_eq_some_iff.mp e
  obtain ⟨v, e3, e4⟩ := DpAll.get da e2
  exact ⟨v, by rw [e1]; exact e3, e4⟩
section
variable {X : Cx}
/-- list + list, read wherever they stand -/
def rCatS (K : PySem.W.Frag) : R2 := fun x y H Q => ∃ l b xs zs, x = .ref l ∧ y = .ref b ∧ SqL K H l xs ∧ SqL K H b zs ∧ xs.length + zs.length ≤ sizeLine ∧ ∀ p, H p = none → Q (.ref p) (upd H p (.lst (xs ++ zs)))
theorem op_catS : OpR X (binaryOp .Add) (rCatS X.K) := by
  intro pins s σ H x y v u Q I rx ry h
  obtain ⟨l, b, xs, zs, rfl, rfl, hH, hB, hz, q⟩ := h
  cases rx
  cases ry
  obtain ⟨its, r, p, _⟩ := I.list hH
  obtain ⟨its2, r2, p2, _⟩ := I.list hB
  obtain ⟨⟨cls, dd, data, sl⟩, ho, hc, n, hd⟩ := p.isList
  obtain ⟨⟨cls2, dd2, data2, sl2⟩, ho2, hc2, n2, hd2⟩ := p2.isList
  simp only at hc hd hc2 hd2
  subst hc hd hc2 hd2
  have e1 := r.length
  have e2 := r2.length
  have e : its.toArray ++ its2.toArray = (its ++ its2).toArray := by simp
  refine concat_meets ⟨_, ho, rfl⟩ ⟨_, ho2, rfl⟩ noFill_list_add seq_list_add PySem.F.slot_list_add PySem.F.entry_list_add (PySem.F.args_list_add_2 _ _) (PyProof.Rows.list_addW l b its.toArray its2.toArray n n2 dd dd2 sl sl2 (by simp; omega)) ⟨ho, ho2, ?_⟩
  rw [e]
  exact ⟨.ref _, _, I.lnew (t' := s.toks) (r.append r2) (by rw [List.length_append]; omega), rfl, q _ I.fresh⟩
theorem Stq.newD {K : PySem.W.Frag} {F H : Hp} {p : Addr} {xs : List V} {ds : List D} (s : Same F H) (n : H p = none) (a : DpAll K F xs ds) : Stq F H (upd F p (.lst xs)) (upd H p (.lst xs)) ∧ Dp K (upd F p (.lst xs)) (.ref p) (.list ds) :=
  ⟨Stq.new s n, .lst (.inl (.inl upd_same)) (DpAll_mono (same_upd (s.free n)) a)⟩
theorem Stq.newT {K : PySem.W.Frag} {F H : Hp} {p : Addr} {xs : List V} {ds : List D} (s : Same F H) (n : H p = none) (a : DpAll K F xs ds) : Stq F H (upd F p (.tup xs)) (upd H p (.tup xs)) ∧ Dp K (upd F p (.tup xs)) (.ref p) (.tuple ds) :=
  ⟨Stq.new s n, .tup (.inl (.inl upd_same)) (DpAll_mono (same_upd (s.free n)) a)⟩
theorem os_add : OpS X (binaryOp .Add) gAdd := by
  refine ⟨_, op_add.or (op_catS.or (op_catA.or op_add_str)), fun F H x y dx dy d Q s hx hy e q => ?_⟩
  unfold gAdd at e
  split at e
  · cases hx; cases hy; cases e
    exact .inl ⟨_, _, rfl, rfl, q _ _ _ (Stq.refl s) (.int _)⟩
  · split at e
    · rename_i hl
      cases e
      cases hx with
      | lst sx ax =>
        cases hy with
        | lst sy ay =>
          refine .inr (.inl ⟨_, _, _, _, rfl, rfl, s.seq sx, s.seq sy, Nat.le_of_lt (big_line (by rw [DpAll.length ax, DpAll.length ay]; exact hl)), fun p np => ?_⟩)
          obtain ⟨a, b⟩ := Stq.newD s np (DpAll.append ax ay)
          exact q _ _ _ a b
    · cases e
  · split at e
    · rename_i xs ys hl
      cases e
      cases hx with
      | tup sx ax =>
        cases hy with
        | tup sy ay =>
          refine .inr (.inr (.inl ⟨_, _, _, _, rfl, rfl, sqT_mono s sx, sqT_mono s sy, Nat.le_of_lt (big_line (by rw [DpAll.length ax, DpAll.length ay]; exact hl)), fun z => ?_, fun _ z => ?_, fun _ _ p np => ?_⟩))
          · subst z
            cases ax
            exact q _ _ _ (Stq.refl s) (.tup sy (by simpa using ay))
          · subst z
            cases ay
            exact q _ _ _ (Stq.refl s) (.tup sx (by simpa using ax))
          · obtain ⟨a, b⟩ := Stq.newT s np (DpAll.append ax ay)
            exact q _ _ _ a b
    · cases e
  · split at e
    · rename_i hl
      cases e
      cases hx
      cases hy
      exact .inr (.inr (.inr ⟨_, _, rfl, rfl, Nat.le_of_lt (big_line hl), q _ _ _ (Stq.refl s) (.str _)⟩))
    · cases e
  · cases e
theorem os_sub : OpS X (binaryOp .Sub) gSub := by
  refine ⟨_, op_sub, fun F H x y dx dy d Q s hx hy e q => ?_⟩
  unfold gSub at e
  split at e
  · cases hx; cases hy; cases e
    exact ⟨_, _, rfl, rfl, q _ _ _ (Stq.refl s) (.int _)⟩
  · cases e
theorem os_mul : OpS X (binaryOp .Mult) gMul := by
  refine ⟨_, op_mul, fun F H x y dx dy d Q s hx hy e q => ?_⟩
  unfold gMul at e
  split at e
  · split at e
    · rename_i i j hs
      cases hx; cases hy; cases e
      refine ⟨_, _, rfl, rfl, ?_, q _ _ _ (Stq.refl s) (.int _)⟩
      unfold small64 at hs
      simp only [Bool.or_eq_true, Bool.and_eq_true, decide_eq_true_eq] at hs
      exact hs
    · cases e
  · cases e
theorem os_fdiv : OpS X (binaryOp .FloorDiv) gFdiv := by
  refine ⟨_, op_fdivN, fun F H x y dx dy d Q s hx hy e q => ?_⟩
  unfold gFdiv at e
  split at e
  · split at e
    · rename_i i j hs
      cases hx; cases hy; cases e
      exact ⟨_, _, rfl, rfl, hs, q _ _ _ (Stq.refl s) (.int _)⟩
    · cases e
  · cases e
theorem os_mod : OpS X (binaryOp .Mod) gMod := by
  refine ⟨_, op_modN, fun F H x y dx dy d Q s hx hy e q => ?_⟩
  unfold gMod at e
  split at e
  · split at e
    · rename_i i j hs
      cases hx; cases hy; cases e
      exact ⟨_, _, rfl, rfl, hs, q _ _ _ (Stq.refl s) (.int _)⟩
    · cases e
  · cases e
theorem os_pow : OpS X (binaryOp .Pow) gPow := by
  refine ⟨_, op_pow, fun F H x y dx dy d Q s hx hy e q => ?_⟩
  unfold gPow at e
  split at e
  · split at e
    · rename_i i j hs
      cases hx; cases hy; cases e
      exact ⟨_, _, rfl, rfl, hs, q _ _ _ (Stq.refl s) (.int _)⟩
    · cases e
  · cases e
theorem us_neg : UnS X (unaryOp .USub) gNeg := by
  refine ⟨_, un_neg, fun F H x dx d Q s hx e q => ?_⟩
  unfold gNeg at e
  split at e
  · cases hx; cases e
    exact ⟨_, rfl, q _ _ _ (Stq.refl s) (.int _)⟩
  · cases e
/-! comparisons -/
def rEqO (K : PySem.W.Frag) (neg : Bool) : R2 := fun x y H Q => ∃ d e, Dp K H x d ∧ Dp K H y e ∧ okD d = true ∧ okD e = true ∧ Q (.bl (if neg = true then !PyData.eqv d e else PyData.eqv d e)) H
theorem room60 {A : Around} {da db : D} (h : okD da = true) (hu : A.units + 64 < cLine) : A.units + min da.depth db.depth < cLine := by
  have h1 := okD_depth h
  have h2 : min da.depth db.depth ≤ da.depth := Nat.min_le_left _ _
  omega
theorem op_eqO (hu : X.A.units + 64 < cLine) : OpR X (compareOp .Eq) (rEqO X.K false) := by
  intro pins s σ H x y v u Q I rx ry h
  obtain ⟨d, e, hd, he, sd, se, q⟩ := h
  obtain ⟨as, r1⟩ := Dp.reads I d x v hd rx
  obtain ⟨bs, r2⟩ := Dp.reads I e y u he ry
  exact SeqAt.compareEq_reads r1 r2 (okD_lay sd) (okD_lay se) (room60 sd hu) ⟨.bl _, H, I, rfl, q⟩
theorem op_neO (hu : X.A.units + 64 < cLine) : OpR X (compareOp .NotEq) (rEqO X.K true) := by
  intro pins s σ H x y v u Q I rx ry h
  obtain ⟨d, e, hd, he, sd, se, q⟩ := h
  obtain ⟨as, r1⟩ := Dp.reads I d x v hd rx
  obtain ⟨bs, r2⟩ := Dp.reads I e y u he ry
  exact SeqAt.compareNe_reads r1 r2 (okD_lay sd) (okD_lay se) (room60 sd hu) ⟨.bl _, H, I, rfl, q⟩
theorem os_eq (hu : X.A.units + 64 < cLine) : OpS X (compareOp .Eq) gEq := by
  refine ⟨_, op_eqO hu, fun F H x y dx dy d Q s hx hy e q => ?_⟩
  unfold gEq at e
  split at e
  · rename_i hs
    rw [Bool.and_eq_true] at hs
    cases e
    exact ⟨dx, dy, Dp_mono s hx, Dp_mono s hy, hs.1, hs.2, q _ _ _ (Stq.refl s) (.bl _)⟩
  · cases e
theorem os_ne (hu : X.A.units + 64 < cLine) : OpS X (compareOp .NotEq) gNe := by
  refine ⟨_, op_neO hu, fun F H x y dx dy d Q s hx hy e q => ?_⟩
  unfold gNe at e
  split at e
  · rename_i hs
    rw [Bool.and_eq_true] at hs
    cases e
    exact ⟨dx, dy, Dp_mono s hx, Dp_mono s hy, hs.1, hs.2, q _ _ _ (Stq.refl s) (.bl _)⟩
  · cases e
theorem os_lt (hu : X.A.units + 64 < cLine) : OpS X (compareOp .Lt) gLt := by
  refine ⟨_, op_lt.or (op_ltT (by omega)), fun F H x y dx dy d Q s hx hy e q => ?_⟩
  unfold gLt at e
  split at e
  · cases hx; cases hy; cases e
    exact .inl ⟨_, _, rfl, rfl, q _ _ _ (Stq.refl s) (.bl _)⟩
  · split at e
    · rename_i xs ys _ _ ns ms e1 e2
      cases e
      cases hx with
      | tup sx ax =>
        cases hy with
        | tup sy ay =>
          have z1 := DpAll.ints ax e1
          have z2 := DpAll.ints ay e2
          subst z1 z2
          exact .inr ⟨_, _, _, _, rfl, rfl, sqT_mono s sx, sqT_mono s sy, q _ _ _ (Stq.refl s) (.bl _)⟩
    · cases e
  · cases e
theorem os_le (hu : X.A.units + 64 < cLine) : OpS X (compareOp .LtE) gLe := by
  refine ⟨_, op_le.or (op_leT (by omega)), fun F H x y dx dy d Q s hx hy e q => ?_⟩
  unfold gLe at e
  split at e
  · cases hx; cases hy; cases e
    exact .inl ⟨_, _, rfl, rfl, q _ _ _ (Stq.refl s) (.bl _)⟩
  · split at e
    · rename_i xs ys _ _ a1 a2 b1 b2 e1 e2
      cases e
      cases hx with
      | tup sx ax =>
        cases hy with
        | tup sy ay =>
          have z1 := DpAll.ints ax e1
          have z2 := DpAll.ints ay e2
          subst z1 z2
          refine .inr ⟨_, _, _, _, rfl, rfl, sqT_mono s sx, sqT_mono s sy, ?_⟩
          have z : (Ob.lexAt (fun j => decide (([a1, a2] : List Int).getD j 0 = ([b1, b2] : List Int).getD j 0)) (fun j => decide (([a1, a2] : List Int).getD j 0 ≤ ([b1, b2] : List Int).getD j 0)) (decide (([a1, a2] : List Int).length ≤ ([b1, b2] : List Int).length)) 0 (min ([a1, a2] : List Int).length ([b1, b2] : List Int).length)) = if a1 = b1 then decide (a2 ≤ b2) else decide (a1 ≤ b1) := by
            show (if decide (a1 = b1) = true then (if decide (a2 = b2) = true then true else decide (a2 ≤ b2)) else decide (a1 ≤ b1)) = _
            by_cases h1 : a1 = b1 <;> by_cases h2 : a2 = b2 <;> simp [h1, h2]
          rw [z]
          exact q _ _ _ (Stq.refl s) (.bl _)
    · cases e
  · cases e
theorem os_gt : OpS X (compareOp .Gt) gGt := by
  refine ⟨_, op_gt, fun F H x y dx dy d Q s hx hy e q => ?_⟩
  unfold gGt at e
  split at e
  · cases hx; cases hy; cases e
    exact ⟨_, _, rfl, rfl, q _ _ _ (Stq.refl s) (.bl _)⟩
  · cases e
theorem os_ge : OpS X (compareOp .GtE) gGe := by
  refine ⟨_, op_ge, fun F H x y dx dy d Q s hx hy e q => ?_⟩
  unfold gGe at e
  split at e
  · cases hx; cases hy; cases e
    exact ⟨_, _, rfl, rfl, q _ _ _ (Stq.refl s) (.bl _)⟩
  · cases e
def rInO (K : PySem.W.Frag) (neg : Bool) : R2 := fun x y H Q => ∃ d e ds, Dp K H x d ∧ Dp K H y e ∧ items e = some ds ∧ okD d = true ∧ okD e = true ∧ Q (.bl (if neg = true then !ds.any fun z => PyData.eqv z d else ds.any fun z => PyData.eqv z d)) H
theorem room60b {A : Around} {d : D} {xs : List D} (h : okD d = true) (hu : A.units + 64 < cLine) : A.units + 1 + min (PyData.depthAll xs) d.depth < cLine := by
  have h1 := okD_depth h
  have h2 : min (PyData.depthAll xs) d.depth ≤ d.depth := Nat.min_le_right _ _
  omega
theorem op_inO (hu : X.A.units + 64 < cLine) : OpR X (compareOp .In) (rInO X.K false) := by
  intro pins s σ H x y v u Q I rx ry h
  obtain ⟨d, e, ds, hd, he, hi, sd, se, q⟩ := h
  obtain ⟨as, r1⟩ := Dp.reads I d x v hd rx
  obtain ⟨bs, r2⟩ := Dp.reads I e y u he ry
  cases e with
  | list xs =>
    cases hi
    exact SeqAt.in_list_reads r2 r1 (okD_lay se) (okD_lay sd) (room60b sd hu) ⟨.bl _, H, I, rfl, q⟩
  | tuple xs =>
    cases hi
    exact SeqAt.in_tuple_reads r2 r1 (okD_lay se) (okD_lay sd) (room60b sd hu) ⟨.bl _, H, I, rfl, q⟩
  | _ => cases hi
theorem op_ninO (hu : X.A.units + 64 < cLine) : OpR X (compareOp .NotIn) (rInO X.K true) := by
  intro pins s σ H x y v u Q I rx ry h
  obtain ⟨d, e, ds, hd, he, hi, sd, se, q⟩ := h
  obtain ⟨as, r1⟩ := Dp.reads I d x v hd rx
  obtain ⟨bs, r2⟩ := Dp.reads I e y u he ry
  cases e with
  | list xs =>
    cases hi
    exact SeqAt.notIn_list_reads r2 r1 (okD_lay se) (okD_lay sd) (room60b sd hu) ⟨.bl _, H, I, rfl, q⟩
  | tuple xs =>
    cases hi
    exact SeqAt.notIn_tuple_reads r2 r1 (okD_lay se) (okD_lay sd) (room60b sd hu) ⟨.bl _, H, I, rfl, q⟩
  | _ => cases hi
theorem os_in (hu : X.A.units + 64 < cLine) : OpS X (compareOp .In) gIn := by
  refine ⟨_, op_inO hu, fun F H x y dx dy d Q s hx hy e q => ?_⟩
  unfold gIn at e
  split at e
  · rename_i ds hi
    split at e
    · rename_i hs
      rw [Bool.and_eq_true] at hs
      cases e
      exact ⟨dx, dy, ds, Dp_mono s hx, Dp_mono s hy, hi, hs.1, hs.2, q _ _ _ (Stq.refl s) (.bl _)⟩
    · cases e
  · cases e
theorem os_nin (hu : X.A.units + 64 < cLine) : OpS X (compareOp .NotIn) gNin := by
  refine ⟨_, op_ninO hu, fun F H x y dx dy d Q s hx hy e q => ?_⟩
  unfold gNin at e
  split at e
  · rename_i ds hi
    split at e
    · rename_i hs
      rw [Bool.and_eq_true] at hs
      cases e
      exact ⟨dx, dy, ds, Dp_mono s hx, Dp_mono s hy, hi, hs.1, hs.2, q _ _ _ (Stq.refl s) (.bl _)⟩
    · cases e
  · cases e
theorem isNone_iff {K : PySem.W.Frag} {F : Hp} {v : V} {d : D} (h : Dp K F v d) : decide (v = .non) = isNone d := by
  cases h <;> rfl
theorem os_is : OpS X (compareOp .Is) gIs := by
  refine ⟨_, op_isN.or op_isBl, fun F H x y dx dy d Q s hx hy e q => ?_⟩
  unfold gIs at e
  split at e
  · cases hy; cases e
    refine .inl ⟨rfl, ?_⟩
    rw [isNone_iff hx]
    exact q _ _ _ (Stq.refl s) (.bl _)
  · cases hx; cases hy; cases e
    exact .inr ⟨_, _, rfl, rfl, q _ _ _ (Stq.refl s) (.bl _)⟩
  · cases e
theorem os_isnt : OpS X (compareOp .IsNot) gIsnt := by
  refine ⟨_, op_notN.or op_notBl, fun F H x y dx dy d Q s hx hy e q => ?_⟩
  unfold gIsnt at e
  split at e
  · cases hy; cases e
    refine .inl ⟨rfl, ?_⟩
    rw [isNone_iff hx]
    exact q _ _ _ (Stq.refl s) (.bl _)
  · cases hx; cases hy; cases e
    exact .inr ⟨_, _, rfl, rfl, q _ _ _ (Stq.refl s) (.bl _)⟩
  · cases e
theorem xs_ix : IxS X gIx := by
  refine ⟨_, ix_list.or ix_tup, fun F H x y dx dy d Q s hx hy e q => ?_⟩
  unfold gIx at e
  split at e
  · cases hy
    cases hx with
    | lst sx ax =>
      obtain ⟨v, e1, e2⟩ := atI_rel ax e
      exact .inl ⟨_, _, _, v, rfl, rfl, s.seq sx, e1, q _ _ _ (Stq.refl s) e2⟩
  · cases hy
    cases hx with
    | tup sx ax =>
      obtain ⟨v, e1, e2⟩ := atI_rel ax e
      exact .inr ⟨_, _, _, v, rfl, rfl, sqT_mono s sx, e1, q _ _ _ (Stq.refl s) e2⟩
  · cases e

/-! ### built-ins -/
def fLen : List D → Option D
  | [.list xs] => some (.int xs.length)
  | [.tuple xs] => some (.int xs.length)
  | _ => none
theorem cs_len : CallS X (.builtin "len") fLen := by
  refine ⟨_, call_len_seq, fun F H vs ds d Q s hv e q => ?_⟩
  unfold fLen at e
  split at e
  · cases e
    cases hv with
    | cons a r =>
      cases r
      cases a with
      | lst sx ax => exact ⟨_, _, rfl, .inl (s.seq sx), by rw [DpAll.length ax]; exact q _ _ _ (Stq.refl s) (.int _)⟩
  · cases e
    cases hv with
    | cons a r =>
      cases r
      cases a with
      | tup sx ax => exact ⟨_, _, rfl, .inr (sqT_mono s sx), by rw [DpAll.length ax]; exact q _ _ _ (Stq.refl s) (.int _)⟩
  · cases e
def fAbs : List D → Option D
  | [.int i] => some (.int (if i < 0 then -i else i))
  | _ => none
theorem cs_abs : CallS X (.builtin "abs") fAbs := by
  refine ⟨_, call_abs, fun F H vs ds d Q s hv e q => ?_⟩
  unfold fAbs at e
  split at e
  · cases e
    cases hv with
    | cons a r =>
      cases r
      cases a
      exact ⟨_, rfl, q _ _ _ (Stq.refl s) (.int _)⟩
  · cases e
def fInt : List D → Option D
  | [.int i] => some (.int i)
  | [.bool b] => some (.int (if b = true then 1 else 0))
  | _ => none
theorem cs_int : CallS X (.type "int") fInt := by
  refine ⟨_, call_int1, fun F H vs ds d Q s hv e q => ?_⟩
  unfold fInt at e
  split at e
  · cases e
    cases hv with
    | cons a r =>
      cases r
      cases a
      exact .inl ⟨_, rfl, q _ _ _ (Stq.refl s) (.int _)⟩
  · cases e
    cases hv with
    | cons a r =>
      cases r
      cases a
      exact .inr ⟨_, rfl, q _ _ _ (Stq.refl s) (.int _)⟩
  · cases e
def fTup : List D → Option D
  | [.list xs] => some (.tuple xs)
  | [.tuple xs] => some (.tuple xs)
  | _ => none
theorem cs_tup : CallS X (.type "tuple") fTup := by
  refine ⟨_, call_tuple_of, fun F H vs ds d Q s hv e q => ?_⟩
  unfold fTup at e
  split at e
  · cases e
    cases hv with
    | cons a r =>
      cases r
      cases a with
      | lst sx ax =>
        refine ⟨_, _, rfl, .inl ⟨s.seq sx, fun p np => ?_⟩⟩
        obtain ⟨a, b⟩ := Stq.newT s np ax
        exact q _ _ _ a b
  · cases e
    cases hv with
    | cons a r =>
      cases r
      cases a with
      | tup sx ax => exact ⟨_, _, rfl, .inr ⟨sqT_mono s sx, q _ _ _ (Stq.refl s) (.tup sx ax)⟩⟩
  · cases e
def fLst : List D → Option D
  | [.list xs] => some (.list xs)
  | [.tuple xs] => some (.list xs)
  | _ => none
theorem cs_lst : CallS X (.type "list") fLst := by
  refine ⟨_, call_list_of, fun F H vs ds d Q s hv e q => ?_⟩
  unfold fLst at e
  split at e
  · cases e
    cases hv with
    | cons a r =>
      cases r
      cases a with
      | lst sx ax =>
        refine ⟨_, _, rfl, .inl (s.seq sx), fun p np => ?_⟩
        obtain ⟨a, b⟩ := Stq.newD s np ax
        exact q _ _ _ a b
  · cases e
    cases hv with
    | cons a r =>
      cases r
      cases a with
      | tup sx ax =>
        refine ⟨_, _, rfl, .inr (sqT_mono s sx), fun p np => ?_⟩
        obtain ⟨a, b⟩ := Stq.newD s np ax
        exact q _ _ _ a b
  · cases e
def fSum : List D → Option D
  | [.list xs] => (asInts xs).map fun ns => .int ns.sum
  | _ => none
theorem cs_sum (hc : X.calm = true) : CallS X (.builtin "sum") fSum := by
  refine ⟨_, cr_sum hc, fun F H vs ds d Q s hv e q => ?_⟩
  unfold fSum at e
  split at e
  · obtain ⟨ns, e1, rfl⟩ := Option.map_eq_some_iff.mp e
    cases hv with
    | cons a r =>
      cases r
      cases a with
      | lst sx ax =>
        have z := DpAll.ints ax e1
        subst z
        exact ⟨_, ns, rfl, s.seq sx, q _ _ _ (Stq.refl s) (.int _)⟩
  · cases e
def asBls : List D → Option (List Bool)
  | [] => some []
  | .bool i :: r => (asBls r).map (i :: ·)
  | _ => none
theorem DpAll.bls {K : PySem.W.Frag} {F : Hp} : ∀ {ds : List D} {vs : List V} {ns : List Bool}, DpAll K F vs ds → asBls ds = some ns → vs = ns.map V.bl
  | [], _, _, .nil, e => by cases e; rfl
  | d :: ds, _, ns, .cons a r, e => by
    cases d with
    | bool i =>
      cases a
      obtain ⟨ms, e1, rfl⟩ := Option.map_eq_some_iff.mp e
      rw [DpAll.bls r e1]
      rfl
    | _ => cases e
def fAll : List D → Option D
  | [.list xs] => (asBls xs).map fun ns => .bool (ns.all id)
  | _ => none
theorem cs_all (hc : X.calm = true) : CallS X (.builtin "all") fAll := by
  refine ⟨_, cr_all hc, fun F H vs ds d Q s hv e q => ?_⟩
  unfold fAll at e
  split at e
  · obtain ⟨ns, e1, rfl⟩ := Option.map_eq_some_iff.mp e
    cases hv with
    | cons a r =>
      cases r
      cases a with
      | lst sx ax =>
        have z := DpAll.bls ax e1
        subst z
        exact ⟨_, ns, rfl, s.seq sx, q _ _ _ (Stq.refl s) (.bl _)⟩
  · cases e
def fAny : List D → Option D
  | [.list xs] => (asBls xs).map fun ns => .bool (ns.any id)
  | _ => none
theorem cs_any (hc : X.calm = true) : CallS X (.builtin "any") fAny := by
  refine ⟨_, cr_any hc, fun F H vs ds d Q s hv e q => ?_⟩
  unfold fAny at e
  split at e
  · obtain ⟨ns, e1, rfl⟩ := Option.map_eq_some_iff.mp e
    cases hv with
    | cons a r =>
      cases r
      cases a with
      | lst sx ax =>
        have z := DpAll.bls ax e1
        subst z
        exact ⟨_, ns, rfl, s.seq sx, q _ _ _ (Stq.refl s) (.bl _)⟩
  · cases e
end

end PL

namespace PL
open PySem PySem.Spec PyProof.Rows L2

/-! ### slices -/
section
variable {prog : Program} {w : World} {A : Around} {E : Value → Shared → Prop} {s : Shared}
theorem filterMap_some {α β : Type} {f : α → Option β} {g : α → β} : ∀ {l : List α}, (∀ k, k ∈ l → f k = some (g k)) → l.filterMap f = l.map g
  | [], _ => rfl
  | x :: l, h => by
    rw [List.filterMap_cons_some (h x List.mem_cons_self), List.map_cons, filterMap_some fun k hk => h k (List.mem_cons_of_mem _ hk)]
theorem rev_pick (xs : Array Value) : ((List.range xs.size).filterMap fun (k : Nat) => xs[(((xs.size : Int) - 1) + (k : Int) * (-1)).toNat]?) = xs.toList.reverse := by
  have e1 : ∀ k, k ∈ List.range xs.size → xs[(((xs.size : Int) - 1) + (k : Int) * (-1)).toNat]? = some (xs.toList.reverse.getD k .none) := fun k hk => by
    have hk : k < xs.size := List.mem_range.mp hk
    have e : (((xs.size : Int) - 1) + (k : Int) * (-1)).toNat = xs.size - 1 - k := by omega
    rw [e, Array.getElem?_eq_getElem (by omega), List.getD_eq_getElem?_getD, List.getElem?_reverse (by simpa using hk), Array.length_toList, List.getElem?_eq_getElem (by simp; omega)]
    simp
  rw [filterMap_some e1]
  apply List.ext_getElem?
  intro i
  rw [List.getElem?_map]
  by_cases hi : i < xs.size
  · rw [List.getElem?_range hi]
    simp only [Option.map_some]
    rw [List.getD_eq_getElem?_getD, List.getElem?_eq_getElem (l := xs.toList.reverse) (by simpa using hi)]
    rfl
  · rw [List.getElem?_eq_none (by simpa using hi), List.getElem?_eq_none (by simpa using hi)]
    rfl
theorem applied_rev {sl : Addr} {vs : Value} {n : Nat} {R : Int × Int × Nat → Shared → Prop} (hs : s.heap.IsSliceOf sl .none .none vs) (ps : IsPart vs (some (-1))) (h : R ((n : Int) - 1, -1, n) s) :
    wpAny (model prog w) A (Builtin.Slice.sliceApplied (.ref sl) (pure (n : Int))) R E s := by
  obtain ⟨os, hos, hcs, hds⟩ := id hs
  unfold Builtin.Slice.sliceApplied Builtin.Slice.sliceFields
  refine wpAny_bind (wpAny_bind (wpAny_field hos hds (x := .none) rfl (wpAny_bind (wpAny_field hos hds (x := .none) rfl (wpAny_bind (wpAny_field hos hds (x := vs) rfl (wpAny_pure ?_)))))))
  refine wpAny_bind (HT.slicePart_ ps ?_)
  show wpAny _ _ (if ((-1 : Int) == 0) = true then _ else _) _ _ s
  rw [if_neg (by decide)]
  refine wpAny_bind (slicePart_none (wpAny_bind (slicePart_none (wpAny_bind (wpAny_pure ?_)))))
  have e : Builtin.Slice.slicePlaces ((n : Int) - 1) (-1) (-1) = n := by
    unfold Builtin.Slice.slicePlaces
    have h1 : ¬ ((-1 : Int) > 0) := by omega
    simp only [h1, if_false, Int.neg_neg, Int.ediv_one]
    split <;> omega
  show wpAny _ _ (pure ((n : Int) - 1, (-1 : Int), Builtin.Slice.slicePlaces ((n : Int) - 1) (-1) (-1))) _ _ s
  rw [e]
  exact wpAny_pure h
theorem getItem_tuple_rev {t sl : Addr} {items : Array Value} {vs : Value} {Q : Value → Shared → Prop} (ht : IsTup s.heap t items) (hs : s.heap.IsSliceOf sl .none .none vs) (ps : IsPart vs (some (-1)))
    (h : Q (.ref s.heap.objs.size) { s with heap := s.heap.push { cls := .type "tuple", data := .seq items.toList.reverse.toArray } })
    (hsz : items.size ≤ sizeLine) : wpAny (model prog w) A (getItem (.ref t) (.ref sl)) Q E s := by
  have htake : sizeOk (.seq items.toList.reverse.toArray) := by
    show items.toList.reverse.toArray.size ≤ sizeLine
    simpa using hsz
  obtain ⟨os, hos, hcs, hds⟩ := id hs
  have hTs : s.TypeIs (.ref sl) "slice" := ⟨os, hos, hcs⟩
  unfold getItem
  try with_reducible refine wpAny_holding ?_
  first | refine wpAny_bind (wpAny_pure ?_) | skip
  refine wpAny_bind (wpAny_sequenceKey ht.typeIs (by decide) ?_)
  refine wpAny_bind (wpAny_callSpecial?_slot (name := Str.ofString "__getitem__") ht.typeIs PyProof.Rows.slot_tuple_getitem
    (wpAny_call_entry PyProof.Rows.slot_tuple_getitem ht.typeIs entry_tuple_getitem ?_ (args_tuple_getitem _ _)))
  show wpAny _ _ (Builtin.Tuple.tupleItemsOf (.ref t) >>= _) _ _ s
  refine wpAny_bind (tupleItemsOf_ ht ?_)
  refine wpAny_bind (wpAny_typeOf hTs ?_)
  rw [if_pos (by decide)]
  refine wpAny_bind (applied_rev hs ps ?_)
  have hno : ¬ (((items.size : Int) - 1 == 0 && (-1 : Int) == 1 && items.size == items.size) = true) := by simp
  show wpAny _ _ (if ((items.size : Int) - 1 == 0 && (-1 : Int) == 1 && items.size == items.size) = true then _ else _) _ _ s
  rw [if_neg hno, rev_pick]
  first
    | exact wpAny_bind (m := Builtin.Tuple.tupleExact _) (wpAny_newObj_type (wpAny_pure ⟨_, rfl, wpAny_pure h⟩) htake)
    | exact wpAny_bind (m := Builtin.Tuple.tupleExact _) (wpAny_newObj_type (wpAny_bind (wpAny_pure (wpAny_pure ⟨_, rfl, wpAny_pure h⟩))) htake)
    | exact wpAny_bind (wpAny_bind (m := Builtin.Tuple.tupleExact _) (wpAny_newObj_type (wpAny_pure (wpAny_pure ⟨_, rfl, wpAny_pure h⟩)) htake))
    | exact wpAny_bind (wpAny_bind (m := Builtin.Tuple.tupleExact _) (wpAny_newObj_type (wpAny_pure ⟨_, rfl, wpAny_pure h⟩) htake))
end
/-- a[::-1] of a list or a tuple -/
def tRevA (K : PySem.W.Frag) (te : TE) : TE := fun σ H Q => te σ H fun x H1 => (∃ a xs, x = .ref a ∧ SqL K H1 a xs ∧ ∀ p, H1 p = none → Q (.ref p) (upd H1 p (.lst xs.reverse))) ∨
  (∃ a xs, x = .ref a ∧ SqT K H1 a xs ∧ ∀ p, H1 p = none → Q (.ref p) (upd H1 p (.tup xs.reverse)))
theorem pe_revA {X : Cx} {e : Expr} {te : TE} {k : Nat} {p1 p2 p3 pos : Pos} (he : PE X e te) : PE X (.Subscript e (.Slice none none (some (.UnaryOp .USub (.Constant (.int 1) k p1) p2)) p3) pos) (tRevA X.K te) := by
  refine ⟨fun pins s σ H Q I h => ?_⟩
  refine Subscript_ (thn (he.run pins s σ H _ I h) fun v s1 ⟨x, H1, I1, r1, q1⟩ => ?_)
  have hst : PO X (some (.UnaryOp .USub (.Constant (.int 1) k p1) p2)) (tPart (tUn (rU fun i => .int (-i)) (tC (.int 1)))) := po_some (pe_un un_neg pe_int)
  refine wpAny_Slice (thn (po_none.run pins s1 σ H1 (fun o H2 => o = none ∧ H2 = H1) I1 ⟨rfl, rfl⟩) fun vl s2 ⟨l, H2, I2, pl, el, e2⟩ => ?_)
  subst el e2
  refine thn (po_none.run pins s2 σ H2 (fun o H3 => o = none ∧ H3 = H2) I2 ⟨rfl, rfl⟩) fun vu s3 ⟨u, H3, I3, pu, eu, e3⟩ => ?_
  subst eu e3
  refine thn (hst.run pins s3 σ H3 (fun o H4 => o = some (-1) ∧ H4 = H3) I3 ⟨1, rfl, -1, rfl, rfl, rfl⟩) fun vs s4 ⟨o, H4, I4, ps, eo, e4⟩ => ?_
  subst eo e4
  have I5 : Inv X pins σ H4 { s4 with heap := s4.heap.push { cls := .type "slice", data := .fields #[vl, vu, vs] } } := I4.kept (t' := s4.toks) fun b ob q => Heap.get?_push_of_some _ q
  rcases q1 with ⟨a, xs, ex, hx, q⟩ | ⟨a, xs, ex, hx, q⟩
  · subst ex
    cases r1
    obtain ⟨its, r, ht, hz⟩ := I5.list hx
    have hlen := r.length
    show wpAny (model X.prog X.w) X.A (subscriptTail e (.Slice none none (some (.UnaryOp .USub (.Constant (.int 1) k p1) p2)) p3) (.ref a) (.ref s4.heap.objs.size)) (EP X pins σ Q) X.xe { s4 with heap := s4.heap.push { cls := .type "slice", data := .fields #[vl, vu, vs] } }
    refine tail_any (ops := [.ref a, .ref s4.heap.objs.size]) ht.isList.typeIs (PySem.slot_list_getitem.lookup) ?_ (by with_unfolding_all rfl)
    refine wpAny_getItem_list_slice ht.isList (Heap.IsSliceOf.new _ vl vu vs) pl pu ps (by decide) ?_ (by rw [List.size_toArray]; omega)
    rw [PySem.W.krv_pick]
    refine ⟨.ref _, _, I5.laid (t' := s4.toks) (o := .lst xs.reverse) (fun b ob q => Heap.get?_push_of_some _ q) (Nat.le_refl _) ?_, rfl, q _ (I5.hok.fresh (Nat.le_refl _))⟩
    exact ⟨by rw [List.length_reverse]; exact hz, _, 0, r.reverse, Heap.get?_push_size _ rfl⟩
  · subst ex
    cases r1
    cases pl
    cases pu
    obtain ⟨its, r, ht, hz⟩ := I5.tuple hx
    have hlen := r.length
    show wpAny (model X.prog X.w) X.A (subscriptTail e (.Slice none none (some (.UnaryOp .USub (.Constant (.int 1) k p1) p2)) p3) (.ref a) (.ref s4.heap.objs.size)) (EP X pins σ Q) X.xe { s4 with heap := s4.heap.push { cls := .type "slice", data := .fields #[.none, .none, vs] } }
    refine tail_any (ops := [.ref a, .ref s4.heap.objs.size]) ht.typeIs (PyProof.Rows.slot_tuple_getitem.lookup) ?_ (by with_unfolding_all rfl)
    refine getItem_tuple_rev ht (Heap.IsSliceOf.new _ .none .none vs) ps ?_ (by rw [List.size_toArray]; omega)
    refine ⟨.ref _, _, I5.laid (t' := s4.toks) (o := .tup xs.reverse) (fun b ob q => Heap.get?_push_of_some _ q) (Nat.le_refl _) ?_, rfl, q _ (I5.hok.fresh (Nat.le_refl _))⟩
    exact ⟨by rw [List.length_reverse]; exact hz, _, r.reverse, ⟨_, Heap.get?_push_size _ rfl, rfl, _, rfl⟩⟩
def gRev : D → Option D
  | .list xs => some (.list xs.reverse)
  | .tuple xs => some (.tuple xs.reverse)
  | _ => none
def cutD (xs : List D) (lo hi : Option Int) : List D := (xs.drop (HT.sIx xs.length 0 lo)).take (HT.sIx xs.length xs.length hi - HT.sIx xs.length 0 lo)
abbrev SO := Lo → M (Option Int)
def eSl (te : SE) (tl th : SO) : SE := fun ρ => mb (te ρ) fun d => mb (tl ρ) fun lo => mb (th ρ) fun hi => match d with
  | .list xs => mp (.list (cutD xs lo hi))
  | .tuple xs => mp (.tuple (cutD xs lo hi))
  | _ => fun _ => none
def oNo : SO := fun _ => mp none
def asI : D → Option Int
  | .int i => some i
  | _ => none
def oSo (f : SE) : SO := fun ρ => mb (f ρ) fun d => mb (ml (asI d)) fun i => mp (some i)
def EPt (X : Cx) (Ω : Orc) (ow : List Nat) (e : Option Expr) (f : SO) : Prop := ∃ t, PO X e t ∧ ∀ F0 H0 F H σ ρ h o h' Q, SR X.K Ω ow F0 H0 F H σ ρ h → f ρ h = some (o, h') →
  (∀ F' H', Stp Ω F H F' H' → Ω.OR h' H' → Q o H') → t σ H Q
section
variable {X : Cx} {Ω : Orc} {ow : List Nat} {pos : Pos} {a : Expr} {fa : SE}
theorem ep_no : EPt X Ω ow none oNo := ⟨_, po_none, fun F0 H0 F H σ ρ h o h' Q S e q => by
  obtain ⟨rfl, rfl⟩ := mp_some e
  exact q _ _ (Stp.refl S.fh) S.orc⟩
theorem ep_so (ha : EV X Ω ow a fa) : EPt X Ω ow (some a) (oSo fa) := ⟨_, po_some we, fun F0 H0 F H σ ρ h o h' Q S e q => by
  obtain ⟨d, h1, e1, e⟩ := mb_some e
  obtain ⟨i, h2, z2, e⟩ := mb_some e
  obtain ⟨rfl, rfl⟩ := mp_some e
  obtain ⟨e2, rfl⟩ := ml_some z2
  refine ha _ _ _ _ _ _ _ _ _ _ S e1 fun v F1 H1 s1 o1 d1 => ?_
  cases d with
  | int j =>
    cases e2
    cases d1
    exact ⟨_, rfl, q _ _ s1 o1⟩
  | _ => cases e2⟩
theorem DpAll.cut {K : PySem.W.Frag} {F : Hp} {xs : List V} {ds : List D} (a : DpAll K F xs ds) (lo hi : Option Int) : DpAll K F (cutV xs lo hi) (cutD ds lo hi) := by
  unfold cutV cutD
  rw [DpAll.length a]
  exact DpAll.take _ (DpAll.drop _ a)
theorem cut_whole (xs : List D) (lo hi : Option Int) (h : HT.sIx xs.length 0 lo = 0 ∧ HT.sIx xs.length xs.length hi = xs.length) : cutD xs lo hi = xs := by
  unfold cutD
  rw [h.1, h.2]
  simp
theorem ev_slice {lo hi : Option Expr} {tl th : SO} {p2 : Pos} (ha : EV X Ω ow a fa) (hl : EPt X Ω ow lo tl) (hh : EPt X Ω ow hi th) : EV X Ω ow (.Subscript a (.Slice lo hi none p2) pos) (eSl fa tl th) := by
  intro F0 H0 F H σ ρ h d h' Q S e q
  obtain ⟨x, h1, e1, e⟩ := mb_some e
  obtain ⟨l, h2, e2, e⟩ := mb_some e
  obtain ⟨u, h3, e3, e⟩ := mb_some e
  obtain ⟨t1, p1, q1⟩ := hl
  obtain ⟨t2, p2', q2⟩ := hh
  refine we_of (pe_slice (sl_list.or sl_tupA) we p1 p2') ?_
  refine ha _ _ _ _ _ _ _ _ _ _ S e1 fun v F1 H1 s1 o1 d1 => ?_
  refine q1 _ _ _ _ _ _ _ _ _ _ (S.next s1 o1) e2 fun F2 H2 s2 o2 => ?_
  refine q2 _ _ _ _ _ _ _ _ _ _ ((S.next s1 o1).next s2 o2) e3 fun F3 H3 s3 o3 => ?_
  have s23 := s2.trans s3
  have s13 := s1.trans s23
  have d3 := Dp_mono s23.sf d1
  cases x with
  | list xs =>
    obtain ⟨rfl, rfl⟩ := mp_some e
    cases d3 with
    | lst sx ax =>
      refine .inl ⟨_, _, rfl, s3.fh.seq sx, fun p np => ?_⟩
      obtain ⟨b1, b2⟩ := Stq.newD s3.fh np (DpAll.cut ax l u)
      exact q _ _ _ (s13.trans b1.stp) (b1.orc o3) b2
  | tuple xs =>
    obtain ⟨rfl, rfl⟩ := mp_some e
    cases d3 with
    | tup sx ax =>
      refine .inr ⟨_, _, rfl, sqT_mono s3.fh sx, fun z => ?_, fun _ p np => ?_⟩
      · rw [DpAll.length ax] at z
        rw [cut_whole xs l u z] at q
        exact q _ _ _ s13 o3 (.tup sx ax)
      · obtain ⟨b1, b2⟩ := Stq.newT s3.fh np (DpAll.cut ax l u)
        exact q _ _ _ (s13.trans b1.stp) (b1.orc o3) b2
  | _ => cases e
theorem ev_rev {k : Nat} {p1 p2 p3 : Pos} (ha : EV X Ω ow a fa) : EV X Ω ow (.Subscript a (.Slice none none (some (.UnaryOp .USub (.Constant (.int 1) k p1) p2)) p3) pos) (eUn gRev fa) := by
  intro F0 H0 F H σ ρ h d h' Q S e q
  obtain ⟨x, h1, e1, e⟩ := mb_some e
  obtain ⟨e2, rfl⟩ := ml_some e
  refine we_of (pe_revA we) (ha _ _ _ _ _ _ _ _ _ _ S e1 fun v F1 H1 s1 o1 d1 => ?_)
  cases x with
  | list xs =>
    cases e2
    cases d1 with
    | lst sx ax =>
      refine .inl ⟨_, _, rfl, s1.fh.seq sx, fun p np => ?_⟩
      obtain ⟨b1, b2⟩ := Stq.newD s1.fh np (DpAll.reverse ax)
      exact q _ _ _ (s1.trans b1.stp) (b1.orc o1) b2
  | tuple xs =>
    cases e2
    cases d1 with
    | tup sx ax =>
      refine .inr ⟨_, _, rfl, sqT_mono s1.fh sx, fun p np => ?_⟩
      obtain ⟨b1, b2⟩ := Stq.newT s1.fh np (DpAll.reverse ax)
      exact q _ _ _ (s1.trans b1.stp) (b1.orc o1) b2
  | _ => cases e2
end

/-! ### isinstance -/
def tyName : D → String
  | .none => "NoneType"
  | .bool _ => "bool"
  | .int _ => "int"
  | .str _ => "str"
  | .list _ => "list"
  | .tuple _ => "tuple"
  | .dict _ => "dict"
def gIsi (T : String) (d : D) : Option D := (kitB (tyName d) T).map .bool
section
variable {X : Cx} {Ω : Orc} {ow : List Nat} {pos : Pos} {a : Expr} {fa : SE}
theorem ty_of {K : PySem.W.Frag} {F H : Hp} {v : V} {d : D} (s : Same F H) (h : Dp K F v d) : TyX K H v (.type (tyName d)) := by
  cases h with
  | non => exact .base .non
  | bl b => exact .base (.bl b)
  | int i => exact .base (.int i)
  | str x => exact .base (.str x)
  | lst sq _ =>
    rcases sq with (sq | ⟨o, sq⟩) | ⟨o, its, n, hk, hc, _⟩
    · exact .base (.lst (s _ _ sq))
    · exact .base (.frz (s _ _ sq))
    · exact .kList hk hc
  | tup sq _ =>
    rcases sq with (sq | ⟨o, sq⟩) | ⟨o, its, n, hk, hc, _⟩
    · exact .base (.tup (s _ _ sq))
    · exact .fTuple (s _ _ sq)
    · exact .kTuple hk hc
theorem ev_isi {x y : Str} {p p2 : Pos} {T : String} (hm : X.mg x = none) (hmT : X.mg y = none) (ha : EV X Ω ow a fa) (hg : Gl X x := by rfl) (hv : bootBuiltins x = some (.builtin "isinstance") := by decide +kernel) (hgT : Gl X y := by rfl) (hvT : bootBuiltins y = some (.type T) := by decide +kernel)
    (hn : x ≠ "__name__" := by decide) (hdb : (x == ("__debug__" : Str)) = false := by decide) (hnT : y ≠ "__name__" := by decide) (hdbT : (y == ("__debug__" : Str)) = false := by decide)
    (he : starEach [a, .Name y p2] X.env = (false, eval a X.env) :: starEach [.Name y p2] X.env := by rfl) (hpl : (backTo pos (starEach [.Name y p2] X.env)).any (·.1) = false := by rfl) :
    EV X Ω ow (.Call (.Name x p) [a, .Name y p2] [] pos) (eUn (gIsi T) fa) := by
  intro F0 H0 F H σ ρ h d h' Q S e q
  obtain ⟨z, h1, e1, e⟩ := mb_some e
  obtain ⟨e2, rfl⟩ := ml_some e
  obtain ⟨b, e3, rfl⟩ := Option.map_eq_some_iff.mp e2
  refine we_of (pe_callB call_isi hg hm hv (pa_cons we (pa_cons (pe_bltn (v := .ty T) hgT hmT hvT rfl hnT hdbT) pa_nil) he) hn hdb he hpl) ?_
  refine ha _ _ _ _ _ _ _ _ _ _ S e1 fun v F1 H1 s1 o1 d1 => ?_
  exact ⟨v, .ty T, _, _, b, rfl, .ty T, ty_of s1.fh d1, kit_ty e3, q _ _ _ s1 o1 (.bl b)⟩
end
/-! ### the built-ins' names -/
theorem hv_len : bootBuiltins "len" = some (.builtin "len") := by decide +kernel
theorem hv_abs : bootBuiltins "abs" = some (.builtin "abs") := by decide +kernel
theorem hv_sum : bootBuiltins "sum" = some (.builtin "sum") := by decide +kernel
theorem hv_all : bootBuiltins "all" = some (.builtin "all") := by decide +kernel
theorem hv_any : bootBuiltins "any" = some (.builtin "any") := by decide +kernel
theorem hv_sorted : bootBuiltins "sorted" = some (.builtin "sorted") := by decide +kernel
theorem hv_min : bootBuiltins "min" = some (.builtin "min") := by decide +kernel
theorem hv_max : bootBuiltins "max" = some (.builtin "max") := by decide +kernel
theorem hv_isinstance : bootBuiltins "isinstance" = some (.builtin "isinstance") := by decide +kernel
theorem hv_int : bootBuiltins "int" = some (.type "int") := by decide +kernel
theorem hv_bool : bootBuiltins "bool" = some (.type "bool") := by decide +kernel
theorem hv_str : bootBuiltins "str" = some (.type "str") := by decide +kernel
theorem hv_list : bootBuiltins "list" = some (.type "list") := by decide +kernel
theorem hv_tuple : bootBuiltins "tuple" = some (.type "tuple") := by decide +kernel
theorem hv_dict : bootBuiltins "dict" = some (.type "dict") := by decide +kernel
theorem hv_set : bootBuiltins "set" = some (.type "set") := by decide +kernel
end PL

namespace PL
open PySem PySem.Spec PyProof.Rows L2

/-! ### draws -/
def Orc.at (Ω : Orc) (i : Nat) : Orc := { Ω with slot := some i }
theorem Stp.re {Ω Ω' : Orc} (e : ∀ p, Ω'.OC p → Ω.OC p) {F H F' H' : Hp} (s : Stp Ω F H F' H') (e2 : ∀ p, Ω.OC p → Ω'.OC p) : Stp Ω' F H F' H' := ⟨s.sf, s.fh, fun p o h n => s.kp p o h fun z => n (e2 p z), s.ap, s.al⟩
theorem Stp.to {Ω : Orc} {i : Nat} {F H F' H' : Hp} (s : Stp (Ω.at i) F H F' H') : Stp Ω F H F' H' := ⟨s.sf, s.fh, s.kp, s.ap, s.al⟩
theorem Stp.of {Ω : Orc} {i : Nat} {F H F' H' : Hp} (s : Stp Ω F H F' H') : Stp (Ω.at i) F H F' H' := ⟨s.sf, s.fh, s.kp, s.ap, s.al⟩
theorem ns0 {i : Nat} : Orc.no.slot ≠ some i := nofun
theorem ns1 {Ω : Orc} {j i : Nat} (h : j ≠ i := by decide) : (Ω.at j).slot ≠ some i := fun e => h (Option.some.inj e)
theorem nsl0 {l : List Nat} : ∀ i ∈ l, Orc.no.slot ≠ some i := fun _ _ => ns0
theorem nsl1 {Ω : Orc} {j : Nat} {l : List Nat} (h : j ∉ l := by decide) : ∀ i ∈ l, (Ω.at j).slot ≠ some i := fun i hi e => h (Option.some.inj e ▸ hi)
/-- one draw -/
def draw (o : List Int → Int → Int) : List D → M D
  | [.int n] => fun h => if 0 < n ∧ h.length < 1000000 then some (.int (o h n), h ++ [n]) else none
  | _ => fun _ => none
/-- the promise of a def whose first argument is the pool -/
def spM (K : PySem.W.Frag) (fam : Orc → Prop) (G : (List Int → Int → Int) → List D → M D) (n : Nat) : Sp := fun vs H Q _ => vs.length = n ∧ ∃ (Ω : Orc) (vs' : List V) (F : Hp) (ds : List D) (r : D) (h h' : List Int), fam Ω ∧ vs = .ref Ω.adr :: vs' ∧ Same F H ∧ DpAll K F vs' ds ∧ Ω.OR h H ∧ (∀ p, Ω.OC p → F p = none) ∧
  G Ω.o ds h = some (r, h') ∧ ∀ v F' H', Stp Ω F H F' H' → Ω.OR h' H' → Dp K F' v r → Q v H'
def eCallM (G : List D → M D) (a : SA) : SE := fun ρ => mb (a ρ) fun xs => G xs
section
variable {X : Cx} {Ω : Orc} {ow : List Nat} {es : List Expr} {sa : SA} {pos p p2 : Pos} {k : Nat} {f : Addr} {fd : FuncData} {ps : List Str} {fam : Orc → Prop}
theorem ev_callM {x y : Str} {i n : Nat} {G : (List Int → Int → Int) → List D → M D} (Gk : FnOk X.prog X.w X.K X.mg X.base CX0 k f fd ps (spM X.K fam G n)) (hr : Room k X.A) (hm : X.mg x = some (.ref f)) (hk : PySem.W.keepIn X.K (.ref f) = true) (hb : Binds X.K fd ps []) (hf : fam Ω)
    (ha : EA X (Ω.at i) ow es sa) (hl : ∀ ρ h ds h', sa ρ h = some (ds, h') → ds.length + 1 = n) (hN : X.N[i]? = some y := by rfl) (hv : Vis X.env.scope y := by first | exact Or.inl rfl | exact Or.inr (Or.inl rfl) | exact Or.inr (Or.inr rfl)) (hg : Gl X x := by rfl)
    (hdb : (x == ("__debug__" : Str)) = false := by decide) (hd : (y == ("__debug__" : Str)) = false := by decide) (hcd : (y == ("__classdict__" : Str)) = false := by decide)
    (hs : starEach (.Name y p2 :: es) X.env = (false, eval (.Name y p2) X.env) :: starEach es X.env := by rfl) (hpl : (backTo pos (starEach es X.env)).any (·.1) = false := by rfl) :
    EV X (Ω.at i) ow (.Call (.Name x p) (.Name y p2 :: es) [] pos) (eCallM (G Ω.o) sa) := by
  intro F0 H0 F H σ ρ h d h' Q S e q
  obtain ⟨xs, h1, e1, e⟩ := mb_some e
  refine we_of (pe_call Gk hr hg hm hk hb .nil pass0 (pa_cons (pe_var hN hv hd hcd) wa hs) hdb hs hpl) ?_
  obtain ⟨pl1, _⟩ := S.pool i rfl
  refine ⟨_, pl1, ha _ _ _ _ _ _ _ _ _ _ S e1 fun vs F1 H1 s1 o1 d1 => ?_⟩
  show spM X.K fam G n ((.ref Ω.adr :: vs) ++ []) H1 Q E0
  rw [List.append_nil]
  refine ⟨by rw [List.length_cons, DpAll.length d1]; exact hl _ _ _ _ e1, Ω, vs, F1, xs, d, h1, h', hf, rfl, s1.fh, d1, o1, fun p hp => s1.ap p (Ω.alloc h H S.orc p hp) (S.ocf p hp), e, fun v F2 H2 s2 o2 d2 => ?_⟩
  exact q _ _ _ (s1.trans s2.of) o2 d2
end
theorem al_nil : ∀ (ρ : Lo) (h : List Int) (ds : List D) (h' : List Int), aNil ρ h = some (ds, h') → ds.length = 0 := fun ρ h ds h' e => by cases e; rfl
theorem al_cons {f : SE} {sa : SA} {n : Nat} (r : ∀ (ρ : Lo) (h : List Int) (ds : List D) (h' : List Int), sa ρ h = some (ds, h') → ds.length = n) : ∀ (ρ : Lo) (h : List Int) (ds : List D) (h' : List Int), aCons f sa ρ h = some (ds, h') → ds.length = n + 1 := fun ρ h ds h' e => by
  obtain ⟨x, h1, e1, e⟩ := mb_some e
  obtain ⟨xs, h2, e2, e⟩ := mb_some e
  obtain ⟨rfl, rfl⟩ := mp_some e
  rw [List.length_cons, r _ _ _ _ e2]
theorem al1 {sa : SA} {n : Nat} (r : ∀ (ρ : Lo) (h : List Int) (ds : List D) (h' : List Int), sa ρ h = some (ds, h') → ds.length = n) : ∀ (ρ : Lo) (h : List Int) (ds : List D) (h' : List Int), sa ρ h = some (ds, h') → ds.length + 1 = n + 1 := fun ρ h ds h' e => by rw [r _ _ _ _ e]
def startM (n : Nat) (ds : List D) : Lo := none :: startD (n - 1) ds
theorem fn_okM {P : Program} {w : World} {K : PySem.W.Frag} {mg : Str → Option Value} {base : Heap} {x qual : Str} {st : Stmt} {f : Addr} {fd : FuncData} {N ps : List Str} {k n : Nat} {oe : List Nat} {fam : Orc → Prop} {G : (List Int → Int → Int) → List D → M D} {fb : (List Int → Int → Int) → Nat → SS}
    (Gf : Fun K x qual st f fd) (S : FnScope N ps (defScope st)) (hn : ps.length = n)
    (hb : ∀ Ω, fam Ω → ∀ nn cdv A outer s H E, Room k (A.deeper (envOfC qual (defScope st) s.heap.objs.size f cdv)) → ESs (cxOf CX0 P w K mg base N qual (defScope st) f cdv A outer s H E).nox (Ω.at 0) [] [] (defBody st) oe (fb Ω.o nn))
    (hF : ∀ o ds r h h', ds.length + 1 = n → G o ds h = some (r, h') → ∃ nn, fb o nn (startM N.length ds) h = some (.ret r, h')) : FnOk P w K mg base CX0 (k + 1) f fd ps (spM K fam G n) := by
  refine Gf.ok S (fun vs H Q E h => by rw [h.1, hn]) (fun cdv A outer s H vs Q E hr h => ?_)
  obtain ⟨hv, Ω, vs', F, ds, r, h, h', hf, rfl, sF, da, orc, ocf, hr', q⟩ := h
  have hl := DpAll.length da
  have hd : ds.length + 1 = n := by rw [← hl]; simpa using hv
  obtain ⟨nn, e⟩ := hF Ω.o ds r h h' hd hr'
  refine ⟨_, wss, ?_⟩
  have hps : ps.length ≤ N.length := by
    have := congrArg List.length S.pre
    rw [List.length_take] at this
    omega
  have SR0 : SR K (Ω.at 0) [] F H F H (L2.start N (.ref Ω.adr :: vs')) (startM N.length ds) h := by
    have e0 : L2.start N (.ref Ω.adr :: vs') = some (.ref Ω.adr) :: (vs'.map some ++ List.replicate (N.length - 1 - vs'.length) none) := by
      unfold L2.start
      rw [List.map_cons, List.cons_append, List.length_cons, show N.length - (vs'.length + 1) = N.length - 1 - vs'.length by omega]
    rw [e0]
    refine ⟨Stp.refl sF, ?_, fun i d _ e => ?_, fun i d hi => (nomatch hi), fun i j p d e hi => (nomatch hi), orc, ocf, fun i hi => ?_⟩
    · unfold startM startD
      simp [hl]
    · cases i with
      | zero => cases e
      | succ i =>
        obtain ⟨v, e1, e2⟩ := start_val (n := N.length - 1) (i := i) da (by simpa [startM] using e)
        exact ⟨v, by simpa using e1, e2⟩
    · cases hi
      exact ⟨rfl, rfl⟩
  refine hb Ω hf nn cdv A outer s H E hr _ _ _ _ _ _ _ _ _ _ SR0 e ?_
  exact fun v F' H' s' o' dv => q v F' H' s'.to o' dv
end PL
namespace PL
open PySem PySem.Spec PyProof.Rows L2
/-- the pool of the older laws: its rows, and how many were taken -/
def mkOrc (P0 R C : Addr) (rows : List Int) : Orc where
  slot := none
  adr := P0
  OC := fun p => p = P0 ∨ p = R ∨ p = C
  OR := fun h H => H P0 = some (.lst [.ref R, .ref C]) ∧ H R = some (.lst (rows.map V.int)) ∧ H C = some (.lst [.int (h.length : Nat)])
  o := fun h n => ((rows.getD (h.length % rows.length) 0) + ((h.length / rows.length : Nat) : Int) * 1009 + ((h.length / rows.length : Nat) : Int) * ((h.length : Nat) : Int)).fmod n
  alloc := fun h H ⟨a, b, c⟩ p hp => by
    rcases hp with rfl | rfl | rfl
    · rw [a]; simp
    · rw [b]; simp
    · rw [c]; simp
  stable := fun h H H' ⟨a, b, c⟩ k => ⟨k _ _ (.inl rfl) a, k _ _ (.inr (.inl rfl)) b, k _ _ (.inr (.inr rfl)) c⟩
def FAM : Orc → Prop := fun Ω => ∃ P0 R C rows, Ω = mkOrc P0 R C rows ∧ P0 ≠ R ∧ P0 ≠ C ∧ R ≠ C ∧ 0 < rows.length ∧ rows.length ≤ 1000
/-- what a draw gives -/
def Fair (o : List Int → Int → Int) : Prop := ∀ h n, 0 < n → 0 ≤ o h n ∧ o h n < n
theorem FAM.fair {Ω : Orc} (h : FAM Ω) : Fair Ω.o := by
  obtain ⟨P0, R, C, rows, rfl, _⟩ := h
  exact fun h n hn => ⟨Int.fmod_nonneg_of_pos _ hn, Int.fmod_lt_of_pos _ hn⟩
theorem stM {r : Option (Fl × List Int)} {d : D} {h' : List Int} (e : (match r with | some (.ret r, h') => some (r, h') | _ => none) = some (d, h')) : r = some (.ret d, h') := by
  split at e
  · cases e; rfl
  · cases e
end PL

namespace PL
open PySem PySem.Spec PyProof.Rows L2
section
variable {P : Program} {w : World} {K : PySem.W.Frag} {mg : Str → Option Value} {base : Heap}
/-- the body of the older laws' pick, whatever stands around it -/
theorem pick_read {Ω : Orc} {F H : Hp} {n : Int} {h h' : List Int} {r : D} {Q : VK} (hf : FAM Ω) (sF : Same F H) (orc : Ω.OR h H) (ocf : ∀ p, Ω.OC p → F p = none) (e : draw Ω.o [.int n] h = some (r, h'))
    (q : ∀ v F' H', Stp Ω F H F' H' → Ω.OR h' H' → Dp K F' v r → Q v H') :
    ∃ (P0 R C : Addr) (rows : List Int), Ω.adr = P0 ∧ H P0 = some (.lst [.ref R, .ref C]) ∧ H R = some (.lst (rows.map V.int)) ∧ H C = some (.lst [.int (h.length : Nat)]) ∧ R ≠ C ∧ P0 ≠ C ∧ 0 < rows.length ∧ rows.length ≤ 1000 ∧ h.length < 1000000 ∧ 0 < n ∧
      Q (.int (((rows.getD (h.length % rows.length) 0) + ((h.length / rows.length : Nat) : Int) * 1009 + ((h.length / rows.length : Nat) : Int) * ((h.length : Nat) : Int)).fmod n)) (upd H C (.lst [.int ((h.length : Nat) + 1 : Int)])) := by
  obtain ⟨P0, R, C, rows, rfl, n1, n2, n3, l1, l2⟩ := hf
  obtain ⟨o1, o2, o3⟩ := orc
  have e' : (if 0 < n ∧ h.length < 1000000 then some (PyData.int ((mkOrc P0 R C rows).o h n), h ++ [n]) else none) = some (r, h') := e
  split at e'
  · rename_i hc
    cases e'
    have fp : ∀ {b : Addr} {o : HO}, F b = some o → b ≠ C := fun {b o} eb z => by
      have := ocf C (.inr (.inr rfl))
      rw [z, this] at eb
      cases eb
    refine ⟨P0, R, C, rows, rfl, o1, o2, o3, n3, n2, l1, l2, hc.2, hc.1, ?_⟩
    refine q _ F _ ⟨Same.refl _, fun b o eb => by rw [upd_ne (fp eb)]; exact sF b o eb, fun b o eb nb => ?_, fun _ _ z => z, fun b nb => ?_⟩ ⟨?_, ?_, ?_⟩ (.int _)
    · rw [upd_ne (fun z => nb (.inr (.inr z)))]; exact eb
    · by_cases hb : b = C
      · subst hb; rw [upd_same]; simp
      · rw [upd_ne hb]; exact nb
    · rw [upd_ne n2]; exact o1
    · rw [upd_ne n3]; exact o2
    · rw [upd_same]; simp
  · cases e'
end
theorem atI0 {α : Type} {x y : α} : atI [x, y] 0 = some x := rfl
theorem atI1 {α : Type} {x y : α} : atI [x, y] 1 = some y := rfl
theorem natdiv (a b : Nat) : ((a : Int)).fdiv (b : Int) = ((a / b : Nat) : Int) := by
  rw [Int.fdiv_eq_ediv_of_nonneg _ (by omega)]
  rfl
theorem natmod (a b : Nat) : ((a : Int)).fmod (b : Int) = ((a % b : Nat) : Int) := by
  rw [Int.fmod_eq_emod_of_nonneg _ (by omega)]
  rfl
end PL
namespace PL
open PySem PySem.Spec PyProof.Rows L2
/-- the promise of the older laws' pool -/
def spPool (K : PySem.W.Frag) : Sp := fun vs H Q _ => ∃ (a : Addr) (ns : List Int), vs = [.ref a] ∧ SqL K H a (ns.map V.int) ∧ ns.length ≤ 63 ∧
  ∀ H' P0 R C (rows : List Int), H' P0 = some (.lst [.ref R, .ref C]) → H' R = some (.lst (rows.map V.int)) → H' C = some (.lst [.int 0]) → P0 ≠ R → P0 ≠ C → R ≠ C → 0 < rows.length → rows.length ≤ 1000 → Q (.ref P0) H'
theorem DpAll_ints {K : PySem.W.Frag} {F : Hp} : ∀ ns : List Int, DpAll K F (ns.map V.int) (ns.map PyData.int)
  | [] => .nil
  | n :: ns => .cons (.int n) (DpAll_ints ns)
theorem DpAll_ints_inv {K : PySem.W.Frag} {F : Hp} : ∀ {ns : List Int} {vs : List V}, DpAll K F vs (ns.map PyData.int) → vs = ns.map V.int
  | [], _, .nil => rfl
  | n :: ns, _, .cons a r => by
    cases a
    rw [DpAll_ints_inv r]
    rfl
end PL
namespace PL
open PySem PySem.Spec PyProof.Rows L2
def spLaw (K : PySem.W.Frag) : Sp := fun vs H Q _ => ∃ (a : Addr) (ns : List Int), vs = [.ref a] ∧ SqL K H a (ns.map V.int) ∧ ns.length ≤ 63 ∧ ∀ H', Q (.bl true) H'
/-- the state behind the pool's making -/
theorem SR.law {K : PySem.W.Frag} {Ω : Orc} {i n : Nat} {H : Hp} {σ : L2.St} (hσ : σ.length = n) (hp : σ[i]? = some (some (.ref Ω.adr))) (o : Ω.OR [] H) : SR K (Ω.at i) [] (fun _ => none) H (fun _ => none) H σ (List.replicate n none) [] := by
  have hn : ∀ (j : Nat) (d : D), (List.replicate n (none : Option D))[j]? = some (some d) → False := fun j d e => by
    rw [List.getElem?_replicate] at e
    split at e <;> cases e
  refine ⟨Stp.refl (fun b o e => nomatch e), by simp [hσ], fun j d _ e => (hn j d e).elim, fun j d hj => (nomatch hj), fun j k p d e hj => (nomatch hj), o, fun p _ => rfl, fun j hj => ?_⟩
  cases hj
  refine ⟨hp, ?_⟩
  have hl : i < n := by
    have := (List.getElem?_eq_some_iff.mp hp).1
    omega
  rw [List.getElem?_replicate, if_pos hl]
end PL

/-! evaluating the semantics -/
namespace PL
open PySem PySem.Spec PyProof.Rows L2
theorem mb_mp {α β : Type} (a : α) (k : α → M β) : mb (mp a) k = k a := (rfl)
theorem mb_ml {α β : Type} (a : α) (k : α → M β) : mb (ml (some a)) k = k a := (rfl)
theorem mb_eq {α β : Type} {m : M α} {k : α → M β} {h h1 : List Int} {a : α} (e : m h = some (a, h1)) : mb m k h = k a h1 := by unfold mb; rw [e]
theorem mb_mb_eq {α β γ : Type} {m : M α} {k : α → M β} {f : β → M γ} {h h1 : List Int} {a : α} (e : m h = some (a, h1)) : mb (mb m k) f h = mb (k a) f h1 := by unfold mb; rw [e]
theorem mp_ap {α : Type} (a : α) (h : List Int) : mp a h = some (a, h) := (rfl)
theorem ml_ap {α : Type} (a : α) (h : List Int) : ml (some a) h = some (a, h) := (rfl)
theorem if_tt {α : Type} {a b : α} : (if true = true then a else b) = a := (rfl)
theorem if_ff {α : Type} {a b : α} : (if false = true then a else b) = b := (rfl)
/-- items of a mapped list -/
theorem atI_map {α β : Type} (f : α → β) (xs : List α) (i : Int) : atI (xs.map f) i = (atI xs i).map f := by
  unfold atI
  rw [List.length_map]
  cases ixN xs.length i with
  | none => rfl
  | some j => simp
theorem gMul_r {i j : Int} (h : -(2 ^ 64) < j ∧ j < 2 ^ 64) : gMul (.int i) (.int j) = some (.int (i * j)) := by
  have : small64 j = true := by unfold small64; rw [decide_eq_true h.1, decide_eq_true h.2]; rfl
  show (if (small64 i || small64 j) = true then _ else _) = _
  rw [this, Bool.or_true]; rfl
theorem gMul_l {i j : Int} (h : -(2 ^ 64) < i ∧ i < 2 ^ 64) : gMul (.int i) (.int j) = some (.int (i * j)) := by
  have : small64 i = true := by unfold small64; rw [decide_eq_true h.1, decide_eq_true h.2]; rfl
  show (if (small64 i || small64 j) = true then _ else _) = _
  rw [this, Bool.true_or]; rfl
theorem gMod_ok {i j : Int} (h : j ≠ 0) : gMod (.int i) (.int j) = some (.int (i.fmod j)) := by
  show (if j ≠ 0 then _ else _) = _
  rw [if_pos h]
theorem gFdiv_ok {i j : Int} (h : j ≠ 0 ∧ j.natAbs < 1073741824) : gFdiv (.int i) (.int j) = some (.int (i.fdiv j)) := by
  show (if _ then _ else _) = _
  rw [if_pos h]
theorem gAdd_i {i j : Int} : gAdd (.int i) (.int j) = some (.int (i + j)) := (rfl)
theorem gSub_i {i j : Int} : gSub (.int i) (.int j) = some (.int (i - j)) := (rfl)
end PL
namespace PL
open PySem PySem.Spec PyProof.Rows L2
section
variable {ρ : Lo} {h : List Int}
@[simp] theorem x_mp {α : Type} (a : α) : mp a h = some (a, h) := (rfl)
@[simp] theorem x_ml {α : Type} (a : α) : ml (some a) h = some (a, h) := (rfl)
@[simp] theorem x_mln {α : Type} : (ml (none : Option α)) h = none := (rfl)
@[simp] theorem x_mbp {α β : Type} (a : α) (k : α → M β) : mb (mp a) k = k a := (rfl)
@[simp] theorem x_mbl {α β : Type} (a : α) (k : α → M β) : mb (ml (some a)) k = k a := (rfl)
@[simp] theorem x_eVar (i : Nat) : eVar i ρ = ml (rd i ρ) := (rfl)
@[simp] theorem x_eC (d : D) : eC d ρ = mp d := (rfl)
@[simp] theorem x_eOp (g : D → D → Option D) (a b : SE) : eOp g a b ρ = mb (a ρ) fun x => mb (b ρ) fun y => ml (g x y) := (rfl)
@[simp] theorem x_eUn (g : D → Option D) (a : SE) : eUn g a ρ = mb (a ρ) fun x => ml (g x) := (rfl)
@[simp] theorem x_tV (a : SE) : tV a ρ = mb (a ρ) fun x => ml (asB x) := (rfl)
@[simp] theorem x_tAn (a b : ST) : tAn a b ρ = mb (a ρ) fun c => if c = true then b ρ else mp false := (rfl)
@[simp] theorem x_tOu (a b : ST) : tOu a b ρ = mb (a ρ) fun c => if c = true then mp true else b ρ := (rfl)
@[simp] theorem x_tNo (a : ST) : tNo a ρ = mb (a ρ) fun c => mp (!c) := (rfl)
@[simp] theorem x_eB (t : ST) : eB t ρ = mb (t ρ) fun c => mp (.bool c) := (rfl)
@[simp] theorem x_eIf (t : ST) (a b : SE) : eIf t a b ρ = mb (t ρ) fun c => if c = true then a ρ else b ρ := (rfl)
@[simp] theorem x_aNil : aNil ρ = mp [] := (rfl)
@[simp] theorem x_aCons (a : SE) (b : SA) : aCons a b ρ = mb (a ρ) fun x => mb (b ρ) fun xs => mp (x :: xs) := (rfl)
@[simp] theorem x_eTup (a : SA) : eTup a ρ = mb (a ρ) fun xs => if xs.length ≤ 1000 then mp (.tuple xs) else fun _ => none := (rfl)
@[simp] theorem x_eLst (a : SA) : eLst a ρ = mb (a ρ) fun xs => if xs.length ≤ 1000 then mp (.list xs) else fun _ => none := (rfl)
@[simp] theorem x_eCall (F : List D → Option D) (a : SA) : eCall F a ρ = mb (a ρ) fun xs => ml (F xs) := (rfl)
@[simp] theorem x_eCallM (F : List D → M D) (a : SA) : eCallM F a ρ = mb (a ρ) fun xs => F xs := (rfl)
@[simp] theorem x_sRet (f : SE) : sRet f ρ = mb (f ρ) fun d => mp (.ret d) := (rfl)
@[simp] theorem x_sSet (g : SG) (f : SE) : sSet g f ρ = mb (f ρ) fun d => mb (ml (g d ρ)) fun ρ' => mp (.nx ρ') := (rfl)
@[simp] theorem x_sIf (t : ST) (a b : SS) : sIf t a b ρ = mb (t ρ) fun c => if c = true then a ρ else b ρ := (rfl)
@[simp] theorem x_sNil : sNil ρ = mp (.nx ρ) := (rfl)
@[simp] theorem x_aPar2 (i j : Nat) (sa : SA) : aPar2 i j sa ρ = mb (sa ρ) fun ds => match ds with
  | [d, e] => mp (.nx ((ρ.set i (some d)).set j (some e)))
  | _ => fun _ => none := (rfl)
@[simp] theorem x_sFor (fi : SI) (t : SG) (b : SS) : sFor fi t b ρ = mb (fi ρ) fun ds => forL t b ds ρ := (rfl)
@[simp] theorem x_iSeq (f : SE) : iSeq f ρ = mb (f ρ) fun d => ml (items d) := (rfl)
@[simp] theorem x_iRg (g : List D → Option (List D)) (a : SA) : iRg g a ρ = mb (a ρ) fun ds => ml (g ds) := (rfl)
@[simp] theorem x_sApp (i : Nat) (f : SE) : sApp i f ρ = mb (f ρ) fun d => mb (ml (appAt i d ρ)) fun ρ' => mp (.nx ρ') := (rfl)
@[simp] theorem x_eComp (fi : SI) (t : SG) (tt : ST) (fe : SE) (vs : List Nat) : eComp fi t tt fe vs ρ = mb (fi ρ) fun ds => if ds.length ≤ big then mb (compL t tt fe (wipeD ρ vs) ds) fun ys => mp (.list ys) else fun _ => none := (rfl)
@[simp] theorem x_tYs : tYs ρ = mp true := (rfl)
@[simp] theorem x_gN (i : Nat) (d : D) : gN i d ρ = some (ρ.set i (some d)) := (rfl)
@[simp] theorem x_gsNil : gsNil [] ρ = some ρ := (rfl)
@[simp] theorem x_gsCons (t : SG) (u : SGs) (d : D) (r : List D) : gsCons t u (d :: r) ρ = (t d ρ).bind fun ρ1 => u r ρ1 := (rfl)
@[simp] theorem x_gT (n : Nat) (t : SGs) (ds : List D) : gT n t (.tuple ds) ρ = if ds.length = n then t ds ρ else none := (rfl)
@[simp] theorem x_eSl (te : SE) (tl th : SO) : eSl te tl th ρ = mb (te ρ) fun d => mb (tl ρ) fun lo => mb (th ρ) fun hi => match d with
  | .list xs => mp (.list (cutD xs lo hi))
  | .tuple xs => mp (.tuple (cutD xs lo hi))
  | _ => fun _ => none := (rfl)
@[simp] theorem x_oNo : oNo ρ = mp none := (rfl)
@[simp] theorem x_oSo (f : SE) : oSo f ρ = mb (f ρ) fun d => mb (ml (asI d)) fun i => mp (some i) := (rfl)
/-- statements in a row -/
@[simp] theorem x_sSeq (a b : SS) : sSeq a b ρ = mb (a ρ) fun r => match r with
  | .nx ρ' => b ρ'
  | .ct ρ' => mp (.ct ρ')
  | .ret d => mp (.ret d) := (rfl)
end
@[simp] theorem x_mba {α β γ : Type} (m : M α) (k : α → M β) (f : β → M γ) : mb (mb m k) f = mb m fun x => mb (k x) f := by
  funext h
  unfold mb
  cases m h with
  | none => rfl
  | some p => rfl
@[simp] theorem x_asB (b : Bool) : asB (.bool b) = some b := (rfl)
@[simp] theorem x_asI (b : Int) : asI (.int b) = some b := (rfl)
@[simp] theorem x_gAdd (i j : Int) : gAdd (.int i) (.int j) = some (.int (i + j)) := (rfl)
@[simp] theorem x_gSub (i j : Int) : gSub (.int i) (.int j) = some (.int (i - j)) := (rfl)
@[simp] theorem x_gNeg (i : Int) : gNeg (.int i) = some (.int (-i)) := (rfl)
@[simp] theorem x_gLt (i j : Int) : gLt (.int i) (.int j) = some (.bool (decide (i < j))) := (rfl)
@[simp] theorem x_gLe (i j : Int) : gLe (.int i) (.int j) = some (.bool (decide (i ≤ j))) := (rfl)
@[simp] theorem x_gGt (i j : Int) : gGt (.int i) (.int j) = some (.bool (decide (j < i))) := (rfl)
@[simp] theorem x_gGe (i j : Int) : gGe (.int i) (.int j) = some (.bool (decide (j ≤ i))) := (rfl)
@[simp] theorem x_gIxT (xs : List D) (i : Int) : gIx (.tuple xs) (.int i) = atI xs i := (rfl)
@[simp] theorem x_gIxL (xs : List D) (i : Int) : gIx (.list xs) (.int i) = atI xs i := (rfl)
@[simp] theorem x_fLenL (xs : List D) : fLen [.list xs] = some (.int xs.length) := (rfl)
@[simp] theorem x_fLenT (xs : List D) : fLen [.tuple xs] = some (.int xs.length) := (rfl)
@[simp] theorem x_fTupL (xs : List D) : fTup [.list xs] = some (.tuple xs) := (rfl)
@[simp] theorem x_fTupT (xs : List D) : fTup [.tuple xs] = some (.tuple xs) := (rfl)
@[simp] theorem x_fInt (i : Int) : fInt [.int i] = some (.int i) := (rfl)
@[simp] theorem x_fAbs (i : Int) : fAbs [.int i] = some (.int (if i < 0 then -i else i)) := (rfl)
@[simp] theorem x_itemsL (xs : List D) : items (.list xs) = some xs := (rfl)
@[simp] theorem x_itemsT (xs : List D) : items (.tuple xs) = some xs := (rfl)
@[simp] theorem x_gRevL (xs : List D) : gRev (.list xs) = some (.list xs.reverse) := (rfl)
@[simp] theorem x_gRevT (xs : List D) : gRev (.tuple xs) = some (.tuple xs.reverse) := (rfl)
@[simp] theorem x_gIsB (a b : Bool) : gIs (.bool a) (.bool b) = some (.bool (decide (a = b))) := (rfl)
@[simp] theorem x_gIsntB (a b : Bool) : gIsnt (.bool a) (.bool b) = some (.bool (!decide (a = b))) := (rfl)
@[simp] theorem x_gIsN (a : D) : gIs a .none = some (.bool (isNone a)) := (rfl)
@[simp] theorem x_gIsntN (a : D) : gIsnt a .none = some (.bool (!isNone a)) := (rfl)
/-- a small int -/
def Sm (i : Int) : Prop := -(2 ^ 60) < i ∧ i < 2 ^ 60
theorem x_mulr {i j : Int} (h : Sm j) : gMul (.int i) (.int j) = some (.int (i * j)) := gMul_r ⟨by unfold Sm at h; omega, by unfold Sm at h; omega⟩
theorem x_mull {i j : Int} (h : Sm i) : gMul (.int i) (.int j) = some (.int (i * j)) := gMul_l ⟨by unfold Sm at h; omega, by unfold Sm at h; omega⟩
/-- reading a slot -/
@[simp] theorem x_rd0 (d : Option D) (ρ : Lo) : rd 0 (d :: ρ) = d := by cases d <;> rfl
@[simp] theorem x_rdS (i : Nat) (d : Option D) (ρ : Lo) : rd (i + 1) (d :: ρ) = rd i ρ := by
  unfold rd
  rw [List.getElem?_cons_succ]
@[simp] theorem x_forN (t : SG) (b : SS) (ρ : Lo) : forL t b [] ρ = mp (.nx ρ) := (rfl)
/-- data that is flat enough -/
theorem okD_iff (d : D) : okD d = (d.canLay0 && decide (d.depth ≤ 60)) := (rfl)
@[simp] theorem ok_int (i : Int) : okD (.int i) = true := (rfl)
@[simp] theorem ok_bool (i : Bool) : okD (.bool i) = true := (rfl)
@[simp] theorem ok_none : okD .none = true := (rfl)
def okL (n : Nat) (ds : List D) : Bool := PyData.canLayAll0 ds && decide (PyData.depthAll ds ≤ n)
theorem ok_tup (ds : List D) : okD (.tuple ds) = okL 59 ds := by
  unfold okD okL
  simp only [PyData.canLay0, PyData.depth]
  congr 1
  exact decide_eq_decide.mpr (by omega)
theorem ok_lst (ds : List D) : okD (.list ds) = okL 59 ds := by
  unfold okD okL
  simp only [PyData.canLay0, PyData.depth]
  congr 1
  exact decide_eq_decide.mpr (by omega)
theorem okL_of {ds : List D} {n : Nat} (h : ∀ d ∈ ds, d.canLay0 = true ∧ d.depth ≤ n) : okL n ds = true := by
  unfold okL
  induction ds with
  | nil => simp [PyData.canLayAll0, PyData.depthAll]
  | cons d ds ih =>
    have h1 := h d List.mem_cons_self
    have h2 := ih fun x hx => h x (List.mem_cons_of_mem _ hx)
    simp only [Bool.and_eq_true, decide_eq_true_eq] at h2 ⊢
    simp only [PyData.canLayAll0, PyData.depthAll, h1.1, h2.1]
    exact ⟨rfl, by omega⟩
/-- ints in a row -/
theorem ok_tints (ns : List Int) : okD (.tuple (ns.map PyData.int)) = true := by
  rw [ok_tup]
  exact okL_of fun d hd => by
    obtain ⟨n, _, rfl⟩ := List.mem_map.mp hd
    exact ⟨rfl, by show 0 ≤ 59; omega⟩
theorem eqv_ints : ∀ ns ms : List Int, PyData.eqvAll (ns.map PyData.int) (ms.map PyData.int) = decide (ns = ms)
  | [], [] => by simp [PyData.eqvAll]
  | [], _ :: _ => by simp [PyData.eqvAll]
  | _ :: _, [] => by simp [PyData.eqvAll]
  | n :: ns, m :: ms => by
    simp only [List.map_cons, PyData.eqvAll, PyData.eqv, eqv_ints ns ms, List.cons.injEq, Bool.decide_and]
    congr 1
/-- a pair of ints, four ints -/
abbrev pg (x y : Int) : D := .tuple [.int x, .int y]
abbrev q4 (a b c d : Int) : D := .tuple [.int a, .int b, .int c, .int d]
@[simp] theorem ok_pg (x y : Int) : okD (pg x y) = true := ok_tints [x, y]
@[simp] theorem ok_q4 (a b c d : Int) : okD (q4 a b c d) = true := ok_tints [a, b, c, d]
@[simp] theorem xeq_i (i j : Int) : gEq (.int i) (.int j) = some (.bool (decide (i = j))) := (rfl)
@[simp] theorem xne_i (i j : Int) : gNe (.int i) (.int j) = some (.bool (!decide (i = j))) := (rfl)
theorem eqv_pg (x y x' y' : Int) : PyData.eqv (pg x y) (pg x' y') = decide (x = x' ∧ y = y') := by
  have := eqv_ints [x, y] [x', y']
  simpa [PyData.eqv] using this
theorem eqv_q4 (a b c d a' b' c' d' : Int) : PyData.eqv (q4 a b c d) (q4 a' b' c' d') = decide (a = a' ∧ b = b' ∧ c = c' ∧ d = d') := by
  have := eqv_ints [a, b, c, d] [a', b', c', d']
  simpa [PyData.eqv] using this
@[simp] theorem xeq_pg (x y x' y' : Int) : gEq (pg x y) (pg x' y') = some (.bool (decide (x = x' ∧ y = y'))) := by
  unfold gEq; rw [ok_pg, ok_pg, eqv_pg]; rfl
@[simp] theorem xne_pg (x y x' y' : Int) : gNe (pg x y) (pg x' y') = some (.bool (!decide (x = x' ∧ y = y'))) := by
  unfold gNe; rw [ok_pg, ok_pg, eqv_pg]; rfl
@[simp] theorem xeq_q4 (a b c d a' b' c' d' : Int) : gEq (q4 a b c d) (q4 a' b' c' d') = some (.bool (decide (a = a' ∧ b = b' ∧ c = c' ∧ d = d'))) := by
  unfold gEq; rw [ok_q4, ok_q4, eqv_q4]; rfl
/-- in a pair of ints -/
@[simp] theorem xin_pg (i x y : Int) : gIn (.int i) (pg x y) = some (.bool (decide (i = x ∨ i = y))) := by
  unfold gIn
  simp only [x_itemsT, ok_pg, ok_int, Bool.and_self, if_true, List.any_cons, List.any_nil, PyData.eqv, Bool.or_false]
  congr 2
  simp only [eq_comm (a := i), Bool.decide_or]
  rfl
end PL
namespace PL
open PySem PySem.Spec PyProof.Rows L2
section
variable {α : Type} (a b c d : α) (xs : List α)
@[simp] theorem at_0 : atI (a :: xs) 0 = some a := atI_nat (j := 0) rfl
@[simp] theorem at_1 : atI (a :: b :: xs) 1 = some b := atI_nat (j := 1) rfl
@[simp] theorem at_2 : atI (a :: b :: c :: xs) 2 = some c := atI_nat (j := 2) rfl
@[simp] theorem at_3 : atI (a :: b :: c :: d :: xs) 3 = some d := atI_nat (j := 3) rfl
end
theorem at_map {α β : Type} {f : α → β} {l : List α} {i : Nat} {x : α} (h : l[i]? = some x) : atI (l.map f) (i : Int) = some (f x) := atI_nat (by rw [List.getElem?_map, h]; rfl)
/-- a comprehension over a walked list whose turn is known -/
theorem compL_map {t : SG} {tt : ST} {fe : SE} {ρ : Lo} {α : Type} {enc : α → D} {g : α → D} {h : List Int} : ∀ {ds : List α},
    (∀ d ∈ ds, ∃ ρ1, t (enc d) ρ = some ρ1 ∧ tt ρ1 h = some (true, h) ∧ fe ρ1 h = some (g d, h)) → compL t tt fe ρ (ds.map enc) h = some (ds.map g, h)
  | [], _ => rfl
  | d :: ds, H => by
    obtain ⟨ρ1, e1, e2, e3⟩ := H d List.mem_cons_self
    have ih := compL_map (ds := ds) fun x hx => H x (List.mem_cons_of_mem _ hx)
    show mb (ml (t (enc d) ρ)) _ h = _
    rw [e1]
    show mb (tt ρ1) _ h = _
    rw [mb_eq e2]
    show mb (fe ρ1) _ h = _
    rw [mb_eq e3, mb_eq ih]
    rfl
theorem asInts_map (ns : List Int) : asInts (ns.map PyData.int) = some ns := by
  induction ns with
  | nil => rfl
  | cons n ns ih => show (asInts (ns.map PyData.int)).map (n :: ·) = _; rw [ih]; rfl
theorem asBls_map (ns : List Bool) : asBls (ns.map PyData.bool) = some ns := by
  induction ns with
  | nil => rfl
  | cons n ns ih => show (asBls (ns.map PyData.bool)).map (n :: ·) = _; rw [ih]; rfl
end PL
namespace PL
open PySem PySem.Spec PyProof.Rows L2
theorem kit_tt : kitB "tuple" "tuple" = some true := by decide +kernel
theorem kit_ii : kitB "int" "int" = some true := by decide +kernel
theorem kit_ib : kitB "int" "bool" = some false := by decide +kernel
theorem kit_bb : kitB "bool" "bool" = some true := by decide +kernel
theorem kit_bi : kitB "bool" "int" = some true := by decide +kernel
theorem kit_ti : kitB "tuple" "int" = some false := by decide +kernel
theorem kit_li : kitB "list" "int" = some false := by decide +kernel
theorem kit_it : kitB "int" "tuple" = some false := by decide +kernel
theorem kit_lt : kitB "list" "tuple" = some false := by decide +kernel
theorem kit_ll : kitB "list" "list" = some true := by decide +kernel
theorem kit_tl : kitB "tuple" "list" = some false := by decide +kernel
theorem kit_tb : kitB "tuple" "bool" = some false := by decide +kernel
theorem kit_lb : kitB "list" "bool" = some false := by decide +kernel
theorem kit_ss : kitB "str" "str" = some true := by decide +kernel
@[simp] theorem isi_tt (xs : List D) : gIsi "tuple" (.tuple xs) = some (.bool true) := by show (kitB "tuple" "tuple").map _ = _; rw [kit_tt]; rfl
@[simp] theorem isi_ii (i : Int) : gIsi "int" (.int i) = some (.bool true) := by show (kitB "int" "int").map _ = _; rw [kit_ii]; rfl
@[simp] theorem isi_ib (i : Int) : gIsi "bool" (.int i) = some (.bool false) := by show (kitB "int" "bool").map _ = _; rw [kit_ib]; rfl
@[simp] theorem isi_ss (i : Str) : gIsi "str" (.str i) = some (.bool true) := by show (kitB "str" "str").map _ = _; rw [kit_ss]; rfl
@[simp] theorem isi_it (i : Int) : gIsi "tuple" (.int i) = some (.bool false) := by show (kitB "int" "tuple").map _ = _; rw [kit_it]; rfl
end PL

/-! sorted(set(..)) of pegs -/
namespace PL
open PySem PySem.Spec PyProof.Rows L2

abbrev Peg := Int × Int
def encP (p : Peg) : D := .tuple [.int p.1, .int p.2]
def pLt (p q : Peg) : Bool := decide (p.1 < q.1) || (decide (p.1 = q.1) && decide (p.2 < q.2))
def pIns (p : Peg) : List Peg → List Peg
  | [] => [p]
  | q :: l => if pLt p q = true then p :: q :: l else if pLt q p = true then q :: pIns p l else q :: l
def psort : List Peg → List Peg
  | [] => []
  | p :: l => pIns p (psort l)
theorem pLt_iff {p q : Peg} : pLt p q = true ↔ p.1 < q.1 ∨ (p.1 = q.1 ∧ p.2 < q.2) := by
  unfold pLt
  simp [Bool.or_eq_true, Bool.and_eq_true]
theorem pLt_irr (p : Peg) : pLt p p = false := by
  cases h : pLt p p with
  | false => rfl
  | true => have := pLt_iff.mp h; omega
theorem pLt_trans {p q r : Peg} (h : pLt p q = true) (h' : pLt q r = true) : pLt p r = true := by
  rw [pLt_iff] at h h' ⊢
  omega
theorem pLt_tri {p q : Peg} (h : ¬ pLt p q = true) (h' : ¬ pLt q p = true) : p = q := by
  rw [pLt_iff] at h h'
  have h1 : p.1 = q.1 := by omega
  have h2 : p.2 = q.2 := by omega
  exact Prod.ext h1 h2
theorem mem_pIns {p q : Peg} : ∀ {l : List Peg}, q ∈ pIns p l ↔ q = p ∨ q ∈ l
  | [] => by simp [pIns]
  | r :: l => by
    unfold pIns
    by_cases h1 : pLt p r = true
    · rw [if_pos h1]; simp
    · rw [if_neg h1]
      by_cases h2 : pLt r p = true
      · rw [if_pos h2, List.mem_cons, mem_pIns (l := l), List.mem_cons]
        exact ⟨fun z => z.elim (fun e => .inr (.inl e)) fun z => z.elim .inl fun z => .inr (.inr z), fun z => z.elim (fun e => .inr (.inl e)) fun z => z.elim .inl fun z => .inr (.inr z)⟩
      · rw [if_neg h2]
        have e := pLt_tri h1 h2
        subst e
        simp
theorem mem_psort {q : Peg} : ∀ {l : List Peg}, q ∈ psort l ↔ q ∈ l
  | [] => by simp [psort]
  | p :: l => by
    show q ∈ pIns p (psort l) ↔ _
    rw [mem_pIns, mem_psort (l := l), List.mem_cons]
abbrev Asc (l : List Peg) : Prop := l.Pairwise fun p q => pLt p q = true
theorem pIns_asc {p : Peg} : ∀ {l : List Peg}, Asc l → Asc (pIns p l)
  | [], _ => List.pairwise_singleton _ _
  | r :: l, h => by
    obtain ⟨h1, h2⟩ := List.pairwise_cons.mp h
    unfold pIns
    by_cases c1 : pLt p r = true
    · rw [if_pos c1]
      refine List.pairwise_cons.mpr ⟨fun q hq => ?_, h⟩
      rcases List.mem_cons.mp hq with e | hq
      · rw [e]; exact c1
      · exact pLt_trans c1 (h1 q hq)
    · rw [if_neg c1]
      by_cases c2 : pLt r p = true
      · rw [if_pos c2]
        refine List.pairwise_cons.mpr ⟨fun q hq => ?_, pIns_asc h2⟩
        rcases mem_pIns.mp hq with e | hq
        · rw [e]; exact c2
        · exact h1 q hq
      · rw [if_neg c2]; exact h
theorem psort_asc : ∀ (l : List Peg), Asc (psort l)
  | [] => List.Pairwise.nil
  | _ :: l => pIns_asc (psort_asc l)
theorem Asc.nodup {l : List Peg} (h : Asc l) : l.Nodup := h.imp fun {p q} z e => by
  subst e
  rw [pLt_irr] at z
  cases z
/-- there is but one strictly ascending list of the same pegs -/
theorem asc_one {l l' : List Peg} (h : Asc l) (h' : Asc l') (m : ∀ p, p ∈ l ↔ p ∈ l') : l = l' := by
  refine List.Perm.eq_of_pairwise (le := fun p q => pLt p q = true) (fun a b _ _ x y => ?_) h h' ((List.perm_ext_iff_of_nodup h.nodup h'.nodup).mpr m)
  have := pLt_trans x y
  rw [pLt_irr] at this
  cases this
def asPegs : List D → Option (List Peg)
  | [] => some []
  | .tuple [.int x, .int y] :: r => (asPegs r).map ((x, y) :: ·)
  | _ => none
theorem asPegs_map : ∀ (l : List Peg), asPegs (l.map encP) = some l
  | [] => rfl
  | p :: l => by
    show (asPegs (l.map encP)).map ((p.1, p.2) :: ·) = _
    rw [asPegs_map l]
    rfl
def un (m : Addr × Peg) : Addr × List Int := (m.1, [m.2.1, m.2.2])
theorem DpAll.pegs {K : PySem.W.Frag} {F : Hp} : ∀ {ds : List D} {vs : List V} {ps : List Peg}, DpAll K F vs ds → asPegs ds = some ps →
    ∃ ms : List (Addr × Peg), vs = ms.map (fun m => V.ref m.1) ∧ ms.map (·.2) = ps ∧ ∀ m ∈ ms, SqT K F m.1 ([m.2.1, m.2.2].map V.int)
  | [], _, _, .nil, e => by cases e; exact ⟨[], rfl, rfl, fun m h => (nomatch h)⟩
  | d :: ds, _, ps, .cons a r, e => by
    unfold asPegs at e
    split at e
    · rename_i he; cases he
    · rename_i x y r' he
      cases he
      obtain ⟨qs, e1, rfl⟩ := Option.map_eq_some_iff.mp e
      obtain ⟨ms, h1, h2, h3⟩ := DpAll.pegs r e1
      cases a with
      | tup sq da =>
        have z : asInts [.int x, .int y] = some [x, y] := rfl
        have e0 := DpAll.ints da z
        subst e0
        refine ⟨(_, (x, y)) :: ms, by rw [h1]; rfl, by rw [← h2]; rfl, fun m hm => ?_⟩
        rcases List.mem_cons.mp hm with rfl | hm
        · exact sq
        · exact h3 m hm
    · cases e
section
variable {P : Program} {w : World} {A : Around} {E : Value → Shared → Prop} {s : Shared}
open PySem.W
def enc2 (b : Addr × Peg) : PyData := .tuple [.int b.2.1, .int b.2.2]
theorem reads2 {h : Heap} {b : Addr × Peg} (x : TS.TupInts h (.ref b.1) [b.2.1, b.2.2]) : Reads h (.ref b.1) (enc2 b) [] := by
  obtain ⟨t, items, e, ⟨o, ho, hc, n, hd⟩, hi⟩ := x
  cases e
  refine .tuple ho hc hd ?_
  show ReadsAll h items.toList [.int b.2.1, .int b.2.2] []
  generalize items.toList = us at hi
  cases hi with
  | cons i1 t1 r1 =>
    cases r1 with
    | cons i2 t2 r2 =>
      cases r2
      exact .cons (as := []) (bs := []) (.int _ _) (.cons (as := []) (bs := []) (.int _ _) .nil)
theorem le2_asc {l : List (Addr × Peg)} (hn : (l.map (·.2)).Nodup) (hp : l.Pairwise fun a b => (dataLe false enc2) a b = true) : Asc (l.map (·.2)) := by
  have e : dataLe false enc2 = fun p q => decide (p.2.1 < q.2.1 ∨ (p.2.1 = q.2.1 ∧ p.2.2 ≤ q.2.2)) := dataLe_ii (β := Addr × Peg) (fun b => b.2.1) (fun b => b.2.2)
  rw [e] at hp
  have hn' := List.pairwise_map.mp hn
  refine List.pairwise_map.mpr ((hp.and hn').imp fun {a b} ⟨h1, h2⟩ => ?_)
  have h3 := of_decide_eq_true h1
  rw [pLt_iff]
  rcases h3 with h3 | ⟨h3, h4⟩
  · exact .inl h3
  · refine .inr ⟨h3, ?_⟩
    rcases Int.lt_or_eq_of_le h4 with z | z
    · exact z
    · exact absurd (Prod.ext h3 z) h2
theorem each_self {l : List (Addr × Peg)} {R : Value → Addr × Peg → Prop} : (∀ b ∈ l, R (.ref b.1) b) → EachIs R (l.map fun b => Value.ref b.1) l := by
  induction l with
  | nil => exact fun _ => .nil
  | cons b l ih => exact fun h => .cons (h b List.mem_cons_self) (ih fun c hc => h c (List.mem_cons_of_mem _ hc))
theorem each_out {l : List (Addr × Peg)} {vs : List Value} (h : EachIs (fun v b => v = Value.ref b.1) vs l) : vs = l.map fun b => Value.ref b.1 := by
  induction h with
  | nil => rfl
  | cons h1 _ ih => rw [h1, ih]; rfl
/-- the members of a set of pegs, as a list, sorted -/
theorem sortedPegs {a : Addr} {M : List (Addr × Peg)} {tb : Array (Int × Value)} {ep : Nat} {t : SetTable} {Q : Value → Shared → Prop} (R : SetTR P w s.heap a (M.map un) tb ep t) (hh : A.handled = none) (hu : A.units + 64 < cLine)
    (hQ : ∀ s' p out c (M' : List (Addr × Peg)), (∀ b o, s.heap.get? b = some o → s'.heap.get? b = some o) → s'.gens = s.gens → s'.os = s.os → s.heap.objs.size ≤ p →
      s'.heap.get? p = some (seqObj "list" out c) → out.toList = M'.map (fun q => Value.ref q.1) → M'.Perm M → Asc (M'.map (·.2)) → Q (.ref p) s') :
    wpAny (model P w) A (call (.builtin "sorted") [.ref a]) Q E s := by
  have ⟨o, ho, hex, hd⟩ := R.ob
  have sz := R.size
  have fw := R.few
  rw [List.length_map] at sz fw
  have refs : (M.map un).map (fun q => Value.ref q.1) = M.map fun q => Value.ref q.1 := by rw [List.map_map]; rfl
  have nd2 : (M.map (·.2)).Nodup := by
    have z := R.nd
    rw [List.map_map] at z
    exact (List.pairwise_map.mpr ((List.pairwise_map.mp z).imp fun {p q} ne e => ne (by show [p.2.1, p.2.2] = [q.2.1, q.2.2]; rw [e])))
  refine Calls.call_function_entry kind_sorted plain_sorted entry_sorted (args_sorted1 _) ?_
  unfold Builtin.«sorted»
  refine wpAny_bind (m := checkCount "sorted" 1 1 _) (wpAny_pure ?_)
  refine wpAny_bind (collect_set (A := A.in1) hh ⟨o, ho, hex.1, hd⟩ R.fits (by unfold scanBound; omega) R.tab.ris R.led fun s1 vs k1 hz g1 o1 pm0 => ?_)
  have pm : vs.Perm (M.map fun q => Value.ref q.1) := by
    have z : tb.toList.map (·.2) = M.map fun q => Value.ref q.1 := by
      rw [← refs, R.rows]
      unfold L2.rowsOf
      rw [List.map_map]
      rfl
    rw [z] at pm0
    exact pm0
  have inj : ∀ q ∈ M, ∀ r ∈ M, q.1 = r.1 → q = r := fun q hq r hr e => by
    have a1 := R.tup _ (List.mem_map.mpr ⟨q, hq, rfl⟩)
    have a2 := R.tup _ (List.mem_map.mpr ⟨r, hr, rfl⟩)
    have e0 : (un q).1 = (un r).1 := e
    rw [e0] at a1
    have e2 : [q.2.1, q.2.2] = [r.2.1, r.2.2] := a1.inj a2
    injection e2 with e3 e4
    injection e4 with e4 _
    exact Prod.ext e (Prod.ext e3 e4)
  have choose : ∀ us : List Value, (∀ v ∈ us, v ∈ M.map fun q => Value.ref q.1) → ∃ N : List (Addr × Peg), us = N.map (fun q => Value.ref q.1) ∧ ∀ q ∈ N, q ∈ M := by
    intro us
    induction us with
    | nil => exact fun _ => ⟨[], rfl, fun q hq => nomatch hq⟩
    | cons v us ih =>
      intro hv
      obtain ⟨N, e1, h1⟩ := ih fun u hu' => hv u (List.mem_cons_of_mem _ hu')
      obtain ⟨q, hq, e⟩ := List.mem_map.mp (hv v List.mem_cons_self)
      refine ⟨q :: N, by rw [← e, e1]; rfl, fun r hr => ?_⟩
      rcases List.mem_cons.mp hr with rfl | hr
      · exact hq
      · exact h1 r hr
  obtain ⟨N, eN, sN⟩ := choose vs fun v hv => pm.mem_iff.mp hv
  have pN : N.Perm M := by
    have nM : M.Nodup := List.Pairwise.of_map (·.2) (fun _ _ hne e => hne (congrArg (·.2) e)) nd2
    have nR : (M.map fun q => Value.ref q.1).Nodup := List.pairwise_map.mpr (List.Pairwise.imp_of_mem (fun {q r} hq hr ne e => by
      injection e with e
      exact ne (inj q hq r hr e)) nM)
    rw [eN] at pm
    have nN : N.Nodup := List.Pairwise.of_map (fun q => Value.ref q.1) (fun _ _ hne e => hne (congrArg (fun q => Value.ref q.1) e)) (pm.nodup_iff.mpr nR)
    refine (List.perm_ext_iff_of_nodup nN nM).mpr fun q => ⟨sN q, fun hq => ?_⟩
    obtain ⟨r, hr, e⟩ := List.mem_map.mp (pm.mem_iff.mpr (List.mem_map.mpr ⟨q, hq, rfl⟩))
    injection e with e
    rw [← inj r (sN r hr) q hq e]
    exact hr
  refine wpAny_bind (wpAny_newList ?_ (by rw [pm.length_eq, List.length_map, sizeLine_eq]; omega))
  have hoL : (s1.heap.push (seqObj "list" vs.toArray 0)).get? s1.heap.objs.size = some (seqObj "list" vs.toArray 0) := Heap.get?_push_size _ rfl
  have tk : ∀ q ∈ N, TS.TupInts (s1.heap.push (seqObj "list" vs.toArray 0)) (.ref q.1) [q.2.1, q.2.2] := fun q hq => tupInts_of (P := P) (w := w) (isT_keep (R.tup (un q) (List.mem_map.mpr ⟨q, sN q hq, rfl⟩)) fun b u e => Heap.get?_push_of_some _ (k1 b u e))
  refine wpAny_bind (wpAny_holding (list_sort_data (s := { s1 with heap := s1.heap.push (seqObj "list" vs.toArray 0) }) (vs := vs) (bs := N) (enc := enc2) (R := fun v b => v = Value.ref b.1) hoL (by rw [eN]; exact each_self fun b _ => rfl)
    (by have tk' := tk; rw [eN] at tk' ⊢; exact each_self fun b hb => ⟨[], reads2 (tk' b hb), fun z => nomatch z⟩) (AllAlike.of fun b b' => alike_all2 b b') (Sortable.tuples fun b => ⟨_, _, rfl⟩) (by rw [pN.length_eq, sizeLine_eq]; omega)
    (fun b hb => by show A.in1.units + 1 + (enc2 b).depth < cLine; have : (enc2 b).depth ≤ 3 := by show PyData.depth (.tuple [.int b.2.1, .int b.2.2]) ≤ 3; simp [PyData.depth, PyData.depthAll]
                    have hu1 : A.in1.units ≤ A.units + 8 := by show _ + _ ≤ _; omega
                    omega) fun out hl ho2 => ?_))
  have eo := each_out ho2
  obtain ⟨c, hc⟩ := sortedHeap_at (vs := vs) (out := out.toArray) hoL
  have pM : (N.mergeSort (dataLe false enc2)).Perm M := (List.mergeSort_perm _ _).trans pN
  have tt : TotalLe (dataLe false enc2) := by
    have e : dataLe false enc2 = fun p q => decide (p.2.1 < q.2.1 ∨ (p.2.1 = q.2.1 ∧ p.2.2 ≤ q.2.2)) := dataLe_ii (β := Addr × Peg) (fun b => b.2.1) (fun b => b.2.2)
    rw [e]
    exact ⟨fun a b c h1 h2 => by simp only [decide_eq_true_eq] at *; omega, fun a b => by simp only [decide_eq_true_eq]; omega⟩
  have pw := List.pairwise_mergeSort (le := dataLe false enc2) tt.trans (fun a b => by rw [Bool.or_eq_true]; exact tt.total a b) N
  refine wpAny_pure ⟨_, rfl, hQ _ s1.heap.objs.size out.toArray c (N.mergeSort (dataLe false enc2)) (fun b u e => ?_) g1 o1 hz hc (by simpa using eo) pM (le2_asc ((pM.map _).nodup_iff.mpr nd2) pw)⟩
  have q := k1 b u e
  have hlt := Heap.lt_size q
  show (sortedHeap (s1.heap.push (seqObj "list" vs.toArray 0)) s1.heap.objs.size vs out.toArray).get? b = some u
  rw [sortedHeap_old (Nat.ne_of_lt hlt) (by rw [size_push']; exact Nat.lt_succ_of_lt hlt)]
  exact Heap.get?_push_of_some _ q
where
  alike_all2 (b b' : Addr × Peg) : alike (enc2 b) (enc2 b') = true := by
    show alike (.tuple [.int b.2.1, .int b.2.2]) (.tuple [.int b'.2.1, .int b'.2.2]) = true
    simp [alike, alikeAll]
end
section
variable {X : Cx}
/-- sorted(set), a set of pegs -/
def rSortPegs (K : PySem.W.Frag) (P : Program) (w : World) : List V → Hp → VK → Prop := fun vs H Q => ∃ (a : Addr) (M : List (Addr × Peg)), vs = [V.ref a] ∧ H a = some (SetTO P w a (M.map un)) ∧ (∀ m ∈ M, SqT K H m.1 ([m.2.1, m.2.2].map V.int)) ∧
  ∀ (M' : List (Addr × Peg)) (p : Addr), M'.Perm M → Asc (M'.map (·.2)) → H p = none → Q (.ref p) (upd H p (.lst (M'.map fun q => V.ref q.1)))
theorem cr_sortPegs (hc : X.calm = true) (hu : X.A.units + 64 < cLine) : CallR X (.builtin "sorted") (rSortPegs X.K X.prog X.w) := by
  intro pins s σ H vs us Q I r h
  obtain ⟨a, M, rfl, ha, hk, q⟩ := h
  have R0 : SetT0 X.prog X.w s.heap a (M.map un) := (I.hok a _ ha).1
  obtain ⟨tb, ep, t, R⟩ := R0.full fun p hp => by
    obtain ⟨m, hm, rfl⟩ := List.mem_map.mp hp
    exact I.isT (hk m hm)
  rw [Vals.ref1 r]
  refine sortedPegs R (I.ok.hd hc) hu fun s' p out c M' k g o hp hg hout pm pw => ?_
  have fw : M'.length < 64 := by
    rw [pm.length_eq]
    have := R.few
    rwa [List.length_map] at this
  have hn : H p = none := I.hok.fresh hp
  have hv : Vals (M'.map fun q => V.ref q.1) out.toList := by
    rw [hout]
    have z := vals_of_refs (M'.map un)
    rw [List.map_map, List.map_map] at z
    exact z
  have J : Inv X pins σ (upd H p (.lst (M'.map fun q => V.ref q.1))) { s with heap := s'.heap, gens := s'.gens, drawn := s'.drawn, toks := s'.toks } :=
    I.call (ch := []) (Un.laid k hp hn) (I.hok.laid k hp ⟨by rw [List.length_map, sizeLine_eq]; omega, out.toList, c, hv, hg⟩) (by rw [g]; exact I.bare) (fun _ z => nomatch z)
  have e : s' = { s with heap := s'.heap, gens := s'.gens, drawn := s'.drawn, toks := s'.toks } := by
    cases s'
    cases s
    cases o
    rfl
  rw [e]
  exact ⟨.ref p, _, J, rfl, q M' p pm pw hn⟩
end
def gSSet : D → Option D
  | .list ds => match asPegs ds with
    | some ps => if ps.length < 64 then some (.list ((psort ps).map encP)) else none
    | none => none
  | _ => none
theorem asPegs_len : ∀ {ds : List D} {ps : List Peg}, asPegs ds = some ps → ps.length = ds.length := by
  intro ds
  induction ds with
  | nil => intro ps e; cases e; rfl
  | cons d ds ih =>
    intro ps e
    unfold asPegs at e
    split at e
    · rename_i he; cases he
    · rename_i he
      cases he
      obtain ⟨qs, e1, rfl⟩ := Option.map_eq_some_iff.mp e
      simp [ih e1]
    · cases e
theorem DpAll.of_refs {K : PySem.W.Frag} {F : Hp} : ∀ (M : List (Addr × Peg)), (∀ m ∈ M, SqT K F m.1 ([m.2.1, m.2.2].map V.int)) → DpAll K F (M.map fun m => V.ref m.1) ((M.map (·.2)).map encP)
  | [], _ => .nil
  | m :: M, h => .cons (.tup (h m List.mem_cons_self) (.cons (.int _) (.cons (.int _) .nil))) (DpAll.of_refs M fun x hx => h x (List.mem_cons_of_mem _ hx))
section
variable {X : Cx} {Ω : Orc} {ow : List Nat} {a : Expr} {fa : SE} {pos : Pos}
theorem ev_sset {p p2 q : Pos} (hc : X.calm = true) (hu : X.A.units + 64 < cLine) (hm : X.mg "sorted" = none) (hm2 : X.mg "set" = none) (ha : EV X Ω ow a fa) (hg : Gl X "sorted" := by rfl) (hg2 : Gl X "set" := by rfl)
    (na : starEach [a] X.env = (false, eval a X.env) :: starEach [] X.env := by rfl)
    (nb : starEach [.Call (.Name "set" p2) [a] [] q] X.env = (false, eval (.Call (.Name "set" p2) [a] [] q) X.env) :: starEach [] X.env := by rfl) : EV X Ω ow (.Call (.Name "sorted" p) [.Call (.Name "set" p2) [a] [] q] [] pos) (eUn gSSet fa) := by
  intro F0 H0 F H σ ρ h d h' Q S e q
  obtain ⟨x, h1, e1, e⟩ := mb_some e
  obtain ⟨e2, rfl⟩ := ml_some e
  refine we_of (pe_callB (cr_sortPegs hc hu) hg hm hv_sorted (pa_cons (pe_callTy (cr_setOfT hc hu) hg2 hm2 hv_set (pa_cons we pa_nil na) (by decide) (by decide) na (by rfl)) pa_nil nb) (by decide) (by decide) nb (by rfl)) ?_
  refine ha _ _ _ _ _ _ _ _ _ _ S e1 fun v F1 H1 s1 o1 d1 => ?_
  cases x with
  | list ds =>
    unfold gSSet at e2
    simp only at e2
    split at e2
    · rename_i ps ep
      split at e2
      · rename_i hl
        cases e2
        cases d1 with
        | lst sq da =>
          obtain ⟨ms, rfl, h2, h3⟩ := DpAll.pegs da ep
          have hml : ms.length = ps.length := by rw [← h2, List.length_map]
          refine ⟨_, ms.map un, rfl, by rw [List.map_map]; exact s1.fh.seq sq, fun m hm' => ?_, by rw [List.length_map]; omega, fun b L nb1 sub all => ?_⟩
          · obtain ⟨m0, hm0, rfl⟩ := List.mem_map.mp hm'
            exact sqT_mono s1.fh (h3 m0 hm0)
          · -- the set's members are pegs
            obtain ⟨M, rfl, sM⟩ : ∃ M : List (Addr × Peg), L = M.map un ∧ ∀ m ∈ M, m ∈ ms := by
              clear all
              induction L with
              | nil => exact ⟨[], rfl, fun m z => nomatch z⟩
              | cons p L ih =>
                obtain ⟨M, e3, h4⟩ := ih fun r hr => sub r (List.mem_cons_of_mem _ hr)
                obtain ⟨m, hm4, e4⟩ := List.mem_map.mp (sub p List.mem_cons_self)
                refine ⟨m :: M, by rw [← e4, e3]; rfl, fun r hr => ?_⟩
                rcases List.mem_cons.mp hr with rfl | hr
                · exact hm4
                · exact h4 r hr
            have sS : Same H1 (upd H1 b (SetTO X.prog X.w b (M.map un))) := same_upd nb1
            refine ⟨b, M, rfl, upd_same, fun m hm' => sqT_mono (s1.fh.trans sS) (h3 m (sM m hm')), fun M' p pm pw np => ?_⟩
            have hbp : p ≠ b := by rintro rfl; rw [upd_same] at np; cases np
            have np1 : H1 p = none := by rw [upd_ne hbp] at np; exact np
            have nF : F1 p = none := s1.fh.free np1
            have eM : psort ps = M'.map (·.2) := by
              refine asc_one (psort_asc _) pw fun r => ?_
              rw [mem_psort, (pm.map (·.2)).mem_iff, ← h2]
              constructor
              · intro hr
                obtain ⟨m, hm5, rfl⟩ := List.mem_map.mp hr
                obtain ⟨y, hy, ey⟩ := List.mem_map.mp (all (un m) (List.mem_map.mpr ⟨m, hm5, rfl⟩))
                obtain ⟨m6, hm6, rfl⟩ := List.mem_map.mp hy
                refine List.mem_map.mpr ⟨m6, hm6, ?_⟩
                have ey' : [m6.2.1, m6.2.2] = [m.2.1, m.2.2] := ey
                injection ey' with a1 a2
                injection a2 with a2 _
                exact Prod.ext a1 a2
              · intro hr
                obtain ⟨m, hm5, rfl⟩ := List.mem_map.mp hr
                exact List.mem_map.mpr ⟨m, sM m hm5, rfl⟩
            have sq1 : Stq F1 H1 (upd F1 p (.lst (M'.map fun q => V.ref q.1))) (upd (upd H1 b (SetTO X.prog X.w b (M.map un))) p (.lst (M'.map fun q => V.ref q.1))) :=
              ⟨same_upd nF, fun c o z => by
                  by_cases hcp : c = p
                  · subst hcp; rw [upd_same] at z ⊢; exact z
                  · rw [upd_ne hcp] at z ⊢; exact sS c o (s1.fh c o z), sS.trans (same_upd np), fun c hc1 z => by
                  have hcp : c ≠ p := by rintro rfl; exact hc1 np1
                  rw [upd_ne hcp]; exact z⟩
            refine q _ _ _ (s1.trans sq1.stp) (sq1.orc o1) ?_
            rw [eM]
            exact .lst (.inl (.inl upd_same)) (DpAll.of_refs M' fun m hm' => sqT_mono sq1.sf (h3 m (sM m (pm.mem_iff.mp hm'))))
      · cases e2
    · cases e2
  | _ => cases e2
end
end PL

/-! more rules: reading owned lists, pop, extend, insert, pairs of new lists, two generators -/
namespace PL
open PySem PySem.Spec PyProof.Rows L2

/-! ### data without lists -/
mutual
def noL : D → Bool
  | .list _ => false
  | .dict _ => false
  | .tuple ds => noLs ds
  | _ => true
def noLs : List D → Bool
  | [] => true
  | d :: ds => noL d && noLs ds
end
section
variable {K : PySem.W.Frag} {F G : Hp}
theorem sqT_drop (hT : ∀ a o, F a = some o → (∀ xs, o ≠ .lst xs) → G a = some o) {a : Addr} {xs : List V} (h : SqT K F a xs) : SqT K G a xs := by
  rcases h with (h | ⟨o, h⟩) | h
  · exact .inl (.inl (hT _ _ h fun xs e => by cases e))
  · exact .inl (.inr ⟨o, hT _ _ h fun xs e => by cases e⟩)
  · exact .inr h
mutual
theorem Dp_drop (hT : ∀ a o, F a = some o → (∀ xs, o ≠ .lst xs) → G a = some o) : ∀ {d : D} {v : V}, Dp K F v d → noL d = true → Dp K G v d
  | .none, _, .non, _ => .non
  | .bool _, _, .bl b, _ => .bl b
  | .int _, _, .int i, _ => .int i
  | .str _, _, .str x, _ => .str x
  | .list _, _, .lst s a, h => by cases h
  | .tuple _, _, .tup s a, h => .tup (sqT_drop hT s) (DpAll_drop hT a h)
theorem DpAll_drop (hT : ∀ a o, F a = some o → (∀ xs, o ≠ .lst xs) → G a = some o) : ∀ {ds : List D} {vs : List V}, DpAll K F vs ds → noLs ds = true → DpAll K G vs ds
  | [], _, .nil, _ => .nil
  | _ :: _, _, .cons a b, h => by
    have h' := Bool.and_eq_true_iff.mp h
    exact .cons (Dp_drop hT a h'.1) (DpAll_drop hT b h'.2)
end
end
/-- all that the slots hold is seen; and it may be forgotten again, by what is without lists -/
theorem SR.peek {K : PySem.W.Frag} {Ω : Orc} {ow : List Nat} {F0 H0 F H : Hp} {σ : L2.St} {ρ : Lo} {h : List Int} (S : SR K Ω ow F0 H0 F H σ ρ h) :
    ∃ F', SR K Ω [] F0 H0 F' H σ ρ h ∧ ∀ F2 H2, Stp Ω F' H F2 H2 → ∃ G, Stp Ω F H G H2 ∧ (∀ a o, F2 a = some o → (∀ xs, o ≠ .lst xs) → G a = some o) ∧ Same G F2 := by
  classical
  obtain ⟨F', hF', st, sf, S'⟩ : ∃ F', (∀ p, (¬ (∃ i d, i ∈ ow ∧ ρ[i]? = some (some d) ∧ σ[i]? = some (some (.ref p))) ∧ F' p = F p) ∨ ((∃ i d, i ∈ ow ∧ ρ[i]? = some (some d) ∧ σ[i]? = some (some (.ref p))) ∧ F' p = H p)) ∧ Stp Ω F0 H0 F' H ∧ Same F F' ∧ SR K Ω [] F0 H0 F' H σ ρ h := by
    have own' : ∀ {p : Addr}, (∃ i d, i ∈ ow ∧ ρ[i]? = some (some d) ∧ σ[i]? = some (some (.ref p))) → ∃ d, OwnAt K Ω H0 F H p d := fun {p} ⟨i, d, h1, h3, h4⟩ => by
      obtain ⟨p', e, o⟩ := S.own i d h1 h3
      rw [h4] at e
      cases e
      exact ⟨d, o⟩
    refine ⟨fun p => if (∃ i d, i ∈ ow ∧ ρ[i]? = some (some d) ∧ σ[i]? = some (some (.ref p))) then H p else F p, fun p => ?_, ?_⟩
    · by_cases q : ∃ i d, i ∈ ow ∧ ρ[i]? = some (some d) ∧ σ[i]? = some (some (.ref p))
      · exact .inr ⟨q, if_pos q⟩
      · exact .inl ⟨q, if_neg q⟩
    generalize hF : (fun p => if (∃ i d, i ∈ ow ∧ ρ[i]? = some (some d) ∧ σ[i]? = some (some (.ref p))) then H p else F p) = F'
    have at1 : ∀ {p : Addr}, (∃ i d, i ∈ ow ∧ ρ[i]? = some (some d) ∧ σ[i]? = some (some (.ref p))) → F' p = H p := fun {p} q => by rw [← hF]; exact if_pos q
    have at2 : ∀ {p : Addr}, ¬ (∃ i d, i ∈ ow ∧ ρ[i]? = some (some d) ∧ σ[i]? = some (some (.ref p))) → F' p = F p := fun {p} q => by rw [← hF]; exact if_neg q
    have sf : Same F F' := fun p o e => by
      by_cases q : ∃ i d, i ∈ ow ∧ ρ[i]? = some (some d) ∧ σ[i]? = some (some (.ref p))
      · rw [at1 q]; exact S.fh p o e
      · rw [at2 q]; exact e
    have st : Stp Ω F0 H0 F' H := ⟨S.st.sf.trans sf, fun p o e => by
        by_cases q : ∃ i d, i ∈ ow ∧ ρ[i]? = some (some d) ∧ σ[i]? = some (some (.ref p))
        · rw [at1 q] at e; exact e
        · rw [at2 q] at e; exact S.fh p o e, S.st.kp, fun p hp n => by
        by_cases q : ∃ i d, i ∈ ow ∧ ρ[i]? = some (some d) ∧ σ[i]? = some (some (.ref p))
        · obtain ⟨d, _, _, _, _, _, _, n0, _⟩ := own' q
          exact absurd n0 hp
        · rw [at2 q]; exact S.st.ap p hp n, S.st.al⟩
    refine ⟨st, sf, ⟨st, S.len, fun i d _ e => ?_, fun i d hi => (nomatch hi), fun i j p d e hi => (nomatch hi), S.orc, fun p hp => ?_, S.pool⟩⟩
    · by_cases hw : i ∈ ow
      · obtain ⟨p, e1, xs, ds, rfl, e2, a, n, n0, oc⟩ := S.own i d hw e
        refine ⟨_, e1, .lst (.inl (.inl ?_)) (DpAll_mono sf a)⟩
        rw [at1 ⟨i, _, hw, e, e1⟩]
        exact e2
      · obtain ⟨v, e1, a⟩ := S.val i d hw e
        exact ⟨v, e1, Dp_mono sf a⟩
    · rw [at2]
      · exact S.ocf p hp
      · intro q
        obtain ⟨d, _, _, _, _, _, _, _, oc⟩ := own' q
        exact oc hp
  refine ⟨F', S', fun F2 H2 s2 => ⟨fun p => if (∃ i d, i ∈ ow ∧ ρ[i]? = some (some d) ∧ σ[i]? = some (some (.ref p))) then none else F2 p, ?_, fun a o e hn => ?_, fun p o e => by
    have e' : (if (∃ i d, i ∈ ow ∧ ρ[i]? = some (some d) ∧ σ[i]? = some (some (.ref p))) then none else F2 p) = some o := e
    split at e'
    · cases e'
    · exact e'⟩⟩
  · have owned : ∀ {p : Addr}, (∃ i d, i ∈ ow ∧ ρ[i]? = some (some d) ∧ σ[i]? = some (some (.ref p))) → F p = none ∧ ¬ Ω.OC p := fun {p} ⟨i, d, h1, h3, h4⟩ => by
      obtain ⟨p', e, _, _, _, _, _, n, _, oc⟩ := S.own i d h1 h3
      rw [h4] at e
      cases e
      exact ⟨n, oc⟩
    refine ⟨fun p o e => ?_, fun p o e => ?_, s2.kp, fun p hp n => ?_, s2.al⟩
    · have q : ¬ ∃ i d, i ∈ ow ∧ ρ[i]? = some (some d) ∧ σ[i]? = some (some (.ref p)) := fun q => by rw [(owned q).1] at e; cases e
      show (if _ then none else F2 p) = _
      rw [if_neg q]
      exact s2.sf p o (sf p o e)
    · have e' : (if (∃ i d, i ∈ ow ∧ ρ[i]? = some (some d) ∧ σ[i]? = some (some (.ref p))) then none else F2 p) = some o := e
      by_cases q : ∃ i d, i ∈ ow ∧ ρ[i]? = some (some d) ∧ σ[i]? = some (some (.ref p))
      · rw [if_pos q] at e'; cases e'
      · rw [if_neg q] at e'; exact s2.fh p o e'
    · show (if _ then none else F2 p) = none
      by_cases q : ∃ i d, i ∈ ow ∧ ρ[i]? = some (some d) ∧ σ[i]? = some (some (.ref p))
      · rw [if_pos q]
      · rw [if_neg q]
        refine s2.ap p hp ?_
        rcases hF' p with ⟨_, z⟩ | ⟨z, _⟩
        · rw [z]; exact n
        · exact absurd z q
  · show (if _ then none else F2 a) = _
    rw [if_neg]
    · exact e
    · rintro ⟨i, d, h1, h3, h4⟩
      obtain ⟨p', e', xs, ds, rfl, e2, _, _, _, _⟩ := S.own i d h1 h3
      rw [h4] at e'
      cases e'
      have : F2 a = some (.lst xs) := by
        refine s2.sf a _ ?_
        rcases hF' a with ⟨z, _⟩ | ⟨_, z⟩
        · exact absurd ⟨i, _, h1, h3, h4⟩ z
        · rw [z]; exact e2
      rw [this] at e
      cases e
      exact hn xs rfl
def eNL (f : SE) : SE := fun ρ => mb (f ρ) fun d => if noL d = true then mp d else fun _ => none
def eNLs (f : SE) : SE := fun ρ => mb (f ρ) fun d => match d with
  | .list ds => if noLs ds = true then mp (.list ds) else fun _ => none
  | _ => fun _ => none
section
variable {X : Cx} {Ω : Orc} {ow oc : List Nat} {pos : Pos} {a b : Expr} {fa fb : SE}
/-- an expression may look at all that the slots hold, if what it gives has no lists -/
theorem ev_all (h : EV X Ω [] a fa) : EV X Ω ow a (eNL fa) := by
  intro F0 H0 F H σ ρ hh d h' Q S e q
  obtain ⟨x, h1, e1, e⟩ := mb_some e
  split at e
  · rename_i hn
    obtain ⟨rfl, rfl⟩ := mp_some e
    obtain ⟨F', S', back⟩ := S.peek
    refine h _ _ _ _ _ _ _ _ _ _ S' e1 fun v F2 H2 s2 o2 d2 => ?_
    obtain ⟨G, sG, hT, sg⟩ := back F2 H2 s2
    exact q v G H2 sG o2 (Dp_drop hT d2 hn)
  · cases e
theorem eo_all (h : EO X Ω [] a fa) : EO X Ω ow a (eNLs fa) := by
  intro F0 H0 F H σ ρ hh d h' Q S e q
  obtain ⟨x, h1, e1, e⟩ := mb_some e
  cases x with
  | list ds =>
    have e : (if noLs ds = true then mp (PyData.list ds) else fun _ => none) h1 = some (d, h') := e
    split at e
    · rename_i hn
      obtain ⟨rfl, rfl⟩ := mp_some e
      obtain ⟨F', S', back⟩ := S.peek
      refine h _ _ _ _ _ _ _ _ _ _ S' e1 fun p F2 H2 s2 o2 np d2 => ?_
      obtain ⟨G, sG, hT, sg⟩ := back F2 H2 s2
      obtain ⟨xs, ds', ed, eH, da, n, n0, oc'⟩ := d2
      cases ed
      refine q p G H2 sG o2 np ⟨xs, ds, rfl, eH, DpAll_drop hT da hn, ?_, n0, oc'⟩
      cases z : G p with
      | none => rfl
      | some o =>
        have := sg p o z
        rw [n] at this
        cases this
    · cases e
  | _ => cases e
theorem DpAll.dropLast {K : PySem.W.Frag} {H : Hp} {ds : List D} {vs : List V} (a : DpAll K H vs ds) : DpAll K H vs.dropLast ds.dropLast := by
  rw [List.dropLast_eq_take, List.dropLast_eq_take, DpAll.length a]
  exact DpAll.take _ a
theorem DpAll.get3 {K : PySem.W.Frag} {H : Hp} : ∀ {ds : List D} {vs : List V}, DpAll K H vs ds → ds ≠ [] → ∃ y, vs[vs.length - 1]? = some y
  | [], _, _, h => absurd rfl h
  | d :: ds, v :: vs, _, _ => ⟨(v :: vs)[(v :: vs).length - 1]'(by rw [List.length_cons]; omega), List.getElem?_eq_getElem _⟩
/-- found.pop() -/
def sPop (i : Nat) : SS := fun ρ => mb (ml (popAt i ρ)) fun ρ' => mp (.nx ρ')
theorem es_pop (i : Nat) {x : Str} {px pa pc : Pos} (hw : i ∈ ow := by decide) (hN : X.N[i]? = some x := by rfl) (hv : Vis X.env.scope x := by first | exact Or.inl rfl | exact Or.inr (Or.inl rfl) | exact Or.inr (Or.inr rfl))
    (r1 : PE X (.Name x px) (tVar i) → PS X (.Expr (.Call (.Attribute (.Name x px) "pop" pa) [] [] pc) pos) (tDrop (tBM0 X.K "list" rPop (tVar i))) := by
      intro h1; exact ps_expr (pe_bm0 PySem.F.plainAttrs_list PySem.F.slot_list_pop PySem.F.type_list_pop mt_pop h1))
    (hd : (x == ("__debug__" : Str)) = false := by decide) (hcd : (x == ("__classdict__" : Str)) = false := by decide) :
    ES X Ω oc ow (.Expr (.Call (.Attribute (.Name x px) "pop" pa) [] [] pc) pos) ow (sPop i) := by
  intro F0 H0 F H σ ρ h r h' Dn S e q
  obtain ⟨ρ', h2, z2, e⟩ := mb_some e
  obtain ⟨rfl, rfl⟩ := mp_some e
  obtain ⟨e2, y2⟩ := ml_some z2
  subst y2
  refine ws_of (r1 (pe_var hN hv hd hcd)) ?_
  unfold popAt at e2
  split at e2
  · rename_i ds hrd
    split at e2
    · cases e2
    · rename_i hne
      cases e2
      obtain ⟨p, ep, xs, ds', ed, eH, da, n, n0, oc'⟩ := S.own i _ hw (rd_some hrd)
      cases ed
      obtain ⟨y, hy⟩ := DpAll.get3 da hne
      exact ⟨_, ep, .inl ⟨rfl, _, .inl (.inl eH)⟩, p, xs, y, rfl, rfl, eH, hy, q _ _ _ (S.chg hw (rd_some hrd) ep (DpAll.dropLast da))⟩
  · cases e2
/-- found.extend(xs), xs a new list -/
def extAt (i : Nat) (d : D) (ρ : Lo) : Option Lo := match rd i ρ, d with
  | some (.list ds), .list es => if ds.length + es.length ≤ big then some (ρ.set i (some (.list (ds ++ es)))) else none
  | _, _ => none
def sExt (i : Nat) (f : SE) : SS := fun ρ => mb (f ρ) fun d => mb (ml (extAt i d ρ)) fun ρ' => mp (.nx ρ')
theorem es_ext (i : Nat) {x : Str} {px pa pc : Pos} (ha : EO X Ω ow a fa) (hw : i ∈ ow := by decide) (hN : X.N[i]? = some x := by rfl) (hv : Vis X.env.scope x := by first | exact Or.inl rfl | exact Or.inr (Or.inl rfl) | exact Or.inr (Or.inr rfl))
    (r1 : PE X (.Name x px) (tVar i) → PA X [a] (tCons (WE X a) tNil) → PS X (.Expr (.Call (.Attribute (.Name x px) "extend" pa) [a] [] pc) pos) (tDrop (tBM X.K "list" rExtend (tVar i) (tCons (WE X a) tNil))) := by
      intro h1 h2; exact ps_expr (pe_bm PySem.F.plainAttrs_list PySem.F.slot_list_extend PySem.F.type_list_extend mt_extend h1 h2))
    (r2 : PA X [a] (tCons (WE X a) tNil) := by exact pa_cons we pa_nil)
    (hd : (x == ("__debug__" : Str)) = false := by decide) (hcd : (x == ("__classdict__" : Str)) = false := by decide) :
    ES X Ω oc ow (.Expr (.Call (.Attribute (.Name x px) "extend" pa) [a] [] pc) pos) ow (sExt i fa) := by
  intro F0 H0 F H σ ρ h r h' Dn S e q
  obtain ⟨d, h1, e1, e⟩ := mb_some e
  obtain ⟨ρ', h2, z2, e⟩ := mb_some e
  obtain ⟨rfl, rfl⟩ := mp_some e
  obtain ⟨e2, y2⟩ := ml_some z2
  subst y2
  refine ws_of (r1 (pe_var hN hv hd hcd) r2) ?_
  unfold extAt at e2
  split at e2
  · rename_i ds es hrd
    split at e2
    · rename_i hb
      cases e2
      obtain ⟨p, ep, xs, ds', ed, eH, da, n, n0, oc'⟩ := S.own i _ hw (rd_some hrd)
      cases ed
      refine ⟨_, ep, .inl ⟨rfl, _, .inl (.inl eH)⟩, ha _ _ _ _ _ _ _ _ _ _ S e1 fun pn F1 H1 s1 o1 npn d1 => ?_⟩
      obtain ⟨ys, es', ee, eY, db, _, _, _⟩ := d1
      cases ee
      have S1 := S.next s1 o1
      have eH1 := s1.kp p _ eH oc'
      refine ⟨p, pn, xs, ys, rfl, rfl, eH1, eY, Nat.le_of_lt (big_line (by rw [DpAll.length da, DpAll.length db]; exact hb)), ?_⟩
      exact q _ _ _ (S1.chg hw (rd_some hrd) ep (DpAll.append (DpAll_mono s1.sf da) db))
    · cases e2
  · cases e2
/-- found.insert(k, x) -/
def insAt (i : Nat) (ds2 : List D) (ρ : Lo) : Option Lo := match rd i ρ, ds2 with
  | some (.list ds), [.int k, d] => if ds.length ≤ big ∧ 0 ≤ k ∧ k < 2 ^ 62 then some (ρ.set i (some (.list (ds.take k.toNat ++ [d] ++ ds.drop k.toNat)))) else none
  | _, _ => none
def sIns (i : Nat) (f : SA) : SS := fun ρ => mb (f ρ) fun d => mb (ml (insAt i d ρ)) fun ρ' => mp (.nx ρ')
def rIns0 : V → List V → Hp → VK → Prop := fun x vs H Q => ∃ (l : Addr) (xs : List V) (k : Int) (y : V), x = .ref l ∧ vs = [.int k, y] ∧ H l = some (.lst xs) ∧ xs.length < sizeLine ∧ 0 ≤ k ∧ k < 2 ^ 63 ∧ Q .non (upd H l (.lst (xs.take k.toNat ++ [y] ++ xs.drop k.toNat)))
theorem mt_ins0 : MtR X "list.insert" rIns0 := mt_insert
theorem es_ins (i : Nat) {x : Str} {px pa pc : Pos} {sa : SA} (ha : EA X Ω ow [a, b] sa) (hw : i ∈ ow := by decide) (hN : X.N[i]? = some x := by rfl) (hv : Vis X.env.scope x := by first | exact Or.inl rfl | exact Or.inr (Or.inl rfl) | exact Or.inr (Or.inr rfl))
    (r1 : PE X (.Name x px) (tVar i) → PA X [a, b] (WA X [a, b]) → PS X (.Expr (.Call (.Attribute (.Name x px) "insert" pa) [a, b] [] pc) pos) (tDrop (tBM X.K "list" rIns0 (tVar i) (WA X [a, b]))) := by
      intro h1 h2; exact ps_expr (pe_bm PySem.F.plainAttrs_list PySem.F.slot_list_insert PySem.F.type_list_insert mt_ins0 h1 h2))
    (hd : (x == ("__debug__" : Str)) = false := by decide) (hcd : (x == ("__classdict__" : Str)) = false := by decide) :
    ES X Ω oc ow (.Expr (.Call (.Attribute (.Name x px) "insert" pa) [a, b] [] pc) pos) ow (sIns i sa) := by
  intro F0 H0 F H σ ρ h r h' Dn S e q
  obtain ⟨d, h1, e1, e⟩ := mb_some e
  obtain ⟨ρ', h2, z2, e⟩ := mb_some e
  obtain ⟨rfl, rfl⟩ := mp_some e
  obtain ⟨e2, y2⟩ := ml_some z2
  subst y2
  refine ws_of (r1 (pe_var hN hv hd hcd) wa) ?_
  unfold insAt at e2
  split at e2
  · rename_i ds k y hrd
    split at e2
    · rename_i hb
      cases e2
      obtain ⟨p, ep, xs, ds', ed, eH, da, n, n0, oc'⟩ := S.own i _ hw (rd_some hrd)
      cases ed
      refine ⟨_, ep, .inl ⟨rfl, _, .inl (.inl eH)⟩, ha _ _ _ _ _ _ _ _ _ _ S e1 fun vs F1 H1 s1 o1 d1 => ?_⟩
      cases d1 with
      | cons a1 ar =>
        cases a1
        cases ar with
        | cons a2 ar =>
          cases ar
          have S1 := S.next s1 o1
          have eH1 := s1.kp p _ eH oc'
          refine ⟨p, xs, k, _, rfl, rfl, eH1, big_line (by rw [DpAll.length da]; exact hb.1), hb.2.1, by omega, ?_⟩
          have da1 := DpAll_mono s1.sf da
          exact q _ _ _ (S1.chg hw (rd_some hrd) ep (DpAll.append (DpAll.append (DpAll.take _ da1) (.cons a2 .nil)) (DpAll.drop _ da1)))
    · cases e2
  · cases e2
/-- a, b = [..], [..] -/
theorem es_par2O (i j : Nat) {x y : Str} {px py pt : Pos} {kt k2 : Nat} {pt2 : Pos} (hc : X.calm = true) (hN : X.N.Nodup) (hso : Ω.slot ≠ some i) (hsp : Ω.slot ≠ some j) (ha : EO X Ω ow a fa) (hb : EO X Ω ow b fb)
    (hi : X.N[i]? = some x := by rfl) (hj : X.N[j]? = some y := by rfl) (hij : i ≠ j := by decide) (hoi : i ∉ ow := by decide) (hoj : j ∉ ow := by decide)
    (hx : X.env.scope.names.lookup x = some .local := by rfl) (hy : X.env.scope.names.lookup y = some .local := by rfl)
    (hw : swappedStores [.Tuple [.Name x px, .Name y py] kt pt] (.Tuple [a, b] k2 pt2) X.env = pure (some [x, y]) := by rfl)
    (hs : swapsWithSole [.Tuple [.Name x px, .Name y py] kt pt] (.Tuple [a, b] k2 pt2) pos.line X.env = pure false := by rfl)
    (hp : PA X [a, b] (tCons (WE X a) (tCons (WE X b) tNil)) := by exact pa_cons we (pa_cons we pa_nil)) :
    ES X Ω oc ow (.Assign [.Tuple [.Name x px, .Name y py] kt pt] (.Tuple [a, b] k2 pt2) pos) (j :: i :: ow) (aPar2 i j (aCons fa (aCons fb aNil))) := by
  intro F0 H0 F H σ ρ h r h' Dn S e q
  obtain ⟨ds, h2, e1, e⟩ := mb_some e
  obtain ⟨d1, h3, e3, e4⟩ := mb_some e1
  obtain ⟨ds', h4, e5, e6⟩ := mb_some e4
  obtain ⟨rfl, rfl⟩ := mp_some e6
  obtain ⟨d2, h5, e7, e8⟩ := mb_some e5
  obtain ⟨ds3, h6, e9, e10⟩ := mb_some e8
  obtain ⟨rfl, rfl⟩ := mp_some e10
  obtain ⟨rfl, rfl⟩ := mp_some e9
  obtain ⟨rfl, rfl⟩ := mp_some e
  refine ws_of (ps_par hc hN hi hj hij hx hy hp hw hs) (ha _ _ _ _ _ _ _ _ _ _ S e3 fun p1 F1 H1 s1 o1 np1 a1 => ?_)
  have S1 := S.next s1 o1
  refine hb _ _ _ _ _ _ _ _ _ _ S1 e7 fun p2 F2 H2 s2 o2 np2 a2 => ?_
  have T1 : SR X.K Ω (i :: ow) F0 H0 F1 H1 (σ.set i (some (.ref p1))) (ρ.set i (some d1)) h3 := S1.setO S np1 hoi hso a1
  have T2 := T1.next s2 o2
  exact ⟨_, _, rfl, q _ _ _ (T2.setO T1 np2 (by simp only [List.mem_cons, not_or]; exact ⟨fun z => hij z.symm, hoj⟩) hsp a2)⟩
/-- a, b, c = x, y, z -/
def aPar3 (i j k : Nat) (sa : SA) : SS := fun ρ => mb (sa ρ) fun ds => match ds with
  | [d, e, f] => mp (.nx (((ρ.set i (some d)).set j (some e)).set k (some f)))
  | _ => fun _ => none
theorem es_par3 (i j l : Nat) {x y z : Str} {c : Expr} {sa : SA} {px py pz pt : Pos} {kt k2 : Nat} {pt2 : Pos} (hc : X.calm = true) (hN : X.N.Nodup) (hso : Ω.slot ≠ some i) (hsp : Ω.slot ≠ some j) (hsq : Ω.slot ≠ some l) (ha : EA X Ω ow [a, b, c] sa)
    (hi : X.N[i]? = some x := by rfl) (hj : X.N[j]? = some y := by rfl) (hl : X.N[l]? = some z := by rfl) (hij : i ≠ j := by decide) (hil : i ≠ l := by decide) (hjl : j ≠ l := by decide) (hoi : i ∉ ow := by decide) (hoj : j ∉ ow := by decide) (hol : l ∉ ow := by decide)
    (hx : X.env.scope.names.lookup x = some .local := by rfl) (hy : X.env.scope.names.lookup y = some .local := by rfl) (hz : X.env.scope.names.lookup z = some .local := by rfl)
    (hw : swappedStores [.Tuple [.Name x px, .Name y py, .Name z pz] kt pt] (.Tuple [a, b, c] k2 pt2) X.env = pure (some [x, y, z]) := by rfl)
    (hs : swapsWithSole [.Tuple [.Name x px, .Name y py, .Name z pz] kt pt] (.Tuple [a, b, c] k2 pt2) pos.line X.env = pure false := by rfl) :
    ES X Ω oc ow (.Assign [.Tuple [.Name x px, .Name y py, .Name z pz] kt pt] (.Tuple [a, b, c] k2 pt2) pos) ow (aPar3 i j l sa) := by
  intro F0 H0 F H σ ρ h r h' Dn S e q
  obtain ⟨ds, h2, e1, e⟩ := mb_some e
  match ds, e, e1 with
  | [d1, d2, d3], e, e1 =>
    obtain ⟨rfl, rfl⟩ := mp_some e
    refine ws_of (ps_par3 hc hN hi hj hl hij hil hjl hx hy hz wa hw hs) (ha _ _ _ _ _ _ _ _ _ _ S e1 fun vs F1 H1 s1 o1 da => ?_)
    cases da with
    | cons a1 ar =>
      cases ar with
      | cons a2 ar =>
        cases ar with
        | cons a3 ar =>
          cases ar
          exact ⟨_, _, _, rfl, q _ _ _ ((((S.next s1 o1).set hoi hso a1).set hoj hsp a2).set hol hsq a3)⟩
/-- what is not reached -/
theorem ev_bad : EV X Ω ow a (fun _ _ => none) := by
  intro F0 H0 F H σ ρ hh d h' Q S e q
  cases e
theorem es_bad {st : Stmt} {ow' : List Nat} : ES X Ω oc ow st ow' (fun _ _ => none) := by
  intro F0 H0 F H σ ρ hh d h' Q S e q
  cases e
end
end PL

/-! min, max; comprehensions with two generators -/
namespace PL
open PySem PySem.Spec PyProof.Rows L2

def iMin (n : Int) (ns : List Int) : Int := ns.foldl (fun a b => if b < a then b else a) n
def iMax (n : Int) (ns : List Int) : Int := ns.foldl (fun a b => if a < b then b else a) n
theorem iMin_le : ∀ (ns : List Int) (n : Int), iMin n ns ≤ n ∧ ∀ m ∈ ns, iMin n ns ≤ m
  | [], n => ⟨Int.le_refl _, fun m h => nomatch h⟩
  | k :: ns, n => by
    obtain ⟨h1, h2⟩ := iMin_le ns (if k < n then k else n)
    have e : iMin n (k :: ns) = iMin (if k < n then k else n) ns := rfl
    rw [e]
    by_cases c : k < n
    · rw [if_pos c] at *
      exact ⟨by omega, fun m hm => (List.mem_cons.mp hm).elim (fun z => z ▸ h1) (h2 m)⟩
    · rw [if_neg c] at *
      exact ⟨h1, fun m hm => (List.mem_cons.mp hm).elim (fun z => by omega) (h2 m)⟩
theorem iMin_mem : ∀ (ns : List Int) (n : Int), iMin n ns ∈ n :: ns
  | [], n => List.mem_cons_self
  | k :: ns, n => by
    have e : iMin n (k :: ns) = iMin (if k < n then k else n) ns := rfl
    rw [e]
    have := iMin_mem ns (if k < n then k else n)
    rcases List.mem_cons.mp this with h | h
    · rw [h]
      by_cases c : k < n
      · rw [if_pos c]; simp
      · rw [if_neg c]; simp
    · exact List.mem_cons_of_mem _ (List.mem_cons_of_mem _ h)
theorem iMax_ge : ∀ (ns : List Int) (n : Int), n ≤ iMax n ns ∧ ∀ m ∈ ns, m ≤ iMax n ns
  | [], n => ⟨Int.le_refl _, fun m h => nomatch h⟩
  | k :: ns, n => by
    obtain ⟨h1, h2⟩ := iMax_ge ns (if n < k then k else n)
    have e : iMax n (k :: ns) = iMax (if n < k then k else n) ns := rfl
    rw [e]
    by_cases c : n < k
    · rw [if_pos c] at *
      exact ⟨by omega, fun m hm => (List.mem_cons.mp hm).elim (fun z => z ▸ h1) (h2 m)⟩
    · rw [if_neg c] at *
      exact ⟨h1, fun m hm => (List.mem_cons.mp hm).elim (fun z => by omega) (h2 m)⟩
theorem iMax_mem : ∀ (ns : List Int) (n : Int), iMax n ns ∈ n :: ns
  | [], n => List.mem_cons_self
  | k :: ns, n => by
    have e : iMax n (k :: ns) = iMax (if n < k then k else n) ns := rfl
    rw [e]
    have := iMax_mem ns (if n < k then k else n)
    rcases List.mem_cons.mp this with h | h
    · rw [h]
      by_cases c : n < k
      · rw [if_pos c]; simp
      · rw [if_neg c]; simp
    · exact List.mem_cons_of_mem _ (List.mem_cons_of_mem _ h)
def fMin : List D → Option D
  | [.list ds] => match asInts ds with
    | some (n :: ns) => some (.int (iMin n ns))
    | _ => none
  | [.int i, .int j] => some (.int (if j < i then j else i))
  | _ => none
def fMax : List D → Option D
  | [.list ds] => match asInts ds with
    | some (n :: ns) => some (.int (iMax n ns))
    | _ => none
  | [.int i, .int j] => some (.int (if j > i then j else i))
  | _ => none
section
variable {X : Cx}
theorem cs_min (hc : X.calm = true) : CallS X (.builtin "min") fMin := by
  refine ⟨_, (cr_min hc).or (call_min2 hc), fun F H vs ds d Q s hv e q => ?_⟩
  unfold fMin at e
  split at e
  · split at e
    · rename_i n ns e1
      cases e
      cases hv with
      | cons a r =>
        cases r
        cases a with
        | lst sx ax =>
          have z := DpAll.ints ax e1
          subst z
          refine .inl ⟨_, n :: ns, rfl, s.seq sx, by simp, fun m hm hle => ?_⟩
          obtain ⟨h1, h2⟩ := iMin_le ns n
          have h3 := hle _ (iMin_mem ns n)
          have h4 : iMin n ns ≤ m := (List.mem_cons.mp hm).elim (fun z => z ▸ h1) (h2 m)
          have : m = iMin n ns := by omega
          rw [this]
          exact q _ _ _ (Stq.refl s) (.int _)
    · cases e
  · cases e
    cases hv with
    | cons a r =>
      cases a
      cases r with
      | cons a r =>
        cases a
        cases r
        exact .inr ⟨_, _, rfl, q _ _ _ (Stq.refl s) (.int _)⟩
  · cases e
theorem cs_max (hc : X.calm = true) : CallS X (.builtin "max") fMax := by
  refine ⟨_, (cr_max hc).or (call_max2 hc), fun F H vs ds d Q s hv e q => ?_⟩
  unfold fMax at e
  split at e
  · split at e
    · rename_i n ns e1
      cases e
      cases hv with
      | cons a r =>
        cases r
        cases a with
        | lst sx ax =>
          have z := DpAll.ints ax e1
          subst z
          refine .inl ⟨_, n :: ns, rfl, s.seq sx, by simp, fun m hm hle => ?_⟩
          obtain ⟨h1, h2⟩ := iMax_ge ns n
          have h3 := hle _ (iMax_mem ns n)
          have h4 : m ≤ iMax n ns := (List.mem_cons.mp hm).elim (fun z => z ▸ h1) (h2 m)
          have : m = iMax n ns := by omega
          rw [this]
          exact q _ _ _ (Stq.refl s) (.int _)
    · cases e
  · cases e
    cases hv with
    | cons a r =>
      cases a
      cases r with
      | cons a r =>
        cases a
        cases r
        exact .inr ⟨_, _, rfl, q _ _ _ (Stq.refl s) (.int _)⟩
  · cases e
end

/-! ### two generators -/
def WIb (X : Cx) (scope : Scope) (tg iter : Expr) : TI := fun σ Hh R => ∀ s H C cl fp, WI (Blk X scope s H C cl fp) tg iter σ Hh R
theorem wib {X : Cx} {scope : Scope} {tg iter : Expr} (s : Shared) (H : Hp) (C : Addr) (cl : List (Str × Addr)) (fp : List Addr) : PI (Blk X scope s H C cl fp) tg iter (WIb X scope tg iter) := ⟨fun pins s' _ _ _ I h => h s H C cl fp pins s' I⟩
def compL2 (t : SG) (tt : ST) (fi : SI) (t1 : SG) (tt1 : ST) (fe : SE) (vs1 : List Nat) (ρ : Lo) : List D → M (List D)
  | [] => mp []
  | d :: ds => mb (ml (t d ρ)) fun ρ1 => mb (tt ρ1) fun b => if b = true then mb (fi ρ1) fun es => mb (compL t1 tt1 fe (wipeD ρ1 vs1) es) fun ys => mb (compL2 t tt fi t1 tt1 fe vs1 ρ ds) fun zs => mp (ys ++ zs) else compL2 t tt fi t1 tt1 fe vs1 ρ ds
def eComp2 (fi : SI) (t : SG) (tt : ST) (fi1 : SI) (t1 : SG) (tt1 : ST) (fe : SE) (vs vs1 : List Nat) : SE := fun ρ => mb (fi ρ) fun ds => mb (compL2 t tt fi1 t1 tt1 fe vs1 (wipeD ρ vs) ds) fun ys => if ys.length ≤ big then mp (.list ys) else fun _ => none
section
variable {X : Cx} {Ω : Orc} {pos : Pos} {tg iter tg1 iter1 elt : Expr} {ifs ifs1 : List Expr} {scope : Scope} {own : List (Str × Nat)} {fi fi1 : SI} {t t1 : SG} {tt tt1 : ST} {fe : SE} {sl sl1 vs1 : List Nat}
theorem lc2_read {F0 H0 F H : Hp} {σ : L2.St} {ρ : Lo} {h h' : List Int} {d : D} {Q : VK} (hi : EI X Ω [] tg iter fi)
    (hg : ∀ s H C cl fp, EG (Blk X scope s H C cl fp) Ω [] tg sl t) (ht : ∀ s H C cl fp, ETs (Blk X scope s H C cl fp) Ω [] ifs tt)
    (hi1 : ∀ s H C cl fp, EI (Blk X scope s H C cl fp) Ω [] tg1 iter1 fi1)
    (hg1 : ∀ s H C cl fp, EG (Blk X scope s H C cl fp) Ω [] tg1 sl1 t1) (ht1 : ∀ s H C cl fp, ETs (Blk X scope s H C cl fp) Ω [] ifs1 tt1) (he : ∀ s H C cl fp, EV (Blk X scope s H C cl fp) Ω [] elt fe)
    (hsl : ∀ i ∈ sl, i ∈ own.map (·.2)) (hsl1 : ∀ i ∈ sl1, i ∈ vs1) (hv1 : ∀ i ∈ vs1, i ∈ own.map (·.2)) (hso : ∀ i ∈ own.map (·.2), Ω.slot ≠ some i)
    (S : SR X.K Ω [] F0 H0 F H σ ρ h) (e : eComp2 fi t tt fi1 t1 tt1 fe (own.map (·.2)) vs1 ρ h = some (d, h'))
    (q : ∀ p F' H', Stp Ω F H F' H' → Ω.OR h' H' → H p = none → OwnAt X.K Ω H0 F' H' p d → Q (.ref p) H') :
    tLc2 (WI X tg iter) (WGb X scope tg) (WTb X scope ifs) (WIb X scope tg1 iter1) (WGb X scope tg1) (WTb X scope ifs1) (WEb X scope elt) (own.map (·.2)) vs1 σ H Q := by
  obtain ⟨ds, h1, e1, e⟩ := mb_some e
  obtain ⟨ys, h2, e2, e⟩ := mb_some e
  split at e
  · rename_i hbig
    obtain ⟨rfl, rfl⟩ := mp_some e
    refine hi _ _ _ _ _ _ _ _ _ _ S e1 fun J F1 H1 s1 o1 W => ?_
    intro Dd nD
    have S1 := S.next s1 o1
    have n0 : H0 Dd = none := by
      cases z : H0 Dd with
      | none => rfl
      | some o => exact absurd nD (S1.st.al Dd (by rw [z]; simp))
    have nH : H Dd = none := by
      cases z : H Dd with
      | none => rfl
      | some o => exact absurd nD (s1.al Dd (by rw [z]; simp))
    have oc : ¬ Ω.OC Dd := fun z => Ω.alloc _ _ o1 Dd z nD
    have nF1 : F1 Dd = none := S1.fh.free nD
    generalize hvs : own.map (·.2) = vs at *
    have Sw := (S1.wipe vs (fun i _ z => nomatch z) hso).chgX (o := .lst []) nF1 n0 oc (fun i d z => nomatch z)
    refine ⟨fun i m H2 => m = ds.length - i ∧ i ≤ ds.length ∧ ∃ F2 h2 acc ys1 ys2, SR X.K Ω [] F0 H0 F2 H2 (L2.wipe σ vs) (wipeD ρ vs) h2 ∧ Stp Ω F1 H1 F2 H2 ∧ H2 Dd = some (.lst acc) ∧ F2 Dd = none ∧ DpAll X.K F2 acc ys1 ∧
      compL2 t tt fi1 t1 tt1 fe vs1 (wipeD ρ vs) (ds.drop i) h2 = some (ys2, h') ∧ ys = ys1 ++ ys2,
      ⟨ds.length, rfl, Nat.zero_le _, F1, h1, [], [], ys, Sw, ?_, upd_same, nF1, .nil, e2, rfl⟩, ?_⟩
    · refine ⟨Same.refl _, Sw.fh, fun p o z n => ?_, fun p _ z => z, fun p z => ?_⟩
      · rw [upd_ne (by rintro rfl; rw [nD] at z; cases z)]; exact z
      · exact Same.some (same_upd nD) z
    · rintro i m H2 ⟨rfl, hle, F2, h2, acc, ys1, ys2, S2, s12, eD, nF2, da, e3, ey⟩
      by_cases hlt : i < ds.length
      · refine .inr ⟨W.go i H2 hlt (s12.sf.trans S2.fh), fun H3 => i + 1 ≤ ds.length ∧ ∃ F2 h2 acc ys1 ys2, SR X.K Ω [] F0 H0 F2 H3 (L2.wipe σ vs) (wipeD ρ vs) h2 ∧ Stp Ω F1 H1 F2 H3 ∧ H3 Dd = some (.lst acc) ∧ F2 Dd = none ∧ DpAll X.K F2 acc ys1 ∧
          compL2 t tt fi1 t1 tt1 fe vs1 (wipeD ρ vs) (ds.drop (i + 1)) h2 = some (ys2, h') ∧ ys = ys1 ++ ys2, fun H3 ⟨z1, z2⟩ => ⟨ds.length - (i + 1), by omega, rfl, z1, z2⟩, fun x H3 y => ?_⟩
        obtain ⟨rfl, d, hd, dx⟩ := W.yld i H2 x H3 hlt (s12.sf.trans S2.fh) y
        rw [drop_cons hd] at e3
        obtain ⟨ρ3, h3, z3, e4⟩ := mb_some e3
        obtain ⟨e5, y3⟩ := ml_some z3
        subst y3
        obtain ⟨b, h4, e6, e7⟩ := mb_some e4
        intro s' H' C cl fp
        refine hg s' H' C cl fp _ _ _ _ _ _ _ _ _ _ _ S2 (Dp_mono s12.sf dx) e5 fun σ4 ag S4 => ?_
        refine ⟨by rw [ag.wipe (vs := vs) hsl]; exact lc_read.wipe_idem σ vs, fun s2' H2' C2 cl2 fp2 => ?_⟩
        refine ht s2' H2' C2 cl2 fp2 _ _ _ _ _ _ _ _ _ _ S4 e6 fun F5 H5 s5 o5 => ?_
        cases b with
        | false =>
          rw [if_neg Bool.false_ne_true] at e7 ⊢
          exact ⟨hlt, F5, h4, acc, ys1, ys2, S2.next s5 o5, s12.trans s5, s5.kp Dd _ eD oc, s5.ap Dd (by rw [eD]; simp) nF2, DpAll_mono s5.sf da, e7, ey⟩
        | true =>
          rw [if_pos rfl] at e7 ⊢
          obtain ⟨es, h6, e8, e9⟩ := mb_some e7
          obtain ⟨ysA, h7, e10, e11⟩ := mb_some e9
          obtain ⟨ysB, h8, e12, e13⟩ := mb_some e11
          obtain ⟨rfl, y8⟩ := mp_some e13
          subst y8
          intro s3' H3' C3 cl3 fp3
          have S5 := S4.next s5 o5
          refine hi1 s3' H3' C3 cl3 fp3 _ _ _ _ _ _ _ _ _ _ S5 e8 fun J1 F6 H6 s6 o6 W1 => ?_
          have S6 := S5.next s6 o6
          have s26 := s5.trans s6
          have eD6 := s26.kp Dd _ eD oc
          have nF6 := s26.ap Dd (by rw [eD]; simp) nF2
          have Sx := S6.wipe vs1 (fun i _ z => nomatch z) (fun i hi' => hso i (hv1 i hi'))
          refine ⟨fun j k H7 => k = es.length - j ∧ j ≤ es.length ∧ ∃ F7 h7' acc2 zs1 zs2, SR X.K Ω [] F0 H0 F7 H7 (L2.wipe σ4 vs1) (wipeD ρ3 vs1) h7' ∧ SR X.K Ω [] F0 H0 F7 H7 (L2.wipe σ vs) (wipeD ρ vs) h7' ∧ (Same F6 F7 ∧ Stp Ω F1 H1 F7 H7) ∧ H7 Dd = some (.lst acc2) ∧ F7 Dd = none ∧ DpAll X.K F7 acc2 (ys1 ++ zs1) ∧
              compL t1 tt1 fe (wipeD ρ3 vs1) (es.drop j) h7' = some (zs2, h7) ∧ ysA = zs1 ++ zs2,
            ⟨es.length, rfl, Nat.zero_le _, F6, h6, acc, [], ysA, Sx, S2.next s26 o6, ⟨Same.refl _, s12.trans s26⟩, eD6, nF6, by rw [List.append_nil]; exact DpAll_mono s26.sf da, e10, rfl⟩, ?_⟩
          rintro j k H7 ⟨rfl, hle1, F7, h7', acc2, zs1, zs2, S7, S7o, s67, eD7, nF7, da7, e14, ez⟩
          by_cases hlt1 : j < es.length
          · refine .inr ⟨W1.go j H7 hlt1 (s67.1.trans S7.fh), fun H8 => j + 1 ≤ es.length ∧ ∃ F7 h7' acc2 zs1 zs2, SR X.K Ω [] F0 H0 F7 H8 (L2.wipe σ4 vs1) (wipeD ρ3 vs1) h7' ∧ SR X.K Ω [] F0 H0 F7 H8 (L2.wipe σ vs) (wipeD ρ vs) h7' ∧ (Same F6 F7 ∧ Stp Ω F1 H1 F7 H8) ∧ H8 Dd = some (.lst acc2) ∧ F7 Dd = none ∧ DpAll X.K F7 acc2 (ys1 ++ zs1) ∧
              compL t1 tt1 fe (wipeD ρ3 vs1) (es.drop (j + 1)) h7' = some (zs2, h7) ∧ ysA = zs1 ++ zs2, fun H8 ⟨z1, z2⟩ => ⟨es.length - (j + 1), by omega, rfl, z1, z2⟩, fun x1 H8 y1 => ?_⟩
            obtain ⟨rfl, d1, hd1, dx1⟩ := W1.yld j H7 x1 H8 hlt1 (s67.1.trans S7.fh) y1
            rw [drop_cons hd1] at e14
            obtain ⟨ρ8, h9, z9, e15⟩ := mb_some e14
            obtain ⟨e16, y9⟩ := ml_some z9
            subst y9
            obtain ⟨b1, h10, e17, e18⟩ := mb_some e15
            intro s' H' C cl fp
            refine hg1 s' H' C cl fp _ _ _ _ _ _ _ _ _ _ _ S7 (Dp_mono s67.1 dx1) e16 fun σ9 ag1 S9 => ?_
            refine ⟨by rw [ag1.wipe (vs := vs1) hsl1]; exact lc_read.wipe_idem σ4 vs1, fun s2' H2' C2 cl2 fp2 => ?_⟩
            refine ht1 s2' H2' C2 cl2 fp2 _ _ _ _ _ _ _ _ _ _ S9 e17 fun F10 H10 s10 o10 => ?_
            cases b1 with
            | false =>
              rw [if_neg Bool.false_ne_true] at e18 ⊢
              exact ⟨hlt1, F10, h10, acc2, zs1, zs2, S7.next s10 o10, S7o.next s10 o10, ⟨s67.1.trans s10.sf, s67.2.trans s10⟩, s10.kp Dd _ eD7 oc, s10.ap Dd (by rw [eD7]; simp) nF7, DpAll_mono s10.sf da7, e18, ez⟩
            | true =>
              rw [if_pos rfl] at e18 ⊢
              obtain ⟨yv, h11, e19, e20⟩ := mb_some e18
              obtain ⟨zs3, h12, e21, e22⟩ := mb_some e20
              obtain ⟨rfl, y12⟩ := mp_some e22
              subst y12
              intro s3' H3' C3 cl3 fp3
              refine he s3' H3' C3 cl3 fp3 _ _ _ _ _ _ _ _ _ _ (S9.next s10 o10) e19 fun v F11 H11 s11 o11 d11 => ?_
              have s1011 := s10.trans s11
              have eD11 := s1011.kp Dd _ eD7 oc
              have nF11 := s1011.ap Dd (by rw [eD7]; simp) nF7
              have S11 := (S7.next s1011 o11).chgX (o := .lst (acc2 ++ [v])) nF11 n0 oc (fun i d z => nomatch z)
              have S11o := (S7o.next s1011 o11).chgX (o := .lst (acc2 ++ [v])) nF11 n0 oc (fun i d z => nomatch z)
              have hlen : acc2.length ≤ big := by
                rw [DpAll.length da7]
                have : ys.length ≤ big := hbig
                rw [ey, ez] at this
                simp only [List.length_append, List.length_cons] at this ⊢
                omega
              refine ⟨acc2, eD11, big_line hlen, hlt1, F11, h11, acc2 ++ [v], zs1 ++ [yv], zs3, S11, S11o, ⟨s67.1.trans s1011.sf, ?_⟩, upd_same, nF11, by rw [← List.append_assoc]; exact DpAll.append (DpAll_mono s1011.sf da7) (.cons d11 .nil), e21, by rw [ez]; simp⟩
              have s611 := s67.2.trans s1011
              refine ⟨s611.sf, S11.fh, fun p o z n => ?_, s611.ap, fun p z => ?_⟩
              · rw [upd_ne (by rintro rfl; rw [nD] at z; cases z)]; exact s611.kp p o z n
              · by_cases hp : p = Dd
                · subst hp; rw [upd_same]; simp
                · rw [upd_ne hp]; exact s611.al p z
          · have ei : j = es.length := by omega
            subst ei
            rw [List.drop_length] at e14
            obtain ⟨rfl, y14⟩ := mp_some e14
            subst y14
            rw [List.append_nil] at ez
            subst ez
            refine .inl ⟨W1.stop _ H7 (Nat.le_refl _) (s67.1.trans S7.fh), hlt, F7, h7, acc2, ys1 ++ ysA, ysB, S7o, s67.2, eD7, nF7, da7, e12, by rw [ey, List.append_assoc]⟩
      · have ei : i = ds.length := by omega
        subst ei
        rw [List.drop_length] at e3
        obtain ⟨rfl, rfl⟩ := mp_some e3
        rw [List.append_nil] at ey
        subst ey
        refine .inl ⟨W.stop _ H2 (Nat.le_refl _) (s12.sf.trans S2.fh), q Dd F2 H2 (s1.trans s12) S2.orc nH ⟨acc, ys, rfl, eD, da, nF2, n0, oc⟩⟩
  · cases e
theorem eo_lc2 (hc : X.calm = true) (hN : X.N.Nodup) (hi : EI X Ω [] tg iter fi) (ok : BlkOk X.N X.env.scope scope own)
    (hg : ∀ s H C cl fp, EG (Blk X scope s H C cl fp) Ω [] tg sl t) (ht : ∀ s H C cl fp, ETs (Blk X scope s H C cl fp) Ω [] ifs tt)
    (hi1 : ∀ s H C cl fp, EI (Blk X scope s H C cl fp) Ω [] tg1 iter1 fi1)
    (hg1 : ∀ s H C cl fp, EG (Blk X scope s H C cl fp) Ω [] tg1 sl1 t1) (ht1 : ∀ s H C cl fp, ETs (Blk X scope s H C cl fp) Ω [] ifs1 tt1) (he : ∀ s H C cl fp, EV (Blk X scope s H C cl fp) Ω [] elt fe)
    (hso : ∀ i ∈ own.map (·.2), Ω.slot ≠ some i) (hsl : ∀ i ∈ sl, i ∈ own.map (·.2) := by decide) (hsl1 : ∀ i ∈ sl1, i ∈ vs1 := by decide) (hv1 : ∀ i ∈ vs1, i ∈ own.map (·.2) := by decide)
    (hs : ∀ x, foldedSetIterable iter X.env x = pure x := by intro _; rfl) (hs1 : ∀ env x, foldedSetIterable iter1 env x = pure x := by intro _ _; rfl) :
    EO X Ω [] (.ListComp elt [⟨tg, iter, ifs, 0⟩, ⟨tg1, iter1, ifs1, 0⟩] scope pos) (eComp2 fi t tt fi1 t1 tt1 fe (own.map (·.2)) vs1) := by
  intro F0 H0 F H σ ρ h d h' Q S e q
  exact we_of (pe_lc2 hc hN wi ok hv1 (fun s H C cl fp => wgb X scope s H C cl fp) (fun s H C cl fp => wtb X scope s H C cl fp) (fun s H C cl fp => wib s H C cl fp) (fun s H C cl fp => wgb X scope s H C cl fp) (fun s H C cl fp => wtb X scope s H C cl fp) (fun s H C cl fp => web X scope s H C cl fp) hs hs1)
    (lc2_read hi hg ht hi1 hg1 ht1 he hsl hsl1 hv1 hso S e q)
end
end PL

/-! forgetting slots; the typed layer -/
namespace PL
open PySem PySem.Spec PyProof.Rows L2

/-! ### slots that are no longer needed -/
theorem SR.forget {K : PySem.W.Frag} {Ω : Orc} {ow : List Nat} {F0 H0 F H : Hp} {σ : L2.St} {ρ : Lo} {h : List Int} (S : SR K Ω ow F0 H0 F H σ ρ h) (vs : List Nat) : SR K Ω ow F0 H0 F H σ (wipeD ρ vs) h := by
  have g : ∀ {i d}, (wipeD ρ vs)[i]? = some (some d) → ρ[i]? = some (some d) := fun {i d} e => by
    rw [wipeD_get] at e
    by_cases hi : i ∈ vs
    · simp only [hi, if_true] at e
      split at e <;> cases e
    · simp only [hi, if_false] at e
      exact e
  refine ⟨S.st, by rw [wipeD_length]; exact S.len, fun i d hi e => S.val i d hi (g e), fun i d hi e => S.own i d hi (g e), fun i j p d e hi hj e1 e2 => S.apart i j p d e hi hj (g e1) (g e2), S.orc, S.ocf, fun i hi => ?_⟩
  obtain ⟨a, b⟩ := S.pool i hi
  refine ⟨a, ?_⟩
  rw [wipeD_get]
  have hl : i < ρ.length := (List.getElem?_eq_some_iff.mp b).1
  by_cases c : i ∈ vs
  · simp [c, hl]
  · simp only [c, if_false]; exact b
def wipeFl (vs : List Nat) : Fl → Fl
  | .nx ρ => .nx (wipeD ρ vs)
  | .ct ρ => .ct (wipeD ρ vs)
  | .ret d => .ret d
def sFg (vs : List Nat) (s : SS) : SS := fun ρ => mb (s ρ) fun r => mp (wipeFl vs r)
def sPre (vs : List Nat) (s : SS) : SS := fun ρ => s (wipeD ρ vs)
section
variable {X : Cx} {Ω : Orc} {ow oc ow' : List Nat}
theorem FlOk.fg {Dn : Ends} {F0 H0 : Hp} {h : List Int} {vs : List Nat} : ∀ {r : Fl}, FlOk X Ω oc ow' F0 H0 Dn h (wipeFl vs r) → FlOk X Ω oc ow' F0 H0 Dn h r
  | .nx ρ, q => fun F' H' σ' S' => q _ _ _ (S'.forget vs)
  | .ct ρ, q => fun F' H' σ' S' => q _ _ _ (S'.forget vs)
  | .ret d, q => q
theorem es_fg (vs : List Nat) {st : Stmt} {f : SS} (h : ES X Ω oc ow st ow' f) : ES X Ω oc ow st ow' (sFg vs f) := by
  intro F0 H0 F H σ ρ hh r h' Dn S e q
  obtain ⟨r1, h1, e1, e2⟩ := mb_some e
  obtain ⟨rfl, rfl⟩ := mp_some e2
  exact h _ _ _ _ _ _ _ _ _ _ S e1 (FlOk.fg q)
theorem ess_fg (vs : List Nat) {st : List Stmt} {f : SS} (h : ESs X Ω oc ow st ow' f) : ESs X Ω oc ow st ow' (sFg vs f) := by
  intro F0 H0 F H σ ρ hh r h' Dn S e q
  obtain ⟨r1, h1, e1, e2⟩ := mb_some e
  obtain ⟨rfl, rfl⟩ := mp_some e2
  exact h _ _ _ _ _ _ _ _ _ _ S e1 (FlOk.fg q)
theorem es_pre (vs : List Nat) {st : Stmt} {f : SS} (h : ES X Ω oc ow st ow' f) : ES X Ω oc ow st ow' (sPre vs f) := by
  intro F0 H0 F H σ ρ hh r h' Dn S e q
  exact h _ _ _ _ _ _ _ _ _ _ (S.forget vs) e q
end

/-! ### typed expressions -/
section
variable {α β γ δ ε : Type} {ρ : Lo}
def TV (ρ : Lo) (f : SE) (e : α → D) (t : Option α) : Prop := ∀ h a, t = some a → f ρ h = some (e a, h)
def TT (ρ : Lo) (f : ST) (t : Option Bool) : Prop := ∀ h b, t = some b → f ρ h = some (b, h)
def TA (ρ : Lo) (f : SA) (t : Option (List D)) : Prop := ∀ h b, t = some b → f ρ h = some (b, h)
def TIt (ρ : Lo) (f : SI) (e : α → D) (t : Option (List α)) : Prop := ∀ h l, t = some l → f ρ h = some (l.map e, h)
abbrev eI : Int → D := PyData.int
abbrev eBo : Bool → D := PyData.bool
abbrev eSt : Str → D := PyData.str
def eT1 (a : α → D) : α → D := fun p => .tuple [a p]
def eT2 (a : α → D) (b : β → D) : α × β → D := fun p => .tuple [a p.1, b p.2]
def eT3 (a : α → D) (b : β → D) (c : γ → D) : α × β × γ → D := fun p => .tuple [a p.1, b p.2.1, c p.2.2]
def eT4 (a : α → D) (b : β → D) (c : γ → D) (d : δ → D) : α × β × γ × δ → D := fun p => .tuple [a p.1, b p.2.1, c p.2.2.1, d p.2.2.2]
def eL (a : α → D) : List α → D := fun l => .list (l.map a)
def eVt (a : α → D) : List α → D := fun l => .tuple (l.map a)
def eO (a : α → D) : Option α → D := fun o => match o with
  | some x => a x
  | none => .none
def eU : Unit → D := fun _ => .none
theorem mb_go {m : M α} {k : α → M β} {h h' : List Int} {a : α} (e : m h = some (a, h')) : mb m k h = k a h' := by unfold mb; rw [e]
theorem ml_go {o : Option α} {h : List Int} {a : α} (e : o = some a) : ml o h = some (a, h) := by rw [e]; rfl
theorem ob {t : Option α} {k : α → Option β} {c : β} (e : t.bind k = some c) : ∃ a, t = some a ∧ k a = some c := Option.bind_eq_some_iff.mp e
theorem bs {a : α} {k : α → Option β} : (some a).bind k = k a := (rfl)
theorem so {a b : α} (e : some a = some b) : a = b := Option.some.inj e
theorem tv_var {i : Nat} {e : α → D} {a : α} (hr : rd i ρ = some (e a) := by rfl) : TV ρ (eVar i) e (some a) := fun h b z => by
  cases z
  exact ml_go hr
theorem tv_c {d : D} {e : α → D} (a : α) (he : e a = d := by rfl) : TV ρ (eC d) e (some a) := fun h b z => by
  cases z
  rw [he]
  rfl
theorem tv_op {G : D → D → Option D} {f f' : SE} {ea : α → D} {eb : β → D} {ec : γ → D} {g : α → β → Option γ} {ta : Option α} {tb : Option β} (hG : ∀ a b, G (ea a) (eb b) = (g a b).map ec) (h1 : TV ρ f ea ta) (h2 : TV ρ f' eb tb) :
    TV ρ (eOp G f f') ec (ta.bind fun a => tb.bind fun b => g a b) := fun h c e => by
  obtain ⟨a, e1, e⟩ := ob e
  obtain ⟨b, e2, e⟩ := ob e
  exact (mb_go (h1 h a e1)).trans ((mb_go (h2 h b e2)).trans (ml_go (by rw [hG, e]; rfl)))
theorem tv_un {G : D → Option D} {f : SE} {ea : α → D} {ec : γ → D} {g : α → Option γ} {ta : Option α} (hG : ∀ a, G (ea a) = (g a).map ec) (h1 : TV ρ f ea ta) : TV ρ (eUn G f) ec (ta.bind g) := fun h c e => by
  obtain ⟨a, e1, e⟩ := ob e
  exact (mb_go (h1 h a e1)).trans (ml_go (by rw [hG, e]; rfl))
theorem tv_chain {G G' : D → D → Option D} {f f' f'' : SE} {ea : α → D} {eb : β → D} {ec : γ → D} {g : α → β → Option Bool} {g' : β → γ → Option Bool} {ta : Option α} {tb : Option β} {tc : Option γ} (hG : ∀ a b, G (ea a) (eb b) = (g a b).map eBo) (hG' : ∀ a b, G' (eb a) (ec b) = (g' a b).map eBo)
    (h1 : TV ρ f ea ta) (h2 : TV ρ f' eb tb) (h3 : TV ρ f'' ec tc) : TV ρ (eChain G G' f f' f'') eBo (ta.bind fun a => tb.bind fun b => (g a b).bind fun x => if x = true then tc.bind fun c => g' b c else some false) := fun h c e => by
  obtain ⟨a, e1, e⟩ := ob e
  obtain ⟨b, e2, e⟩ := ob e
  obtain ⟨x, e3, e⟩ := ob e
  have e4 : G (ea a) (eb b) = some (.bool x) := by rw [hG, e3]; rfl
  refine (mb_go (h1 h a e1)).trans ((mb_go (h2 h b e2)).trans ((mb_go (ml_go e4)).trans ?_))
  cases x with
  | false => cases e; rfl
  | true =>
    obtain ⟨y, e5, e⟩ := ob (show (tc.bind fun c => g' b c) = some c from e)
    exact (mb_go (h3 h y e5)).trans (ml_go (by rw [hG', e]; rfl))
theorem tt_v {f : SE} {t : Option Bool} (h1 : TV ρ f eBo t) : TT ρ (tV f) t := fun h b e => (mb_go (h1 h b e)).trans rfl
theorem tt_yes : TT ρ tYs (some true) := fun h b e => by cases e; rfl
theorem tt_an {f g : ST} {s t : Option Bool} (h1 : TT ρ f s) (h2 : TT ρ g t) : TT ρ (tAn f g) (s.bind fun x => if x = true then t else some false) := fun h b e => by
  obtain ⟨x, e1, e⟩ := ob e
  refine (mb_go (h1 h x e1)).trans ?_
  cases x with
  | true => exact h2 h b e
  | false => cases e; rfl
theorem tt_ou {f g : ST} {s t : Option Bool} (h1 : TT ρ f s) (h2 : TT ρ g t) : TT ρ (tOu f g) (s.bind fun x => if x = true then some true else t) := fun h b e => by
  obtain ⟨x, e1, e⟩ := ob e
  refine (mb_go (h1 h x e1)).trans ?_
  cases x with
  | true => cases e; rfl
  | false => exact h2 h b e
theorem tt_no {f : ST} {s : Option Bool} (h1 : TT ρ f s) : TT ρ (tNo f) (s.bind fun x => some (!x)) := fun h b e => by
  obtain ⟨x, e1, e⟩ := ob e
  cases e
  exact (mb_go (h1 h x e1)).trans rfl
theorem tv_b {f : ST} {s : Option Bool} (h1 : TT ρ f s) : TV ρ (eB f) eBo s := fun h b e => (mb_go (h1 h b e)).trans rfl
theorem tv_if {c : ST} {f g : SE} {e : α → D} {s : Option Bool} {ta tb : Option α} (h0 : TT ρ c s) (h1 : TV ρ f e ta) (h2 : TV ρ g e tb) : TV ρ (eIf c f g) e (s.bind fun x => if x = true then ta else tb) := fun h b e => by
  obtain ⟨x, e1, e⟩ := ob e
  refine (mb_go (h0 h x e1)).trans ?_
  cases x with
  | true => exact h1 h b e
  | false => exact h2 h b e
/-- another reading of the same data -/
theorem tv_as {f : SE} {e : α → D} {e' : β → D} {t : Option α} (k : α → β) (h1 : TV ρ f e t) (hk : ∀ a, e' (k a) = e a := by intro _; rfl) : TV ρ f e' (t.bind fun a => some (k a)) := fun h b z => by
  obtain ⟨a, e1, z⟩ := ob z
  cases z
  rw [h1 h a e1, hk]
theorem tv_asO {f : SE} {e : α → D} {e' : β → D} {t : Option α} (k : α → Option β) (hk : ∀ a b, k a = some b → e' b = e a) (h1 : TV ρ f e t) : TV ρ f e' (t.bind k) := fun h b z => by
  obtain ⟨a, e1, z⟩ := ob z
  rw [h1 h a e1, hk a b z]
/-- what is not None -/
theorem tv_the {f : SE} {e : α → D} {t : Option (Option α)} (h1 : TV ρ f (eO e) t) : TV ρ f e (t.bind fun a => a) := fun h b z => by
  obtain ⟨a, e1, z⟩ := ob z
  cases z
  exact h1 h (some b) e1
/-! lists of arguments -/
theorem ta_nil : TA ρ aNil (some []) := fun _ b e => by cases e; rfl
theorem ta_cons {f : SE} {fs : SA} {e : α → D} {t : Option α} {ts : Option (List D)} (h1 : TV ρ f e t) (h2 : TA ρ fs ts) : TA ρ (aCons f fs) (t.bind fun a => ts.bind fun as => some (e a :: as)) := fun h b z => by
  obtain ⟨a, e1, z⟩ := ob z
  obtain ⟨as, e2, z⟩ := ob z
  cases z
  exact (mb_go (h1 h a e1)).trans ((mb_go (h2 h as e2)).trans rfl)
theorem ta1 {f : SE} {e : α → D} {t : Option α} {h : List Int} {a : α} (h1 : TV ρ f e t) (z : t = some a) : aCons f aNil ρ h = some ([e a], h) := ta_cons h1 ta_nil h _ (by rw [z]; rfl)
theorem ta2 {f g : SE} {e : α → D} {e' : β → D} {t : Option α} {u : Option β} {h : List Int} {a : α} {b : β} (h1 : TV ρ f e t) (h2 : TV ρ g e' u) (z : t = some a) (z' : u = some b) : aCons f (aCons g aNil) ρ h = some ([e a, e' b], h) := ta_cons h1 (ta_cons h2 ta_nil) h _ (by rw [z, z']; rfl)
theorem ta3 {f g k : SE} {e : α → D} {e' : β → D} {e'' : γ → D} {t : Option α} {u : Option β} {w : Option γ} {h : List Int} {a : α} {b : β} {c : γ} (h1 : TV ρ f e t) (h2 : TV ρ g e' u) (h3 : TV ρ k e'' w) (z : t = some a) (z' : u = some b) (z'' : w = some c) :
    aCons f (aCons g (aCons k aNil)) ρ h = some ([e a, e' b, e'' c], h) := ta_cons h1 (ta_cons h2 (ta_cons h3 ta_nil)) h _ (by rw [z, z', z'']; rfl)
theorem ta4 {f g k l : SE} {e : α → D} {e' : β → D} {e'' : γ → D} {e3 : δ → D} {t : Option α} {u : Option β} {w : Option γ} {y : Option δ} {h : List Int} {a : α} {b : β} {c : γ} {d : δ} (h1 : TV ρ f e t) (h2 : TV ρ g e' u) (h3 : TV ρ k e'' w) (h4 : TV ρ l e3 y) (z : t = some a) (z' : u = some b) (z'' : w = some c) (z3 : y = some d) :
    aCons f (aCons g (aCons k (aCons l aNil))) ρ h = some ([e a, e' b, e'' c, e3 d], h) := ta_cons h1 (ta_cons h2 (ta_cons h3 (ta_cons h4 ta_nil))) h _ (by rw [z, z', z'', z3]; rfl)
theorem tv_t2 {f g : SE} {ea : α → D} {eb : β → D} {ta : Option α} {tb : Option β} (h1 : TV ρ f ea ta) (h2 : TV ρ g eb tb) : TV ρ (eTup (aCons f (aCons g aNil))) (eT2 ea eb) (ta.bind fun a => tb.bind fun b => some (a, b)) := fun h r z => by
  obtain ⟨a, e1, z⟩ := ob z
  obtain ⟨b, e2, z⟩ := ob z
  cases z
  exact (mb_go (ta2 h1 h2 e1 e2)).trans rfl
theorem tv_t3 {f g k : SE} {ea : α → D} {eb : β → D} {ec : γ → D} {ta : Option α} {tb : Option β} {tc : Option γ} (h1 : TV ρ f ea ta) (h2 : TV ρ g eb tb) (h3 : TV ρ k ec tc) : TV ρ (eTup (aCons f (aCons g (aCons k aNil)))) (eT3 ea eb ec) (ta.bind fun a => tb.bind fun b => tc.bind fun c => some (a, b, c)) := fun h r z => by
  obtain ⟨a, e1, z⟩ := ob z
  obtain ⟨b, e2, z⟩ := ob z
  obtain ⟨c, e3, z⟩ := ob z
  cases z
  exact (mb_go (ta3 h1 h2 h3 e1 e2 e3)).trans rfl
theorem tv_t4 {f g k l : SE} {ea : α → D} {eb : β → D} {ec : γ → D} {ed : δ → D} {ta : Option α} {tb : Option β} {tc : Option γ} {td : Option δ} (h1 : TV ρ f ea ta) (h2 : TV ρ g eb tb) (h3 : TV ρ k ec tc) (h4 : TV ρ l ed td) :
    TV ρ (eTup (aCons f (aCons g (aCons k (aCons l aNil))))) (eT4 ea eb ec ed) (ta.bind fun a => tb.bind fun b => tc.bind fun c => td.bind fun d => some (a, b, c, d)) := fun h r z => by
  obtain ⟨a, e1, z⟩ := ob z
  obtain ⟨b, e2, z⟩ := ob z
  obtain ⟨c, e3, z⟩ := ob z
  obtain ⟨d, e4, z⟩ := ob z
  cases z
  exact (mb_go (ta4 h1 h2 h3 h4 e1 e2 e3 e4)).trans rfl
/-- displays of lists and tuples, n items, all alike -/
def TAs (ρ : Lo) (f : SA) (e : α → D) (n : Nat) (t : Option (List α)) : Prop := ∀ h l, t = some l → f ρ h = some (l.map e, h) ∧ l.length = n
theorem tas_nil {e : α → D} : TAs ρ aNil e 0 (some []) := fun _ b z => by cases z; exact ⟨rfl, rfl⟩
theorem tas_cons {f : SE} {fs : SA} {e : α → D} {n : Nat} {t : Option α} {ts : Option (List α)} (h1 : TV ρ f e t) (h2 : TAs ρ fs e n ts) : TAs ρ (aCons f fs) e (n + 1) (t.bind fun a => ts.bind fun as => some (a :: as)) := fun h b z => by
  obtain ⟨a, e1, z⟩ := ob z
  obtain ⟨as, e2, z⟩ := ob z
  cases z
  obtain ⟨e3, e4⟩ := h2 h as e2
  exact ⟨(mb_go (h1 h a e1)).trans ((mb_go e3).trans rfl), by rw [List.length_cons, e4]⟩
theorem tv_lst {fs : SA} {e : α → D} {n : Nat} {t : Option (List α)} (h1 : TAs ρ fs e n t) (hn : n ≤ 1000 := by decide) : TV ρ (eLst fs) (eL e) t := fun h r z => by
  obtain ⟨e3, e4⟩ := h1 h r z
  refine (mb_go e3).trans ?_
  show (if (r.map e).length ≤ 1000 then mp (PyData.list (r.map e)) else fun _ => none) h = _
  rw [List.length_map, e4, if_pos hn]; rfl
theorem tv_vt {fs : SA} {e : α → D} {n : Nat} {t : Option (List α)} (h1 : TAs ρ fs e n t) (hn : n ≤ 1000 := by decide) : TV ρ (eTup fs) (eVt e) t := fun h r z => by
  obtain ⟨e3, e4⟩ := h1 h r z
  refine (mb_go e3).trans ?_
  show (if (r.map e).length ≤ 1000 then mp (PyData.tuple (r.map e)) else fun _ => none) h = _
  rw [List.length_map, e4, if_pos hn]; rfl
/-! calls -/
theorem w1 {F : List D → Option D} {ea : α → D} {er : ε → D} {x : α → Option ε} (hF : ∀ a, F [ea a] = (x a).map er) : ∀ a r, x a = some r → F [ea a] = some (er r) := fun a r e => by rw [hF, e]; rfl
theorem w2 {F : List D → Option D} {ea : α → D} {eb : β → D} {er : ε → D} {x : α → β → Option ε} (hF : ∀ a b, F [ea a, eb b] = (x a b).map er) : ∀ a b r, x a b = some r → F [ea a, eb b] = some (er r) := fun a b r e => by rw [hF, e]; rfl
theorem tv_call1 {F : List D → Option D} {f : SE} {ea : α → D} {er : ε → D} {ta : Option α} {x : α → Option ε} (hF : ∀ a r, x a = some r → F [ea a] = some (er r)) (h1 : TV ρ f ea ta) : TV ρ (eCall F (aCons f aNil)) er (ta.bind fun a => x a) := fun h r z => by
  obtain ⟨a, e1, z⟩ := ob z
  exact (mb_go (ta1 h1 e1)).trans (ml_go (hF a r z))
theorem tv_call2 {F : List D → Option D} {f g : SE} {ea : α → D} {eb : β → D} {er : ε → D} {ta : Option α} {tb : Option β} {x : α → β → Option ε} (hF : ∀ a b r, x a b = some r → F [ea a, eb b] = some (er r)) (h1 : TV ρ f ea ta) (h2 : TV ρ g eb tb) : TV ρ (eCall F (aCons f (aCons g aNil))) er (ta.bind fun a => tb.bind fun b => x a b) := fun h r z => by
  obtain ⟨a, e1, z⟩ := ob z
  obtain ⟨b, e2, z⟩ := ob z
  exact (mb_go (ta2 h1 h2 e1 e2)).trans (ml_go (hF a b r z))
theorem tv_call3 {F : List D → Option D} {f g k : SE} {ea : α → D} {eb : β → D} {ec : γ → D} {er : ε → D} {ta : Option α} {tb : Option β} {tc : Option γ} {x : α → β → γ → Option ε} (hF : ∀ a b c r, x a b c = some r → F [ea a, eb b, ec c] = some (er r)) (h1 : TV ρ f ea ta) (h2 : TV ρ g eb tb) (h3 : TV ρ k ec tc) :
    TV ρ (eCall F (aCons f (aCons g (aCons k aNil)))) er (ta.bind fun a => tb.bind fun b => tc.bind fun c => x a b c) := fun h r z => by
  obtain ⟨a, e1, z⟩ := ob z
  obtain ⟨b, e2, z⟩ := ob z
  obtain ⟨c, e3, z⟩ := ob z
  exact (mb_go (ta3 h1 h2 h3 e1 e2 e3)).trans (ml_go (hF a b c r z))
/-! what is walked -/
theorem tit_l {f : SE} {e : α → D} {t : Option (List α)} (h1 : TV ρ f (eL e) t) : TIt ρ (iSeq f) e t := fun h l z => (mb_go (h1 h l z)).trans rfl
theorem tit_v {f : SE} {e : α → D} {t : Option (List α)} (h1 : TV ρ f (eVt e) t) : TIt ρ (iSeq f) e t := fun h l z => (mb_go (h1 h l z)).trans rfl
def rgI (lo : Int) (n : Nat) : List Int := (List.range n).map fun i => lo + (i : Nat)
theorem rgI_map (lo : Int) (n : Nat) : rgD lo n = (rgI lo n).map eI := by unfold rgD rgI; rw [List.map_map]; rfl
theorem tit_r1 {f : SE} {t : Option Int} (h1 : TV ρ f eI t) : TIt ρ (iRg rg1 (aCons f aNil)) eI (t.bind fun j => if small62 j = true then some (rgI 0 j.toNat) else none) := fun h l z => by
  obtain ⟨j, e1, z⟩ := ob z
  split at z
  · rename_i c
    cases z
    refine (mb_go (ta1 h1 e1)).trans (ml_go ?_)
    show (if small62 j = true then some (rgD 0 j.toNat) else none) = _
    rw [if_pos c, rgI_map]
  · cases z
theorem tit_r2 {f g : SE} {t u : Option Int} (h1 : TV ρ f eI t) (h2 : TV ρ g eI u) : TIt ρ (iRg rg2 (aCons f (aCons g aNil))) eI (t.bind fun i => u.bind fun j => if (small62 i && small62 j) = true then some (rgI i (j - i).toNat) else none) := fun h l z => by
  obtain ⟨i, e1, z⟩ := ob z
  obtain ⟨j, e2, z⟩ := ob z
  split at z
  · rename_i c
    cases z
    refine (mb_go (ta2 h1 h2 e1 e2)).trans (ml_go ?_)
    show (if (small62 i && small62 j) = true then some (rgD i (j - i).toNat) else none) = _
    rw [if_pos c, rgI_map]
  · cases z
/-! comprehensions -/
def cmp (c : α → Option Bool) (y : α → Option β) : List α → Option (List β)
  | [] => some []
  | a :: l => (c a).bind fun b => if b = true then (y a).bind fun v => (cmp c y l).bind fun vs => some (v :: vs) else cmp c y l
theorem compL_t {g : SG} {tt : ST} {fe : SE} {ea : α → D} {eb : β → D} {c : α → Option Bool} {y : α → Option β} (hb : ∀ a, ∃ ρ1, g (ea a) ρ = some ρ1 ∧ TT ρ1 tt (c a) ∧ TV ρ1 fe eb (y a)) : ∀ (l : List α) (h : List Int) (r : List β), cmp c y l = some r → compL g tt fe ρ (l.map ea) h = some (r.map eb, h)
  | [], _, r, z => by cases z; rfl
  | a :: l, h, r, z => by
    obtain ⟨ρ1, h1, h2, h3⟩ := hb a
    obtain ⟨b, e1, z⟩ := ob z
    refine (mb_go (ml_go h1)).trans ((mb_go (h2 h b e1)).trans ?_)
    cases b with
    | false => exact compL_t hb l h r z
    | true =>
      obtain ⟨v, e2, z⟩ := ob (show ((y a).bind fun v => (cmp c y l).bind fun vs => some (v :: vs)) = some r from z)
      obtain ⟨vs, e3, z⟩ := ob z
      cases z
      exact (mb_go (h3 h v e2)).trans ((mb_go (compL_t hb l h vs e3)).trans rfl)
theorem tv_comp {fi : SI} {g : SG} {tt : ST} {fe : SE} {vs : List Nat} {ea : α → D} {eb : β → D} {l : Option (List α)} {c : α → Option Bool} {y : α → Option β} (h0 : TIt ρ fi ea l) (hb : ∀ a, ∃ ρ1, g (ea a) (wipeD ρ vs) = some ρ1 ∧ TT ρ1 tt (c a) ∧ TV ρ1 fe eb (y a)) :
    TV ρ (eComp fi g tt fe vs) (eL eb) (l.bind fun l => if l.length ≤ big then cmp c y l else none) := fun h r z => by
  obtain ⟨l, e1, z⟩ := ob z
  split at z
  · rename_i k
    refine (mb_go (h0 h l e1)).trans ?_
    show (if (l.map ea).length ≤ big then _ else fun _ => none) h = _
    rw [List.length_map, if_pos k]
    exact (mb_go (compL_t hb l h r z)).trans rfl
  · cases z
def cmp2 (c : α → Option Bool) (l1 : α → Option (List β)) (c1 : α → β → Option Bool) (y : α → β → Option γ) : List α → Option (List γ)
  | [] => some []
  | a :: l => (c a).bind fun b => if b = true then (l1 a).bind fun es => (cmp (c1 a) (y a) es).bind fun ys => (cmp2 c l1 c1 y l).bind fun zs => some (ys ++ zs) else cmp2 c l1 c1 y l
theorem compL2_t {g : SG} {tt : ST} {fi : SI} {g1 : SG} {tt1 : ST} {fe : SE} {vs1 : List Nat} {ea : α → D} {eb : β → D} {ec : γ → D} {c : α → Option Bool} {l1 : α → Option (List β)} {c1 : α → β → Option Bool} {y : α → β → Option γ}
    (hb : ∀ a, ∃ ρ1, g (ea a) ρ = some ρ1 ∧ TT ρ1 tt (c a) ∧ TIt ρ1 fi eb (l1 a) ∧ ∀ b, ∃ ρ2, g1 (eb b) (wipeD ρ1 vs1) = some ρ2 ∧ TT ρ2 tt1 (c1 a b) ∧ TV ρ2 fe ec (y a b)) : ∀ (l : List α) (h : List Int) (r : List γ), cmp2 c l1 c1 y l = some r → compL2 g tt fi g1 tt1 fe vs1 ρ (l.map ea) h = some (r.map ec, h)
  | [], _, r, z => by cases z; rfl
  | a :: l, h, r, z => by
    obtain ⟨ρ1, h1, h2, h3, h4⟩ := hb a
    obtain ⟨b, e1, z⟩ := ob z
    refine (mb_go (ml_go h1)).trans ((mb_go (h2 h b e1)).trans ?_)
    cases b with
    | false => exact compL2_t hb l h r z
    | true =>
      obtain ⟨es, e2, z⟩ := ob (show ((l1 a).bind fun es => (cmp (c1 a) (y a) es).bind fun ys => (cmp2 c l1 c1 y l).bind fun zs => some (ys ++ zs)) = some r from z)
      obtain ⟨ys, e3, z⟩ := ob z
      obtain ⟨zs, e4, z⟩ := ob z
      cases z
      refine (mb_go (h3 h es e2)).trans ((mb_go (compL_t h4 es h ys e3)).trans ((mb_go (compL2_t hb l h zs e4)).trans ?_))
      rw [List.map_append]
      rfl
theorem tv_comp2 {fi : SI} {g : SG} {tt : ST} {fi1 : SI} {g1 : SG} {tt1 : ST} {fe : SE} {vs vs1 : List Nat} {ea : α → D} {eb : β → D} {ec : γ → D} {l : Option (List α)} {c : α → Option Bool} {l1 : α → Option (List β)} {c1 : α → β → Option Bool} {y : α → β → Option γ} (h0 : TIt ρ fi ea l)
    (hb : ∀ a, ∃ ρ1, g (ea a) (wipeD ρ vs) = some ρ1 ∧ TT ρ1 tt (c a) ∧ TIt ρ1 fi1 eb (l1 a) ∧ ∀ b, ∃ ρ2, g1 (eb b) (wipeD ρ1 vs1) = some ρ2 ∧ TT ρ2 tt1 (c1 a b) ∧ TV ρ2 fe ec (y a b)) :
    TV ρ (eComp2 fi g tt fi1 g1 tt1 fe vs vs1) (eL ec) (l.bind fun l => (cmp2 c l1 c1 y l).bind fun ys => if ys.length ≤ big then some ys else none) := fun h r z => by
  obtain ⟨l, e1, z⟩ := ob z
  obtain ⟨ys, e2, z⟩ := ob z
  split at z
  · rename_i k
    cases z
    refine (mb_go (h0 h l e1)).trans ((mb_go (compL2_t hb l h r e2)).trans ?_)
    show (if (r.map ec).length ≤ big then mp (PyData.list (r.map ec)) else fun _ => none) h = _
    rw [List.length_map, if_pos k]; rfl
  · cases z
end
end PL

/-! typed operators and statements -/
namespace PL
open PySem PySem.Spec PyProof.Rows L2

section
variable {α β γ δ ε Z : Type} {ρ : Lo}
/-! ### data that may be compared -/
structure GE (e : α → D) (n : Nat) [DecidableEq α] : Prop where
  lay : ∀ a, (e a).canLay0 = true ∧ (e a).depth ≤ n
  eqv : ∀ a b, PyData.eqv (e a) (e b) = decide (a = b)
theorem ge_I : GE eI 0 := ⟨fun _ => ⟨rfl, Nat.le_refl _⟩, fun a b => by simp only [PyData.eqv]; rfl⟩
theorem ge_B : GE eBo 0 := ⟨fun _ => ⟨rfl, Nat.le_refl _⟩, fun a b => by simp only [PyData.eqv]; cases a <;> cases b <;> rfl⟩
theorem lay_row {n : Nat} : ∀ {ds : List D}, (∀ d ∈ ds, d.canLay0 = true ∧ d.depth ≤ n) → PyData.canLayAll0 ds = true ∧ PyData.depthAll ds ≤ n
  | [], _ => ⟨by simp [PyData.canLayAll0], by simp [PyData.depthAll]⟩
  | d :: ds, h => by
    obtain ⟨h1, h2⟩ := h d List.mem_cons_self
    obtain ⟨h3, h4⟩ := lay_row (ds := ds) fun x hx => h x (List.mem_cons_of_mem _ hx)
    exact ⟨by simp [PyData.canLayAll0, h1, h3], by simp only [PyData.depthAll]; omega⟩
theorem lay_tup {n : Nat} {ds : List D} (h : ∀ d ∈ ds, d.canLay0 = true ∧ d.depth ≤ n) : (PyData.tuple ds).canLay0 = true ∧ (PyData.tuple ds).depth ≤ n + 1 := by
  obtain ⟨a, b⟩ := lay_row h
  exact ⟨by simp only [PyData.canLay0]; exact a, by simp only [PyData.depth]; omega⟩
theorem lay_lst {n : Nat} {ds : List D} (h : ∀ d ∈ ds, d.canLay0 = true ∧ d.depth ≤ n) : (PyData.list ds).canLay0 = true ∧ (PyData.list ds).depth ≤ n + 1 := by
  obtain ⟨a, b⟩ := lay_row h
  exact ⟨by simp only [PyData.canLay0]; exact a, by simp only [PyData.depth]; omega⟩
variable [DecidableEq α] [DecidableEq β] [DecidableEq γ] [DecidableEq δ]
theorem ge_T2 {a : α → D} {b : β → D} {n : Nat} (h1 : GE a n) (h2 : GE b n) : GE (eT2 a b) (n + 1) := by
  refine ⟨fun p => lay_tup fun d hd => ?_, fun p q => ?_⟩
  · simp only [List.mem_cons, List.not_mem_nil, or_false] at hd
    rcases hd with rfl | rfl
    · exact h1.lay _
    · exact h2.lay _
  · obtain ⟨x, y⟩ := p; obtain ⟨x', y'⟩ := q
    simp only [eT2, PyData.eqv, PyData.eqvAll, h1.eqv, h2.eqv, Bool.and_true]
    by_cases c1 : x = x' <;> by_cases c2 : y = y' <;> simp [c1, c2]
theorem ge_T3 {a : α → D} {b : β → D} {c : γ → D} {n : Nat} (h1 : GE a n) (h2 : GE b n) (h3 : GE c n) : GE (eT3 a b c) (n + 1) := by
  refine ⟨fun p => lay_tup fun d hd => ?_, fun p q => ?_⟩
  · simp only [List.mem_cons, List.not_mem_nil, or_false] at hd
    rcases hd with rfl | rfl | rfl
    · exact h1.lay _
    · exact h2.lay _
    · exact h3.lay _
  · obtain ⟨x, y, z⟩ := p; obtain ⟨x', y', z'⟩ := q
    simp only [eT3, PyData.eqv, PyData.eqvAll, h1.eqv, h2.eqv, h3.eqv, Bool.and_true]
    by_cases c1 : x = x' <;> by_cases c2 : y = y' <;> by_cases c3 : z = z' <;> simp [c1, c2, c3]
theorem ge_T4 {a : α → D} {b : β → D} {c : γ → D} {d : δ → D} {n : Nat} (h1 : GE a n) (h2 : GE b n) (h3 : GE c n) (h4 : GE d n) : GE (eT4 a b c d) (n + 1) := by
  refine ⟨fun p => lay_tup fun d hd => ?_, fun p q => ?_⟩
  · simp only [List.mem_cons, List.not_mem_nil, or_false] at hd
    rcases hd with rfl | rfl | rfl | rfl
    · exact h1.lay _
    · exact h2.lay _
    · exact h3.lay _
    · exact h4.lay _
  · obtain ⟨x, y, z, u⟩ := p; obtain ⟨x', y', z', u'⟩ := q
    simp only [eT4, PyData.eqv, PyData.eqvAll, h1.eqv, h2.eqv, h3.eqv, h4.eqv, Bool.and_true]
    by_cases c1 : x = x' <;> by_cases c2 : y = y' <;> by_cases c3 : z = z' <;> by_cases c4 : u = u' <;> simp [c1, c2, c3, c4]
theorem eqv_row {e : α → D} {n : Nat} (h : GE e n) : ∀ l m : List α, PyData.eqvAll (l.map e) (m.map e) = decide (l = m)
  | [], [] => by simp [PyData.eqvAll]
  | [], _ :: _ => by simp [PyData.eqvAll]
  | _ :: _, [] => by simp [PyData.eqvAll]
  | x :: l, y :: m => by
    simp only [List.map_cons, PyData.eqvAll, h.eqv, eqv_row h l m, List.cons.injEq, Bool.decide_and]
theorem ge_L {e : α → D} {n : Nat} (h : GE e n) : GE (eL e) (n + 1) := by
  refine ⟨fun l => lay_lst fun d hd => ?_, fun l m => ?_⟩
  · obtain ⟨a, _, rfl⟩ := List.mem_map.mp hd
    exact h.lay a
  · simp only [eL, PyData.eqv]; exact eqv_row h l m
theorem ge_V {e : α → D} {n : Nat} (h : GE e n) : GE (eVt e) (n + 1) := by
  refine ⟨fun l => lay_tup fun d hd => ?_, fun l m => ?_⟩
  · obtain ⟨a, _, rfl⟩ := List.mem_map.mp hd
    exact h.lay a
  · simp only [eVt, PyData.eqv]; exact eqv_row h l m
theorem GE.up {e : α → D} {m n : Nat} (h : GE e m) (hn : m ≤ n) : GE e n := ⟨fun a => ⟨(h.lay a).1, Nat.le_trans (h.lay a).2 hn⟩, h.eqv⟩
theorem GE.ok {e : α → D} {n : Nat} (h : GE e n) (hn : n ≤ 60) (a : α) : okD (e a) = true := by
  rw [okD_iff]
  simp only [Bool.and_eq_true, decide_eq_true_eq]
  exact ⟨(h.lay a).1, Nat.le_trans (h.lay a).2 hn⟩
theorem tg_eq {e : α → D} {n : Nat} (h : GE e n) (hn : n ≤ 60) (a b : α) : gEq (e a) (e b) = (some (decide (a = b))).map eBo := by
  unfold gEq; rw [h.ok hn, h.ok hn, h.eqv]; rfl
theorem tg_ne {e : α → D} {n : Nat} (h : GE e n) (hn : n ≤ 60) (a b : α) : gNe (e a) (e b) = (some (!decide (a = b))).map eBo := by
  unfold gNe; rw [h.ok hn, h.ok hn, h.eqv]; rfl
theorem any_row {e : α → D} {n : Nat} (h : GE e n) (a : α) : ∀ l : List α, (l.map e).any (fun z => PyData.eqv z (e a)) = l.any fun z => decide (z = a)
  | [] => rfl
  | x :: l => by rw [List.map_cons, List.any_cons, List.any_cons, any_row h a l, h.eqv]
theorem tg_inL {e : α → D} {n : Nat} (h : GE e n) (hn : n + 1 ≤ 60) (a : α) (l : List α) : gIn (e a) (eL e l) = (some (l.any fun z => decide (z = a))).map eBo := by
  unfold gIn
  show (if (okD (e a) && okD (eL e l)) = true then _ else _) = _
  rw [h.ok (by omega), (ge_L h).ok hn, any_row h]; rfl
theorem tg_inV {e : α → D} {n : Nat} (h : GE e n) (hn : n + 1 ≤ 60) (a : α) (l : List α) : gIn (e a) (eVt e l) = (some (l.any fun z => decide (z = a))).map eBo := by
  unfold gIn
  show (if (okD (e a) && okD (eVt e l)) = true then _ else _) = _
  rw [h.ok (by omega), (ge_V h).ok hn, any_row h]; rfl
theorem tg_ninL {e : α → D} {n : Nat} (h : GE e n) (hn : n + 1 ≤ 60) (a : α) (l : List α) : gNin (e a) (eL e l) = (some (!l.any fun z => decide (z = a))).map eBo := by
  unfold gNin
  show (if (okD (e a) && okD (eL e l)) = true then _ else _) = _
  rw [h.ok (by omega), (ge_L h).ok hn, any_row h]; rfl
theorem tg_ninV {e : α → D} {n : Nat} (h : GE e n) (hn : n + 1 ≤ 60) (a : α) (l : List α) : gNin (e a) (eVt e l) = (some (!l.any fun z => decide (z = a))).map eBo := by
  unfold gNin
  show (if (okD (e a) && okD (eVt e l)) = true then _ else _) = _
  rw [h.ok (by omega), (ge_V h).ok hn, any_row h]; rfl
omit [DecidableEq α] [DecidableEq β] [DecidableEq γ] [DecidableEq δ]
/-! ### numbers -/
def mulI (a b : Int) : Option Int := if (small64 a || small64 b) = true then some (a * b) else none
def fdI (a b : Int) : Option Int := if b ≠ 0 ∧ b.natAbs < 1073741824 then some (a.fdiv b) else none
def mdI (a b : Int) : Option Int := if b ≠ 0 then some (a.fmod b) else none
theorem tg_add (a b : Int) : gAdd (eI a) (eI b) = (some (a + b)).map eI := rfl
theorem tg_sub (a b : Int) : gSub (eI a) (eI b) = (some (a - b)).map eI := rfl
theorem tg_mul (a b : Int) : gMul (eI a) (eI b) = (mulI a b).map eI := by
  show (if (small64 a || small64 b) = true then _ else _) = Option.map _ (if (small64 a || small64 b) = true then _ else _)
  split <;> rfl
theorem tg_fd (a b : Int) : gFdiv (eI a) (eI b) = (fdI a b).map eI := by
  show (if b ≠ 0 ∧ b.natAbs < 1073741824 then _ else _) = Option.map _ (if b ≠ 0 ∧ b.natAbs < 1073741824 then _ else _)
  split <;> rfl
theorem tg_md (a b : Int) : gMod (eI a) (eI b) = (mdI a b).map eI := by
  show (if b ≠ 0 then _ else _) = Option.map _ (if b ≠ 0 then _ else _)
  split <;> rfl
theorem tg_neg (a : Int) : gNeg (eI a) = (some (-a)).map eI := rfl
theorem tg_lt (a b : Int) : gLt (eI a) (eI b) = (some (decide (a < b))).map eBo := rfl
theorem tg_le (a b : Int) : gLe (eI a) (eI b) = (some (decide (a ≤ b))).map eBo := rfl
theorem tg_gt (a b : Int) : gGt (eI a) (eI b) = (some (decide (b < a))).map eBo := rfl
theorem tg_ge (a b : Int) : gGe (eI a) (eI b) = (some (decide (b ≤ a))).map eBo := rfl
abbrev eP : Int × Int → D := eT2 eI eI
def pLe (p q : Peg) : Bool := if p.1 = q.1 then decide (p.2 ≤ q.2) else decide (p.1 ≤ q.1)
theorem tg_ltP (p q : Peg) : gLt (eP p) (eP q) = (some (pLt p q)).map eBo := by
  show some (PyData.bool (HT.lexLt [p.1, p.2] [q.1, q.2])) = some (.bool (pLt p q))
  congr 2
  simp only [HT.lexLt, pLt]
  by_cases h1 : p.1 = q.1
  · by_cases h2 : p.2 = q.2
    · simp [h1, h2]
    · by_cases h3 : p.2 < q.2 <;> simp [h1, h2, h3]
  · by_cases h3 : p.1 < q.1 <;> simp [h1, h3]
theorem tg_leP (p q : Peg) : gLe (eP p) (eP q) = (some (pLe p q)).map eBo := rfl
/-! ### lists -/
theorem tg_catL {e : α → D} (l m : List α) : gAdd (eL e l) (eL e m) = (if l.length + m.length ≤ big then some (l ++ m) else none).map (eL e) := by
  show (if (l.map e).length + (m.map e).length ≤ big then some (PyData.list (l.map e ++ m.map e)) else none) = _
  rw [List.length_map, List.length_map, ← List.map_append]
  split <;> rfl
theorem tg_catV {e : α → D} (l m : List α) : gAdd (eVt e l) (eVt e m) = (if l.length + m.length ≤ big then some (l ++ m) else none).map (eVt e) := by
  show (if (l.map e).length + (m.map e).length ≤ big then some (PyData.tuple (l.map e ++ m.map e)) else none) = _
  rw [List.length_map, List.length_map, ← List.map_append]
  split <;> rfl
theorem atIx_map {f : α → β} (l : List α) (i : Int) : atI (l.map f) i = (atI l i).map f := by
  unfold atI
  rw [List.length_map]
  cases ixN l.length i with
  | none => rfl
  | some j => show (l.map f)[j]? = (l[j]?).map f; rw [List.getElem?_map]
theorem tg_ixL {e : α → D} (l : List α) (i : Int) : gIx (eL e l) (eI i) = (atI l i).map e := atIx_map l i
theorem tg_ixV {e : α → D} (l : List α) (i : Int) : gIx (eVt e l) (eI i) = (atI l i).map e := atIx_map l i
theorem tg_lenL {e : α → D} (l : List α) : fLen [eL e l] = (some (l.length : Int)).map eI := by
  show some (PyData.int ((l.map e).length : Int)) = _
  rw [List.length_map]; rfl
theorem tg_lenV {e : α → D} (l : List α) : fLen [eVt e l] = (some (l.length : Int)).map eI := by
  show some (PyData.int ((l.map e).length : Int)) = _
  rw [List.length_map]; rfl
theorem tg_abs (a : Int) : fAbs [eI a] = (some (if a < 0 then -a else a)).map eI := rfl
theorem tg_int (a : Int) : fInt [eI a] = (some a).map eI := rfl
theorem tg_intB (a : Bool) : fInt [eBo a] = (some (if a = true then 1 else 0)).map eI := rfl
theorem tg_sum (l : List Int) : fSum [eL eI l] = (some l.sum).map eI := by
  show (asInts (l.map PyData.int)).map _ = _
  rw [asInts_map]; rfl
theorem tg_all (l : List Bool) : fAll [eL eBo l] = (some (l.all id)).map eBo := by
  show (asBls (l.map PyData.bool)).map _ = _
  rw [asBls_map]; rfl
theorem tg_any (l : List Bool) : fAny [eL eBo l] = (some (l.any id)).map eBo := by
  show (asBls (l.map PyData.bool)).map _ = _
  rw [asBls_map]; rfl
def minI : List Int → Option Int
  | [] => none
  | n :: ns => some (iMin n ns)
def maxI : List Int → Option Int
  | [] => none
  | n :: ns => some (iMax n ns)
theorem tg_min (l : List Int) : fMin [eL eI l] = (minI l).map eI := by
  show (match asInts (l.map PyData.int) with
    | some (n :: ns) => some (PyData.int (iMin n ns))
    | _ => none) = _
  rw [asInts_map]; cases l <;> rfl
theorem tg_max (l : List Int) : fMax [eL eI l] = (maxI l).map eI := by
  show (match asInts (l.map PyData.int) with
    | some (n :: ns) => some (PyData.int (iMax n ns))
    | _ => none) = _
  rw [asInts_map]; cases l <;> rfl
theorem tg_min2 (a b : Int) : fMin [eI a, eI b] = (some (if b < a then b else a)).map eI := rfl
theorem tg_max2 (a b : Int) : fMax [eI a, eI b] = (some (if b > a then b else a)).map eI := rfl
theorem tg_tupL {e : α → D} (l : List α) : fTup [eL e l] = (some l).map (eVt e) := rfl
theorem tg_tupV {e : α → D} (l : List α) : fTup [eVt e l] = (some l).map (eVt e) := rfl
theorem tg_lstL {e : α → D} (l : List α) : fLst [eL e l] = (some l).map (eL e) := rfl
theorem tg_lstV {e : α → D} (l : List α) : fLst [eVt e l] = (some l).map (eL e) := rfl
theorem tg_sset (l : List Peg) : gSSet (eL eP l) = (if l.length < 64 then some (psort l) else none).map (eL eP) := by
  show (match asPegs (l.map encP) with
    | some ps => if ps.length < 64 then some (PyData.list ((psort ps).map encP)) else none
    | none => none) = _
  rw [asPegs_map]
  show (if l.length < 64 then _ else none) = Option.map _ (if l.length < 64 then _ else none)
  split <;> rfl
theorem tg_revL {e : α → D} (l : List α) : gRev (eL e l) = (some l.reverse).map (eL e) := by
  show some (PyData.list (l.map e).reverse) = some (PyData.list (l.reverse.map e))
  rw [List.map_reverse]
theorem tg_revV {e : α → D} (l : List α) : gRev (eVt e l) = (some l.reverse).map (eVt e) := by
  show some (PyData.tuple (l.map e).reverse) = some (PyData.tuple (l.reverse.map e))
  rw [List.map_reverse]
/-- by a constant -/
theorem tv_k {G : D → D → Option D} {d : D} {f : SE} {ea : α → D} {ec : γ → D} {g : α → Option γ} {ta : Option α} (hG : ∀ a, G (ea a) d = (g a).map ec) (h1 : TV ρ f ea ta) : TV ρ (eOp G f (eC d)) ec (ta.bind g) := fun h c e => by
  obtain ⟨a, e1, e⟩ := ob e
  exact (mb_go (h1 h a e1)).trans (ml_go (by rw [hG, e]; rfl))
theorem tg_o0 {a : α → D} {b : β → D} (o : Option (α × β)) : gIx (eO (eT2 a b) o) (.int 0) = (o.map (·.1)).map a := by cases o <;> rfl
theorem tg_o1 {a : α → D} {b : β → D} (o : Option (α × β)) : gIx (eO (eT2 a b) o) (.int 1) = (o.map (·.2)).map b := by cases o <;> rfl
theorem tg_isO {e : α → D} (he : ∀ a, isNone (e a) = false) (o : Option α) : gIs (eO e o) .none = (some o.isNone).map eBo := by
  cases o with
  | none => rfl
  | some a => show some (PyData.bool (isNone (e a))) = _; rw [he]; rfl
theorem tg_isntO {e : α → D} (he : ∀ a, isNone (e a) = false) (o : Option α) : gIsnt (eO e o) .none = (some (!o.isNone)).map eBo := by
  cases o with
  | none => rfl
  | some a => show some (PyData.bool (!isNone (e a))) = _; rw [he]; rfl
/-! slices -/
def cut (l : List α) (lo hi : Option Int) : List α := (l.drop (HT.sIx l.length 0 lo)).take (HT.sIx l.length l.length hi - HT.sIx l.length 0 lo)
theorem cut_map (e : α → D) (l : List α) (lo hi : Option Int) : cutD (l.map e) lo hi = (cut l lo hi).map e := by
  unfold cutD cut
  rw [List.length_map, List.map_take, List.map_drop]
def TO (ρ : Lo) (f : SO) (t : Option (Option Int)) : Prop := ∀ h b, t = some b → f ρ h = some (b, h)
theorem to_no : TO ρ oNo (some none) := fun _ b z => by cases z; rfl
theorem to_so {f : SE} {t : Option Int} (h1 : TV ρ f eI t) : TO ρ (oSo f) (t.bind fun i => some (some i)) := fun h b z => by
  obtain ⟨a, e1, z⟩ := ob z
  cases z
  exact (mb_go (h1 h a e1)).trans rfl
theorem tv_slL {f : SE} {lo hi : SO} {e : α → D} {t : Option (List α)} {a b : Option (Option Int)} (h1 : TV ρ f (eL e) t) (h2 : TO ρ lo a) (h3 : TO ρ hi b) : TV ρ (eSl f lo hi) (eL e) (t.bind fun l => a.bind fun x => b.bind fun y => some (cut l x y)) := fun h r z => by
  obtain ⟨l, e1, z⟩ := ob z
  obtain ⟨x, e2, z⟩ := ob z
  obtain ⟨y, e3, z⟩ := ob z
  cases z
  refine (mb_go (h1 h l e1)).trans ((mb_go (h2 h x e2)).trans ((mb_go (h3 h y e3)).trans ?_))
  show some (PyData.list (cutD (l.map e) x y), h) = _
  rw [cut_map]; rfl
theorem tv_slV {f : SE} {lo hi : SO} {e : α → D} {t : Option (List α)} {a b : Option (Option Int)} (h1 : TV ρ f (eVt e) t) (h2 : TO ρ lo a) (h3 : TO ρ hi b) : TV ρ (eSl f lo hi) (eVt e) (t.bind fun l => a.bind fun x => b.bind fun y => some (cut l x y)) := fun h r z => by
  obtain ⟨l, e1, z⟩ := ob z
  obtain ⟨x, e2, z⟩ := ob z
  obtain ⟨y, e3, z⟩ := ob z
  cases z
  refine (mb_go (h1 h l e1)).trans ((mb_go (h2 h x e2)).trans ((mb_go (h3 h y e3)).trans ?_))
  show some (PyData.tuple (cutD (l.map e) x y), h) = _
  rw [cut_map]; rfl
/-! no lists in it -/
theorem noLs_map {e : α → D} (he : ∀ a, noL (e a) = true) : ∀ l : List α, noLs (l.map e) = true
  | [] => by simp [noLs]
  | a :: l => by simp [noLs, he a, noLs_map he l]
theorem nl_I (a : Int) : noL (eI a) = true := by simp [noL]
theorem nl_B (a : Bool) : noL (eBo a) = true := by simp [noL]
theorem nl_T2 {a : α → D} {b : β → D} (h1 : ∀ x, noL (a x) = true) (h2 : ∀ x, noL (b x) = true) (p : α × β) : noL (eT2 a b p) = true := by simp [eT2, noL, noLs, h1, h2]
theorem nl_T3 {a : α → D} {b : β → D} {c : γ → D} (h1 : ∀ x, noL (a x) = true) (h2 : ∀ x, noL (b x) = true) (h3 : ∀ x, noL (c x) = true) (p : α × β × γ) : noL (eT3 a b c p) = true := by simp [eT3, noL, noLs, h1, h2, h3]
theorem nl_T4 {a : α → D} {b : β → D} {c : γ → D} {d : δ → D} (h1 : ∀ x, noL (a x) = true) (h2 : ∀ x, noL (b x) = true) (h3 : ∀ x, noL (c x) = true) (h4 : ∀ x, noL (d x) = true) (p : α × β × γ × δ) : noL (eT4 a b c d p) = true := by simp [eT4, noL, noLs, h1, h2, h3, h4]
theorem nl_V {e : α → D} (he : ∀ a, noL (e a) = true) (l : List α) : noL (eVt e l) = true := by simp only [eVt, noL]; exact noLs_map he l
theorem nl_O {e : α → D} (he : ∀ a, noL (e a) = true) (o : Option α) : noL (eO e o) = true := by cases o <;> simp [eO, noL, he]
theorem tv_nl {f : SE} {e : α → D} {t : Option α} (he : ∀ a, noL (e a) = true) (h1 : TV ρ f e t) : TV ρ (eNL f) e t := fun h a z => by
  refine (mb_go (h1 h a z)).trans ?_
  show (if noL (e a) = true then mp (e a) else fun _ => none) h = _
  rw [if_pos (he a)]; rfl
theorem tv_nls {f : SE} {e : α → D} {t : Option (List α)} (he : ∀ a, noL (e a) = true) (h1 : TV ρ f (eL e) t) : TV ρ (eNLs f) (eL e) t := fun h l z => by
  refine (mb_go (h1 h l z)).trans ?_
  show (if noLs (l.map e) = true then mp (PyData.list (l.map e)) else fun _ => none) h = _
  rw [if_pos (noLs_map he l)]; rfl

/-! ### statements -/
inductive OutD where
  | fall (ρ : Lo)
  | ret (d : D)
/-- how a block may end -/
def FinO (nk ck : Bool) (vs : List Nat) (r : Option (Fl × List Int)) (h : List Int) : OutD → Prop
  | .ret d => r = some (.ret d, h)
  | .fall σ => ∃ ρ', wipeD ρ' vs = σ ∧ ((nk = true ∧ r = some (.nx ρ', h)) ∨ (ck = true ∧ r = some (.ct ρ', h)))
/-- a block ends as t says, where t says something; nk, ck: it may fall through, it may continue; vs: the slots that are forgotten where it falls through -/
def TB (nk ck : Bool) (vs : List Nat) (ρ : Lo) (s : SS) (dec : Z → OutD) (t : Option Z) : Prop := ∀ h z, t = some z → FinO nk ck vs (s ρ h) h (dec z)
variable {nk ck : Bool} {vs : List Nat} {dec : Z → OutD}
theorem tb_to {s s' : SS} {k : Option Z} {ρ' : Lo} {h : List Int} {z : Z} (h1 : TB nk ck vs ρ' s' dec k) (ez : k = some z) (e : s ρ h = s' ρ' h) : FinO nk ck vs (s ρ h) h (dec z) := by
  rw [e]
  exact h1 h z ez
theorem fin_ret {r : Option (Fl × List Int)} {h : List Int} {o : OutD} {d : D} (hd : o = .ret d) (e : r = some (.ret d, h)) : FinO nk ck vs r h o := by rw [hd]; exact e
theorem tb_ret {f : SE} {er : ε → D} {t : Option ε} (inj : ε → Z) (h1 : TV ρ f er t) (hd : ∀ r, dec (inj r) = .ret (er r) := by intro _; rfl) : TB nk ck vs ρ (sRet f) dec (t.bind fun r => some (inj r)) := fun h z e => by
  obtain ⟨r, e1, e⟩ := ob e
  cases e
  exact fin_ret (hd r) (mb_go (h1 h r e1))
theorem tb_retI {f : SE} {t : Option Z} {er : Z → D} (h1 : TV ρ f er t) (hd : ∀ r, dec r = .ret (er r) := by intro _; rfl) : TB nk ck vs ρ (sRet f) dec t := fun h z e => fin_ret (hd z) (mb_go (h1 h z e))
theorem tb_nil (z : Z) (hd : dec z = .fall (wipeD ρ vs) := by rfl) : TB true ck vs ρ sNil dec (some z) := fun h z' e => by
  cases e
  rw [hd]
  exact ⟨ρ, rfl, .inl ⟨rfl, rfl⟩⟩
theorem tb_ct (z : Z) (hd : dec z = .fall (wipeD ρ vs) := by rfl) : TB nk true vs ρ sCt dec (some z) := fun h z' e => by
  cases e
  rw [hd]
  exact ⟨ρ, rfl, .inr ⟨rfl, rfl⟩⟩
theorem tb_last {s : SS} {t : Option Z} (h1 : TB nk ck vs ρ (sSeq s sNil) dec t) : TB nk ck vs ρ s dec t := fun h z e => by
  have e0 : s ρ h = sSeq s sNil ρ h := by
    show s ρ h = mb (s ρ) _ h
    unfold mb
    cases e : s ρ h with
    | none => rfl
    | some p =>
      obtain ⟨fl, h'⟩ := p
      cases fl <;> rfl
  rw [e0]
  exact h1 h z e
theorem tb_set {f : SE} {i : Nat} {rest : SS} {ea : α → D} {ta : Option α} {k : α → Option Z} (h1 : TV ρ f ea ta) (h2 : ∀ a, TB nk ck vs (ρ.set i (some (ea a))) rest dec (k a)) : TB nk ck vs ρ (sSeq (sSet (gN i) f) rest) dec (ta.bind k) := fun h z e => by
  obtain ⟨a, e1, e⟩ := ob e
  exact tb_to (h2 a) e (mb_go (a := Fl.nx (ρ.set i (some (ea a)))) (mb_go (h1 h a e1)))
theorem tb_asg {g : SG} {f : SE} {rest : SS} {ea : α → D} {ta : Option α} {k : α → Option Z} {R : α → Lo} (h1 : TV ρ f ea ta) (hg : ∀ a, g (ea a) ρ = some (R a)) (h2 : ∀ a, TB nk ck vs (R a) rest dec (k a)) : TB nk ck vs ρ (sSeq (sSet g f) rest) dec (ta.bind k) := fun h z e => by
  obtain ⟨a, e1, e⟩ := ob e
  exact tb_to (h2 a) e (mb_go (a := Fl.nx (R a)) ((mb_go (h1 h a e1)).trans (mb_go (ml_go (hg a)))))
theorem tb_par2 {f g : SE} {i j : Nat} {rest : SS} {ea : α → D} {eb : β → D} {ta : Option α} {tb : Option β} {k : α → β → Option Z} (h1 : TV ρ f ea ta) (h1' : TV ρ g eb tb) (h2 : ∀ a b, TB nk ck vs ((ρ.set i (some (ea a))).set j (some (eb b))) rest dec (k a b)) :
    TB nk ck vs ρ (sSeq (aPar2 i j (aCons f (aCons g aNil))) rest) dec (ta.bind fun a => tb.bind fun b => k a b) := fun h z e => by
  obtain ⟨a, e1, e⟩ := ob e
  obtain ⟨b, e2, e⟩ := ob e
  exact tb_to (h2 a b) e (mb_go (a := Fl.nx ((ρ.set i (some (ea a))).set j (some (eb b)))) (mb_go (ta2 h1 h1' e1 e2)))
theorem tb_par3 {f g p : SE} {i j l : Nat} {rest : SS} {ea : α → D} {eb : β → D} {ec : γ → D} {ta : Option α} {tb : Option β} {tc : Option γ} {k : α → β → γ → Option Z} (h1 : TV ρ f ea ta) (h1' : TV ρ g eb tb) (h1'' : TV ρ p ec tc)
    (h2 : ∀ a b c, TB nk ck vs (((ρ.set i (some (ea a))).set j (some (eb b))).set l (some (ec c))) rest dec (k a b c)) :
    TB nk ck vs ρ (sSeq (aPar3 i j l (aCons f (aCons g (aCons p aNil)))) rest) dec (ta.bind fun a => tb.bind fun b => tc.bind fun c => k a b c) := fun h z e => by
  obtain ⟨a, e1, e⟩ := ob e
  obtain ⟨b, e2, e⟩ := ob e
  obtain ⟨c, e3, e⟩ := ob e
  exact tb_to (h2 a b c) e (mb_go (a := Fl.nx (((ρ.set i (some (ea a))).set j (some (eb b))).set l (some (ec c)))) (mb_go (ta3 h1 h1' h1'' e1 e2 e3)))
/-- if, the first branch never falls through -/
theorem tb_ife {c : ST} {A rest : SS} {s : Option Bool} {x y : Option Z} (h0 : TT ρ c s) (h1 : TB false ck vs ρ A dec x) (h2 : TB nk ck vs ρ rest dec y) : TB nk ck vs ρ (sSeq (sIf c A sNil) rest) dec (s.bind fun b => if b = true then x else y) := fun h z e => by
  obtain ⟨b, e1, e⟩ := ob e
  cases b with
  | false => exact tb_to h2 e (mb_go (a := Fl.nx ρ) (mb_go (h0 h _ e1)))
  | true =>
    have e0 : sIf c A sNil ρ h = A ρ h := mb_go (h0 h _ e1)
    have := h1 h z e
    cases hd : dec z with
    | ret d =>
      rw [hd] at this
      exact mb_go (a := Fl.ret d) (e0.trans this)
    | fall σ =>
      rw [hd] at this
      obtain ⟨ρ', e2, ⟨z1, _⟩ | ⟨z1, z2⟩⟩ := this
      · cases z1
      · exact ⟨ρ', e2, .inr ⟨z1, mb_go (a := Fl.ct ρ') (e0.trans z2)⟩⟩
/-- if, at the end of a block -/
theorem tb_ifl {c : ST} {A B : SS} {s : Option Bool} {x y : Option Z} (h0 : TT ρ c s) (h1 : TB nk ck vs ρ A dec x) (h2 : TB nk ck vs ρ B dec y) : TB nk ck vs ρ (sIf c A B) dec (s.bind fun b => if b = true then x else y) := fun h z e => by
  obtain ⟨b, e1, e⟩ := ob e
  cases b with
  | false => exact tb_to h2 e (mb_go (h0 h _ e1))
  | true => exact tb_to h1 e (mb_go (h0 h _ e1))
/-- what falls through, then the rest -/
theorem tb_join {s rest : SS} {S : Type} {E : S → Lo} {x : Option S} {k : S → Option Z} (vs1 : List Nat) (h1 : TB true false vs1 ρ s (fun z => .fall (E z)) x) (h2 : ∀ z, TB nk ck vs (E z) rest dec (k z)) : TB nk ck vs ρ (sSeq (sFg vs1 s) rest) dec (x.bind k) := fun h z e => by
  obtain ⟨y, e1, e⟩ := ob e
  obtain ⟨ρ', e2, ⟨_, e3⟩ | ⟨e3, _⟩⟩ := h1 h y e1
  · refine tb_to (h2 y) e (mb_go (a := Fl.nx (E y)) ((mb_go e3).trans ?_))
    rw [← e2]
    rfl
  · cases e3
def decS {S R : Type} (E : S → Lo) (er : R → D) : S ⊕ R → OutD
  | .inl s => .fall (E s)
  | .inr r => .ret (er r)
def sumK {S R : Type} (k : S → Option Z) (inj : R → Z) : S ⊕ R → Option Z
  | .inl s => k s
  | .inr r => some (inj r)
theorem tb_joinR {s rest : SS} {S R : Type} {E : S → Lo} {er : R → D} {x : Option (S ⊕ R)} {k : S → Option Z} (vs1 : List Nat) (inj : R → Z) (h1 : TB true false vs1 ρ s (decS E er) x) (h2 : ∀ z, TB nk ck vs (E z) rest dec (k z)) (hd : ∀ r, dec (inj r) = .ret (er r) := by intro _; rfl) :
    TB nk ck vs ρ (sSeq (sFg vs1 s) rest) dec (x.bind (sumK k inj)) := fun h z e => by
  obtain ⟨y, e1, e⟩ := ob e
  cases y with
  | inr r =>
    cases e
    have e3 : s ρ h = some (.ret (er r), h) := h1 h _ e1
    exact fin_ret (hd r) (mb_go (a := Fl.ret (er r)) (mb_go e3))
  | inl y =>
    obtain ⟨ρ', e2, ⟨_, e3⟩ | ⟨e3, _⟩⟩ := (show FinO true false vs1 (s ρ h) h (.fall (E y)) from h1 h _ e1)
    · refine tb_to (h2 y) e (mb_go (a := Fl.nx (E y)) ((mb_go e3).trans ?_))
      rw [← e2]
      rfl
    · cases e3
/-! loops -/
def forT {S R : Type} (step : S → α → Option (S ⊕ R)) : List α → S → Option (S ⊕ R)
  | [], s => some (.inl s)
  | a :: l, s => (step s a).bind fun r => match r with
    | .inl s' => forT step l s'
    | .inr r => some (.inr r)
def forN {S : Type} (step : S → α → Option S) : List α → S → Option S
  | [], s => some s
  | a :: l, s => (step s a).bind fun s' => forN step l s'
theorem forL_n {g : SG} {body : SS} {S : Type} {E : S → Lo} {ea : α → D} {step : S → α → Option S} (hb : ∀ s a, ∃ ρ1, g (ea a) (E s) = some ρ1 ∧ TB true true vs ρ1 body (fun z => .fall (E z)) (step s a)) : ∀ (l : List α) (s : S) (h : List Int) (r : S), forN step l s = some r →
    forL g (sFg vs body) (l.map ea) (E s) h = some (.nx (E r), h)
  | [], _, _, r, e => by cases e; rfl
  | a :: l, s, h, r, e => by
    obtain ⟨ρ1, h1, h2⟩ := hb s a
    obtain ⟨s', e1, e⟩ := ob e
    refine (mb_go (ml_go h1)).trans ?_
    obtain ⟨ρ', e2, ⟨_, e3⟩ | ⟨_, e3⟩⟩ := h2 h s' e1
    · exact (mb_go (a := Fl.nx (E s')) ((mb_go e3).trans (by rw [← e2]; rfl))).trans (forL_n hb l s' h r e)
    · exact (mb_go (a := Fl.ct (E s')) ((mb_go e3).trans (by rw [← e2]; rfl))).trans (forL_n hb l s' h r e)
def finT {S R : Type} (E : S → Lo) (er : R → D) : S ⊕ R → Fl
  | .inl s => .nx (E s)
  | .inr r => .ret (er r)
theorem forL_t {g : SG} {body : SS} {S R : Type} {E : S → Lo} {er : R → D} {ea : α → D} {step : S → α → Option (S ⊕ R)} (hb : ∀ s a, ∃ ρ1, g (ea a) (E s) = some ρ1 ∧ TB true true vs ρ1 body (decS E er) (step s a)) : ∀ (l : List α) (s : S) (h : List Int) (r : S ⊕ R), forT step l s = some r →
    forL g (sFg vs body) (l.map ea) (E s) h = some (finT E er r, h)
  | [], _, _, r, e => by cases e; rfl
  | a :: l, s, h, r, e => by
    obtain ⟨ρ1, h1, h2⟩ := hb s a
    obtain ⟨s', e1, e⟩ := ob e
    refine (mb_go (ml_go h1)).trans ?_
    cases s' with
    | inr r' =>
      cases e
      have e3 : body ρ1 h = some (.ret (er r'), h) := h2 h _ e1
      exact (mb_go (a := Fl.ret (er r')) (mb_go e3)).trans rfl
    | inl s' =>
      obtain ⟨ρ', e2, ⟨_, e3⟩ | ⟨_, e3⟩⟩ := (show FinO true true vs (body ρ1 h) h (.fall (E s')) from h2 h _ e1)
      · exact (mb_go (a := Fl.nx (E s')) ((mb_go e3).trans (by rw [← e2]; rfl))).trans (forL_t hb l s' h r e)
      · exact (mb_go (a := Fl.ct (E s')) ((mb_go e3).trans (by rw [← e2]; rfl))).trans (forL_t hb l s' h r e)
theorem tb_for {vb : List Nat} {fi : SI} {g : SG} {body rest : SS} {S : Type} {E : S → Lo} {ea : α → D} {step : S → α → Option S} {l : Option (List α)} {k : S → Option Z} (s0 : S) (he : wipeD ρ vb = E s0) (hi : TIt (wipeD ρ vb) fi ea l)
    (hb : ∀ s a, ∃ ρ1, g (ea a) (E s) = some ρ1 ∧ TB true true vb ρ1 body (fun z => .fall (E z)) (step s a)) (h2 : ∀ z, TB nk ck vs (E z) rest dec (k z)) :
    TB nk ck vs ρ (sSeq (sPre vb (sFor fi g (sFg vb body))) rest) dec (l.bind fun l => (forN step l s0).bind k) := fun h z e => by
  obtain ⟨l, e1, e⟩ := ob e
  obtain ⟨s, e2, e⟩ := ob e
  refine tb_to (h2 s) e (mb_go (a := Fl.nx (E s)) ?_)
  refine (mb_go (hi h l e1)).trans ?_
  rw [he]
  exact forL_n hb l s0 h s e2
theorem tb_forR {vb : List Nat} {fi : SI} {g : SG} {body rest : SS} {S R : Type} {E : S → Lo} {er : R → D} {ea : α → D} {step : S → α → Option (S ⊕ R)} {l : Option (List α)} {k : S → Option Z} (inj : R → Z) (s0 : S) (he : wipeD ρ vb = E s0) (hi : TIt (wipeD ρ vb) fi ea l)
    (hb : ∀ s a, ∃ ρ1, g (ea a) (E s) = some ρ1 ∧ TB true true vb ρ1 body (decS E er) (step s a)) (h2 : ∀ z, TB nk ck vs (E z) rest dec (k z)) (hd : ∀ r, dec (inj r) = .ret (er r) := by intro _; rfl) :
    TB nk ck vs ρ (sSeq (sPre vb (sFor fi g (sFg vb body))) rest) dec (l.bind fun l => (forT step l s0).bind (sumK k inj)) := fun h z e => by
  obtain ⟨l, e1, e⟩ := ob e
  obtain ⟨s, e2, e⟩ := ob e
  have e0 : sPre vb (sFor fi g (sFg vb body)) ρ h = some (finT E er s, h) := by
    refine (mb_go (hi h l e1)).trans ?_
    rw [he]
    exact forL_t hb l s0 h s e2
  cases s with
  | inr r => cases e; exact fin_ret (hd r) (mb_go (a := Fl.ret (er r)) e0)
  | inl s => exact tb_to (h2 s) e (mb_go (a := Fl.nx (E s)) e0)
def whT {S R : Type} (c : S → Option Bool) (step : S → Option (S ⊕ R)) : Nat → S → Option (S ⊕ R)
  | 0, _ => none
  | n + 1, s => (c s).bind fun b => if b = true then (step s).bind fun r => match r with
      | .inl s' => whT c step n s'
      | .inr r => some (.inr r)
    else some (.inl s)
def whN {S : Type} (c : S → Option Bool) (step : S → Option S) : Nat → S → Option S
  | 0, _ => none
  | n + 1, s => (c s).bind fun b => if b = true then (step s).bind fun s' => whN c step n s' else some s
theorem whL_n {c : ST} {body : SS} {S : Type} {E : S → Lo} {tc : S → Option Bool} {step : S → Option S} (hc : ∀ s, TT (E s) c (tc s)) (hb : ∀ s, TB true true vs (E s) body (fun z => .fall (E z)) (step s)) : ∀ (n : Nat) (s : S) (h : List Int) (r : S), whN tc step n s = some r →
    whL c (sFg vs body) n (E s) h = some (.nx (E r), h)
  | 0, _, _, r, e => by cases e
  | n + 1, s, h, r, e => by
    obtain ⟨b, e1, e⟩ := ob e
    refine (mb_go (hc s h b e1)).trans ?_
    cases b with
    | false => cases e; rfl
    | true =>
      obtain ⟨s', e2, e⟩ := ob (show ((step s).bind fun s' => whN tc step n s') = some r from e)
      obtain ⟨ρ', e3, ⟨_, e4⟩ | ⟨_, e4⟩⟩ := hb s h s' e2
      · exact (mb_go (a := Fl.nx (E s')) ((mb_go e4).trans (by rw [← e3]; rfl))).trans (whL_n hc hb n s' h r e)
      · exact (mb_go (a := Fl.ct (E s')) ((mb_go e4).trans (by rw [← e3]; rfl))).trans (whL_n hc hb n s' h r e)
theorem whL_t {c : ST} {body : SS} {S R : Type} {E : S → Lo} {er : R → D} {tc : S → Option Bool} {step : S → Option (S ⊕ R)} (hc : ∀ s, TT (E s) c (tc s)) (hb : ∀ s, TB true true vs (E s) body (decS E er) (step s)) : ∀ (n : Nat) (s : S) (h : List Int) (r : S ⊕ R), whT tc step n s = some r →
    whL c (sFg vs body) n (E s) h = some (finT E er r, h)
  | 0, _, _, r, e => by cases e
  | n + 1, s, h, r, e => by
    obtain ⟨b, e1, e⟩ := ob e
    refine (mb_go (hc s h b e1)).trans ?_
    cases b with
    | false => cases e; rfl
    | true =>
      obtain ⟨s', e2, e⟩ := ob (show ((step s).bind fun r => match r with
        | .inl s' => whT tc step n s'
        | .inr r => some (.inr r)) = some r from e)
      cases s' with
      | inr r' =>
        cases e
        have e3 : body (E s) h = some (.ret (er r'), h) := hb s h _ e2
        exact (mb_go (a := Fl.ret (er r')) (mb_go e3)).trans rfl
      | inl s' =>
        obtain ⟨ρ', e3, ⟨_, e4⟩ | ⟨_, e4⟩⟩ := (show FinO true true vs (body (E s) h) h (.fall (E s')) from hb s h _ e2)
        · exact (mb_go (a := Fl.nx (E s')) ((mb_go e4).trans (by rw [← e3]; rfl))).trans (whL_t hc hb n s' h r e)
        · exact (mb_go (a := Fl.ct (E s')) ((mb_go e4).trans (by rw [← e3]; rfl))).trans (whL_t hc hb n s' h r e)
theorem tb_wh {vb : List Nat} {n : Nat} {c : ST} {body rest : SS} {S : Type} {E : S → Lo} {tc : S → Option Bool} {step : S → Option S} {k : S → Option Z} (s0 : S) (he : wipeD ρ vb = E s0) (hc : ∀ s, TT (E s) c (tc s))
    (hb : ∀ s, TB true true vb (E s) body (fun z => .fall (E z)) (step s)) (h2 : ∀ z, TB nk ck vs (E z) rest dec (k z)) :
    TB nk ck vs ρ (sSeq (sPre vb (sWh n c (sFg vb body))) rest) dec ((whN tc step n s0).bind k) := fun h z e => by
  obtain ⟨s, e2, e⟩ := ob e
  refine tb_to (h2 s) e (mb_go (a := Fl.nx (E s)) ?_)
  show whL c (sFg vb body) n (wipeD ρ vb) h = _
  rw [he]
  exact whL_n hc hb n s0 h s e2
theorem tb_whR {vb : List Nat} {n : Nat} {c : ST} {body rest : SS} {S R : Type} {E : S → Lo} {er : R → D} {tc : S → Option Bool} {step : S → Option (S ⊕ R)} {k : S → Option Z} (inj : R → Z) (s0 : S) (he : wipeD ρ vb = E s0) (hc : ∀ s, TT (E s) c (tc s))
    (hb : ∀ s, TB true true vb (E s) body (decS E er) (step s)) (h2 : ∀ z, TB nk ck vs (E z) rest dec (k z)) (hd : ∀ r, dec (inj r) = .ret (er r) := by intro _; rfl) :
    TB nk ck vs ρ (sSeq (sPre vb (sWh n c (sFg vb body))) rest) dec ((whT tc step n s0).bind (sumK k inj)) := fun h z e => by
  obtain ⟨s, e2, e⟩ := ob e
  have e0 : sPre vb (sWh n c (sFg vb body)) ρ h = some (finT E er s, h) := by
    show whL c (sFg vb body) n (wipeD ρ vb) h = _
    rw [he]
    exact whL_t hc hb n s0 h s e2
  cases s with
  | inr r => cases e; exact fin_ret (hd r) (mb_go (a := Fl.ret (er r)) e0)
  | inl s => exact tb_to (h2 s) e (mb_go (a := Fl.nx (E s)) e0)
/-! lists that grow -/
theorem tb_app {f : SE} {i : Nat} {rest : SS} {e : α → D} {ta : Option α} {k : α → Option Z} (l : List α) (hr : rd i ρ = some (eL e l)) (h1 : TV ρ f e ta) (h2 : ∀ a, TB nk ck vs (ρ.set i (some (eL e (l ++ [a])))) rest dec (k a)) :
    TB nk ck vs ρ (sSeq (sApp i f) rest) dec (ta.bind fun a => if l.length ≤ big then k a else none) := fun h z ez => by
  obtain ⟨a, e1, ez⟩ := ob ez
  split at ez
  · rename_i c
    have e2 : appAt i (e a) ρ = some (ρ.set i (some (eL e (l ++ [a])))) := by
      unfold appAt
      rw [hr]
      show (if (l.map e).length ≤ big then some (ρ.set i (some (PyData.list (l.map e ++ [e a])))) else none) = _
      rw [List.length_map, if_pos c]
      unfold eL
      rw [List.map_append]
      rfl
    exact tb_to (h2 a) ez (mb_go (a := Fl.nx (ρ.set i (some (eL e (l ++ [a]))))) ((mb_go (h1 h a e1)).trans (mb_go (ml_go e2))))
  · cases ez
theorem tb_ext {f : SE} {i : Nat} {rest : SS} {e : α → D} {ta : Option (List α)} {k : List α → Option Z} (l : List α) (hr : rd i ρ = some (eL e l)) (h1 : TV ρ f (eL e) ta) (h2 : ∀ a, TB nk ck vs (ρ.set i (some (eL e (l ++ a)))) rest dec (k a)) :
    TB nk ck vs ρ (sSeq (sExt i f) rest) dec (ta.bind fun a => if l.length + a.length ≤ big then k a else none) := fun h z ez => by
  obtain ⟨a, e1, ez⟩ := ob ez
  split at ez
  · rename_i c
    have e2 : extAt i (eL e a) ρ = some (ρ.set i (some (eL e (l ++ a)))) := by
      unfold extAt
      rw [hr]
      show (if (l.map e).length + (a.map e).length ≤ big then some (ρ.set i (some (PyData.list (l.map e ++ a.map e)))) else none) = _
      rw [List.length_map, List.length_map, if_pos c]
      unfold eL
      rw [List.map_append]
    exact tb_to (h2 a) ez (mb_go (a := Fl.nx (ρ.set i (some (eL e (l ++ a))))) ((mb_go (h1 h a e1)).trans (mb_go (ml_go e2))))
  · cases ez
theorem tb_pop {i : Nat} {rest : SS} {e : α → D} {k : Option Z} (l : List α) (hr : rd i ρ = some (eL e l)) (h2 : TB nk ck vs (ρ.set i (some (eL e l.dropLast))) rest dec k) :
    TB nk ck vs ρ (sSeq (sPop i) rest) dec (if l.isEmpty = true then none else k) := fun h z ez => by
  split at ez
  · cases ez
  · rename_i c
    have e2 : popAt i ρ = some (ρ.set i (some (eL e l.dropLast))) := by
      unfold popAt
      rw [hr]
      cases l with
      | nil => exact absurd rfl c
      | cons a l =>
        show (if (a :: l).map e = [] then none else some (ρ.set i (some (PyData.list ((a :: l).map e).dropLast)))) = some _
        rw [if_neg (by simp)]
        unfold eL
        rw [List.map_dropLast]
    exact tb_to h2 ez (mb_go (a := Fl.nx (ρ.set i (some (eL e l.dropLast)))) (mb_go (ml_go e2)))
theorem tb_ins {f g : SE} {i : Nat} {rest : SS} {e : α → D} {tk : Option Int} {ta : Option α} {k : Int → α → Option Z} (l : List α) (hr : rd i ρ = some (eL e l)) (h0 : TV ρ f eI tk) (h1 : TV ρ g e ta) (h2 : ∀ j a, TB nk ck vs (ρ.set i (some (eL e (l.take j.toNat ++ [a] ++ l.drop j.toNat)))) rest dec (k j a)) :
    TB nk ck vs ρ (sSeq (sIns i (aCons f (aCons g aNil))) rest) dec (tk.bind fun j => ta.bind fun a => if l.length ≤ big ∧ 0 ≤ j ∧ j < 2 ^ 62 then k j a else none) := fun h z ez => by
  obtain ⟨j, e1, ez⟩ := ob ez
  obtain ⟨a, e2, ez⟩ := ob ez
  split at ez
  · rename_i c
    have e3 : insAt i [eI j, e a] ρ = some (ρ.set i (some (eL e (l.take j.toNat ++ [a] ++ l.drop j.toNat)))) := by
      unfold insAt
      rw [hr]
      show (if (l.map e).length ≤ big ∧ 0 ≤ j ∧ j < 2 ^ 62 then some (ρ.set i (some (PyData.list ((l.map e).take j.toNat ++ [e a] ++ (l.map e).drop j.toNat)))) else none) = _
      rw [List.length_map, if_pos c]
      unfold eL
      rw [List.map_append, List.map_append, List.map_take, List.map_drop]
      rfl
    exact tb_to (h2 j a) ez (mb_go (a := Fl.nx _) ((mb_go (ta2 h0 h1 e1 e2)).trans (mb_go (ml_go e3))))
  · cases ez
/-- a def whose body always hands back -/
theorem fn_t {s : SS} {er : Z → D} {t : Option Z} (h : TB false false [] ρ s (fun r => .ret (er r)) t) (z : Z) (e : t = some z) : retOf (s ρ []) = some (er z) := by
  rw [show s ρ [] = some (.ret (er z), []) from h [] z e]
  rfl
end
end PL

namespace K41
open PySem PySem.Spec PyProof.Rows L2 PL
def topS (i : Nat) : Stmt := PySem.Challenge.pw_pegfigures_k41_whole_sails_as_figures.main.body.getD i (.Pass ⟨0, 0, 0, 0⟩)
abbrev s_common : Stmt := topS 1
abbrev N_common : List Str := ["a", "b"]
theorem sc_common : FnScope N_common ["a", "b"] (defScope s_common) := ⟨rfl, rfl, rfl, by decide +kernel, rfl, by decide +kernel, by decide +kernel⟩
abbrev s_cross : Stmt := topS 3
abbrev N_cross : List Str := ["a", "b", "c"]
theorem sc_cross : FnScope N_cross ["a", "b", "c"] (defScope s_cross) := ⟨rfl, rfl, rfl, by decide +kernel, rfl, by decide +kernel, by decide +kernel⟩
abbrev s_figure_of : Stmt := topS 4
abbrev N_figure_of : List Str := ["pegs", "rows", "low", "high"]
theorem sc_figure_of : FnScope N_figure_of ["pegs"] (defScope s_figure_of) := ⟨rfl, rfl, rfl, by decide +kernel, rfl, by decide +kernel, by decide +kernel⟩
abbrev s_half : Stmt := topS 5
abbrev N_half : List Str := ["rows", "found", "peg"]
theorem sc_half : FnScope N_half ["rows"] (defScope s_half) := ⟨rfl, rfl, rfl, by decide +kernel, rfl, by decide +kernel, by decide +kernel⟩
abbrev s_edges : Stmt := topS 6
abbrev N_edges : List Str := ["figure", "size", "k"]
theorem sc_edges : FnScope N_edges ["figure"] (defScope s_edges) := ⟨rfl, rfl, rfl, by decide +kernel, rfl, by decide +kernel, by decide +kernel⟩
abbrev s_double : Stmt := topS 7
abbrev N_double : List Str := ["figure", "a", "b"]
theorem sc_double : FnScope N_double ["figure"] (defScope s_double) := ⟨rfl, rfl, rfl, by decide +kernel, rfl, by decide +kernel, by decide +kernel⟩
abbrev s_rim : Stmt := topS 8
abbrev N_rim : List Str := ["figure", "total", "a", "b"]
theorem sc_rim : FnScope N_rim ["figure"] (defScope s_rim) := ⟨rfl, rfl, rfl, by decide +kernel, rfl, by decide +kernel, by decide +kernel⟩
abbrev s_inner : Stmt := topS 9
abbrev N_inner : List Str := ["figure"]
theorem sc_inner : FnScope N_inner ["figure"] (defScope s_inner) := ⟨rfl, rfl, rfl, by decide +kernel, rfl, by decide +kernel, by decide +kernel⟩
abbrev s_sail : Stmt := topS 11
abbrev N_sail : List Str := ["peg", "found", "far"]
theorem sc_sail : FnScope N_sail ["peg"] (defScope s_sail) := ⟨rfl, rfl, rfl, by decide +kernel, rfl, by decide +kernel, by decide +kernel⟩
abbrev s_next_corner : Stmt := topS 12
abbrev N_next_corner : List Str := ["here", "far", "best", "x", "y"]
theorem sc_next_corner : FnScope N_next_corner ["here", "far"] (defScope s_next_corner) := ⟨rfl, rfl, rfl, by decide +kernel, rfl, by decide +kernel, by decide +kernel⟩
abbrev s_joined : Stmt := topS 13
abbrev N_joined : List Str := ["pegs", "found", "k"]
theorem sc_joined : FnScope N_joined ["pegs"] (defScope s_joined) := ⟨rfl, rfl, rfl, by decide +kernel, rfl, by decide +kernel, by decide +kernel⟩
abbrev s_primitive : Stmt := topS 14
abbrev N_primitive : List Str := ["peg", "size"]
theorem sc_primitive : FnScope N_primitive ["peg"] (defScope s_primitive) := ⟨rfl, rfl, rfl, by decide +kernel, rfl, by decide +kernel, by decide +kernel⟩
abbrev s_size_of : Stmt := topS 15
abbrev N_size_of : List Str := ["one", "two"]
theorem sc_size_of : FnScope N_size_of ["one", "two"] (defScope s_size_of) := ⟨rfl, rfl, rfl, by decide +kernel, rfl, by decide +kernel, by decide +kernel⟩
abbrev s__law_cell : Stmt := topS 17
abbrev N__law_cell : List Str := ["script", "k"]
theorem sc__law_cell : FnScope N__law_cell ["script", "k"] (defScope s__law_cell) := ⟨rfl, rfl, rfl, by decide +kernel, rfl, by decide +kernel, by decide +kernel⟩
abbrev s__law_draws : Stmt := topS 18
abbrev N__law_draws : List Str := ["cell", "amount", "rows", "left", "k", "blended"]
theorem sc__law_draws : FnScope N__law_draws ["cell", "amount"] (defScope s__law_draws) := ⟨rfl, rfl, rfl, by decide +kernel, rfl, by decide +kernel, by decide +kernel⟩
abbrev s__law_pool : Stmt := topS 19
abbrev N__law_pool : List Str := ["script", "rows", "k"]
theorem sc__law_pool : FnScope N__law_pool ["script"] (defScope s__law_pool) := ⟨rfl, rfl, rfl, by decide +kernel, rfl, by decide +kernel, by decide +kernel⟩
abbrev s__law_pick : Stmt := topS 20
abbrev N__law_pick : List Str := ["pool", "amount", "at", "turn"]
theorem sc__law_pick : FnScope N__law_pick ["pool", "amount"] (defScope s__law_pick) := ⟨rfl, rfl, rfl, by decide +kernel, rfl, by decide +kernel, by decide +kernel⟩
abbrev s__law_gcd : Stmt := topS 21
abbrev N__law_gcd : List Str := ["a", "b"]
theorem sc__law_gcd : FnScope N__law_gcd ["a", "b"] (defScope s__law_gcd) := ⟨rfl, rfl, rfl, by decide +kernel, rfl, by decide +kernel, by decide +kernel⟩
abbrev s_law : Stmt := topS 22
abbrev N_law : List Str := ["script", "pool", "peg", "row", "k", "a", "b", "part", "steps"]
theorem sc_law : FnScope N_law ["script"] (defScope s_law) := ⟨rfl, rfl, rfl, by decide +kernel, rfl, by decide +kernel, by decide +kernel⟩
structure Tx (K : PySem.W.Frag) (mg : Str → Option Value) where
  a_common : Addr
  d_common : FuncData
  F_common : Fun K "common" "common" s_common a_common d_common
  m_common : mg "common" = some (.ref a_common)
  b_common : L2.Binds K d_common ["a", "b"] []
  a_cross : Addr
  d_cross : FuncData
  F_cross : Fun K "cross" "cross" s_cross a_cross d_cross
  m_cross : mg "cross" = some (.ref a_cross)
  b_cross : L2.Binds K d_cross ["a", "b", "c"] []
  a_figure_of : Addr
  d_figure_of : FuncData
  F_figure_of : Fun K "figure_of" "figure_of" s_figure_of a_figure_of d_figure_of
  m_figure_of : mg "figure_of" = some (.ref a_figure_of)
  b_figure_of : L2.Binds K d_figure_of ["pegs"] []
  a_half : Addr
  d_half : FuncData
  F_half : Fun K "half" "half" s_half a_half d_half
  m_half : mg "half" = some (.ref a_half)
  b_half : L2.Binds K d_half ["rows"] []
  a_edges : Addr
  d_edges : FuncData
  F_edges : Fun K "edges" "edges" s_edges a_edges d_edges
  m_edges : mg "edges" = some (.ref a_edges)
  b_edges : L2.Binds K d_edges ["figure"] []
  a_double : Addr
  d_double : FuncData
  F_double : Fun K "double" "double" s_double a_double d_double
  m_double : mg "double" = some (.ref a_double)
  b_double : L2.Binds K d_double ["figure"] []
  a_rim : Addr
  d_rim : FuncData
  F_rim : Fun K "rim" "rim" s_rim a_rim d_rim
  m_rim : mg "rim" = some (.ref a_rim)
  b_rim : L2.Binds K d_rim ["figure"] []
  a_inner : Addr
  d_inner : FuncData
  F_inner : Fun K "inner" "inner" s_inner a_inner d_inner
  m_inner : mg "inner" = some (.ref a_inner)
  b_inner : L2.Binds K d_inner ["figure"] []
  a_sail : Addr
  d_sail : FuncData
  F_sail : Fun K "sail" "sail" s_sail a_sail d_sail
  m_sail : mg "sail" = some (.ref a_sail)
  b_sail : L2.Binds K d_sail ["peg"] []
  a_next_corner : Addr
  d_next_corner : FuncData
  F_next_corner : Fun K "next_corner" "next_corner" s_next_corner a_next_corner d_next_corner
  m_next_corner : mg "next_corner" = some (.ref a_next_corner)
  b_next_corner : L2.Binds K d_next_corner ["here", "far"] []
  a_joined : Addr
  d_joined : FuncData
  F_joined : Fun K "joined" "joined" s_joined a_joined d_joined
  m_joined : mg "joined" = some (.ref a_joined)
  b_joined : L2.Binds K d_joined ["pegs"] []
  a_primitive : Addr
  d_primitive : FuncData
  F_primitive : Fun K "primitive" "primitive" s_primitive a_primitive d_primitive
  m_primitive : mg "primitive" = some (.ref a_primitive)
  b_primitive : L2.Binds K d_primitive ["peg"] []
  a_size_of : Addr
  d_size_of : FuncData
  F_size_of : Fun K "size_of" "size_of" s_size_of a_size_of d_size_of
  m_size_of : mg "size_of" = some (.ref a_size_of)
  b_size_of : L2.Binds K d_size_of ["one", "two"] []
  a__law_cell : Addr
  d__law_cell : FuncData
  F__law_cell : Fun K "_law_cell" "_law_cell" s__law_cell a__law_cell d__law_cell
  m__law_cell : mg "_law_cell" = some (.ref a__law_cell)
  b__law_cell : L2.Binds K d__law_cell ["script", "k"] []
  a__law_draws : Addr
  d__law_draws : FuncData
  F__law_draws : Fun K "_law_draws" "_law_draws" s__law_draws a__law_draws d__law_draws
  m__law_draws : mg "_law_draws" = some (.ref a__law_draws)
  b__law_draws : L2.Binds K d__law_draws ["cell", "amount"] []
  a__law_pool : Addr
  d__law_pool : FuncData
  F__law_pool : Fun K "_law_pool" "_law_pool" s__law_pool a__law_pool d__law_pool
  m__law_pool : mg "_law_pool" = some (.ref a__law_pool)
  b__law_pool : L2.Binds K d__law_pool ["script"] []
  a__law_pick : Addr
  d__law_pick : FuncData
  F__law_pick : Fun K "_law_pick" "_law_pick" s__law_pick a__law_pick d__law_pick
  m__law_pick : mg "_law_pick" = some (.ref a__law_pick)
  b__law_pick : L2.Binds K d__law_pick ["pool", "amount"] []
  a__law_gcd : Addr
  d__law_gcd : FuncData
  F__law_gcd : Fun K "_law_gcd" "_law_gcd" s__law_gcd a__law_gcd d__law_gcd
  m__law_gcd : mg "_law_gcd" = some (.ref a__law_gcd)
  b__law_gcd : L2.Binds K d__law_gcd ["a", "b"] []
  a_law : Addr
  d_law : FuncData
  F_law : Fun K "law" "law" s_law a_law d_law
  m_law : mg "law" = some (.ref a_law)
  b_law : L2.Binds K d_law ["script"] []
  z_abs : mg "abs" = none
  z_int : mg "int" = none
  z_len : mg "len" = none
  z_max : mg "max" = none
  z_min : mg "min" = none
  z_range : mg "range" = none
  z_set : mg "set" = none
  z_sorted : mg "sorted" = none
  z_sum : mg "sum" = none
  z_tuple : mg "tuple" = none
variable {P : Program} {w : World} {K : PySem.W.Frag} {mg : Str → Option Value} {base : Heap}
def l_common_0 (nn : Nat) : SS := (aPar2 0 1 (aCons (eVar 1) (aCons (eOp gMod (eVar 0) (eVar 1)) aNil)))
def b_common (nn : Nat) : SS := (sSeq (aPar2 0 1 (aCons (eCall fAbs (aCons (eVar 0) aNil)) (aCons (eCall fAbs (aCons (eVar 1) aNil)) aNil))) (sSeq (sPre [] (sWh nn (tV (eOp gGt (eVar 1) (eC (.int 0)))) (sFg [] (l_common_0 nn)))) (sRet (eVar 0))))
def F_common : List D → Option D := fun ds => retOf (b_common big (startD 2 ds) [])
theorem ok_common (T : Tx K mg) : FnOk P w K mg base CX0 1 T.a_common T.d_common ["a", "b"] (spF K F_common 2) :=
  fn_ok (N := N_common) (oe := []) (fb := b_common) T.F_common sc_common rfl (fun nn cdv A outer s H E hr => (ess_cons (es_par 0 1 rfl sc_common.nd ns0 ns0 (ea_cons (ev_callB (hv := hv_abs) cs_abs T.z_abs (ea_cons (ev_var 0) ea_nil)) (ea_cons (ev_callB (hv := hv_abs) cs_abs T.z_abs (ea_cons (ev_var 1) ea_nil)) ea_nil))) (ess_cons (es_pre [] (es_wh nn .never (et_cmp os_gt (ev_var 1) ev_int) (ess_fg [] (ess_one (es_par 0 1 rfl sc_common.nd ns0 ns0 (ea_cons (ev_var 1) (ea_cons (ev_op os_mod (ev_var 0) (ev_var 1)) ea_nil))))))) (ess_one (es_ret (ev_var 0)))))) (fun ds r hl e => ⟨big, e⟩)
def b_cross (nn : Nat) : SS := (sRet (eOp gSub (eOp gMul (eOp gSub (eOp gIx (eVar 1) (eC (.int 0))) (eOp gIx (eVar 0) (eC (.int 0)))) (eOp gSub (eOp gIx (eVar 2) (eC (.int 1))) (eOp gIx (eVar 0) (eC (.int 1))))) (eOp gMul (eOp gSub (eOp gIx (eVar 1) (eC (.int 1))) (eOp gIx (eVar 0) (eC (.int 1)))) (eOp gSub (eOp gIx (eVar 2) (eC (.int 0))) (eOp gIx (eVar 0) (eC (.int 0)))))))
def F_cross : List D → Option D := fun ds => retOf (b_cross big (startD 3 ds) [])
theorem ok_cross (T : Tx K mg) : FnOk P w K mg base CX0 1 T.a_cross T.d_cross ["a", "b", "c"] (spF K F_cross 3) :=
  fn_ok (N := N_cross) (oe := []) (fb := b_cross) T.F_cross sc_cross rfl (fun nn cdv A outer s H E hr => (ess_one (es_ret (ev_op os_sub (ev_op os_mul (ev_op os_sub (ev_ix xs_ix (ev_var 1) ev_int) (ev_ix xs_ix (ev_var 0) ev_int)) (ev_op os_sub (ev_ix xs_ix (ev_var 2) ev_int) (ev_ix xs_ix (ev_var 0) ev_int))) (ev_op os_mul (ev_op os_sub (ev_ix xs_ix (ev_var 1) ev_int) (ev_ix xs_ix (ev_var 0) ev_int)) (ev_op os_sub (ev_ix xs_ix (ev_var 2) ev_int) (ev_ix xs_ix (ev_var 0) ev_int))))))) (fun ds r hl e => ⟨big, e⟩)
def b_edges (nn : Nat) : SS := (sSeq (sSet (gN 1) (eCall fLen (aCons (eVar 0) aNil))) (sRet (eIf (tV (eOp gGt (eVar 1) (eC (.int 1)))) (eComp (iRg rg1 (aCons (eVar 1) aNil)) (gN 2) tYs (eTup (aCons (eOp gIx (eVar 0) (eVar 2)) (aCons (eOp gIx (eVar 0) (eOp gMod (eOp gAdd (eVar 2) (eC (.int 1))) (eVar 1))) aNil))) [2]) (eLst aNil))))
def F_edges : List D → Option D := fun ds => retOf (b_edges big (startD 3 ds) [])
theorem ok_edges (T : Tx K mg) : FnOk P w K mg base CX0 1 T.a_edges T.d_edges ["figure"] (spF K F_edges 1) :=
  fn_ok (N := N_edges) (oe := []) (fb := b_edges) T.F_edges sc_edges rfl (fun nn cdv A outer s H E hr => (ess_cons (es_set 1 sc_edges.nd ns0 (ev_callB (hv := hv_len) cs_len T.z_len (ea_cons (ev_var 0) ea_nil))) (ess_one (es_ret (ev_if (et_cmp os_gt (ev_var 1) ev_int) (ev_of_eo (eo_lc (own := [("k", 2)]) rfl sc_edges.nd (ei_rg1 T.z_range (ea_cons (ev_var 1) ea_nil)) (blkOk_by (own := [("k", 2)]) (N := N_edges) (sc := defScope s_edges) (by decide +kernel)) (fun _ _ _ _ _ => (eg_name 2 sc_edges.nd ns0)) (fun _ _ _ _ _ => ets_nil) (fun _ _ _ _ _ => (ev_tup (ea_cons (ev_ix xs_ix (ev_var 0) (ev_var 2)) (ea_cons (ev_ix xs_ix (ev_var 0) (ev_op os_mod (ev_op os_add (ev_var 2) ev_int) (ev_var 1))) ea_nil)))) nsl0)) (ev_of_eo (eo_lst ea_nil))))))) (fun ds r hl e => ⟨big, e⟩)
def b__law_cell (nn : Nat) : SS := (sSeq (sIf (tV (eOp gLt (eVar 1) (eCall fLen (aCons (eVar 0) aNil)))) (sRet (eOp gIx (eVar 0) (eVar 1))) sNil) (sRet (eC (.int 0))))
def F__law_cell : List D → Option D := fun ds => retOf (b__law_cell big (startD 2 ds) [])
theorem ok__law_cell (T : Tx K mg) : FnOk P w K mg base CX0 1 T.a__law_cell T.d__law_cell ["script", "k"] (spF K F__law_cell 2) :=
  fn_ok (N := N__law_cell) (oe := []) (fb := b__law_cell) T.F__law_cell sc__law_cell rfl (fun nn cdv A outer s H E hr => (ess_cons (es_if (et_cmp (os_lt hr.units) (ev_var 1) (ev_callB (hv := hv_len) cs_len T.z_len (ea_cons (ev_var 0) ea_nil))) (ess_one (es_ret (ev_ix xs_ix (ev_var 0) (ev_var 1)))) ess_nil) (ess_one (es_ret ev_int)))) (fun ds r hl e => ⟨big, e⟩)
def l__law_draws_0 (nn : Nat) : SS := (sIf (tAn (tV (eOp gGe (eVar 0) (eOp gPow (eC (.int 10)) (eC (.int 18))))) (tV (eOp gGt (eVar 3) (eC (.int 0))))) (sSeq (sApp 2 (eOp gMod (eCall fInt (aCons (eVar 3) aNil)) (eC (.int 4096)))) (sSet (gN 3) (eOp gFdiv (eVar 3) (eC (.int 4096))))) (sSeq (sSet (gN 5) (eOp gMod (eCall fInt (aCons (eOp gAdd (eOp gMul (eVar 0) (eC (.int 48271))) (eOp gMul (eOp gAdd (eVar 4) (eC (.int 1))) (eC (.int 69621)))) aNil)) (eC (.int 2147483647)))) (sSeq (sSet (gN 5) (eOp gMod (eCall fInt (aCons (eOp gAdd (eOp gAdd (eOp gMul (eVar 5) (eVar 5)) (eOp gMul (eVar 5) (eC (.int 16807)))) (eOp gMul (eVar 4) (eC (.int 7919)))) aNil)) (eC (.int 2147483629)))) (sSeq (sSet (gN 5) (eOp gMod (eCall fInt (aCons (eOp gAdd (eOp gAdd (eOp gMul (eVar 5) (eVar 5)) (eVar 0)) (eOp gMul (eC (.int 13)) (eVar 4))) aNil)) (eC (.int 2147483587)))) (sApp 2 (eOp gMod (eOp gFdiv (eVar 5) (eC (.int 7))) (eC (.int 4096))))))))
def b__law_draws (nn : Nat) : SS := (sSeq (sSet (gN 2) (eLst aNil)) (sSeq (sSet (gN 3) (eVar 0)) (sSeq (sFor (iRg rg1 (aCons (eVar 1) aNil)) (gN 4) (l__law_draws_0 nn)) (sRet (eVar 2)))))
def F__law_draws : List D → Option D := fun ds => retOf (b__law_draws big (startD 6 ds) [])
theorem ok__law_draws (T : Tx K mg) : FnOk P w K mg base CX0 1 T.a__law_draws T.d__law_draws ["cell", "amount"] (spF K F__law_draws 2) :=
  fn_ok (N := N__law_draws) (oe := []) (fb := b__law_draws) T.F__law_draws sc__law_draws rfl (fun nn cdv A outer s H E hr => (ess_cons (es_setO 2 sc__law_draws.nd ns0 (eo_lst ea_nil)) (ess_cons (es_set 3 sc__law_draws.nd ns0 (ev_var 0)) (ess_cons (es_for .never rfl (ei_rg1 T.z_range (ea_cons (ev_var 1) ea_nil)) (eg_name 4 sc__law_draws.nd ns0) (ess_one (es_if (et_w (ew_and (et_cmp os_ge (ev_var 0) (ev_op os_pow ev_int ev_int)) (ew_and1 (et_cmp os_gt (ev_var 3) ev_int)))) (ess_cons (es_app 2 (ev_op os_mod (ev_callTy (hv := hv_int) cs_int T.z_int (ea_cons (ev_var 3) ea_nil)) ev_int)) (ess_one (es_set 3 sc__law_draws.nd ns0 (ev_op os_fdiv (ev_var 3) ev_int)))) (ess_cons (es_set 5 sc__law_draws.nd ns0 (ev_op os_mod (ev_callTy (hv := hv_int) cs_int T.z_int (ea_cons (ev_op os_add (ev_op os_mul (ev_var 0) ev_int) (ev_op os_mul (ev_op os_add (ev_var 4) ev_int) ev_int)) ea_nil)) ev_int)) (ess_cons (es_set 5 sc__law_draws.nd ns0 (ev_op os_mod (ev_callTy (hv := hv_int) cs_int T.z_int (ea_cons (ev_op os_add (ev_op os_add (ev_op os_mul (ev_var 5) (ev_var 5)) (ev_op os_mul (ev_var 5) ev_int)) (ev_op os_mul (ev_var 4) ev_int)) ea_nil)) ev_int)) (ess_cons (es_set 5 sc__law_draws.nd ns0 (ev_op os_mod (ev_callTy (hv := hv_int) cs_int T.z_int (ea_cons (ev_op os_add (ev_op os_add (ev_op os_mul (ev_var 5) (ev_var 5)) (ev_var 0)) (ev_op os_mul ev_int (ev_var 4))) ea_nil)) ev_int)) (ess_one (es_app 2 (ev_op os_mod (ev_op os_fdiv (ev_var 5) ev_int) ev_int))))))))) (ess_fz [] (ess_one (es_ret (ev_var 2)))))))) (fun ds r hl e => ⟨big, e⟩)
def l__law_gcd_0 (nn : Nat) : SS := (aPar2 0 1 (aCons (eVar 1) (aCons (eOp gMod (eCall fInt (aCons (eVar 0) aNil)) (eVar 1)) aNil)))
def b__law_gcd (nn : Nat) : SS := (sSeq (aPar2 0 1 (aCons (eCall fAbs (aCons (eVar 0) aNil)) (aCons (eCall fAbs (aCons (eVar 1) aNil)) aNil))) (sSeq (sPre [] (sWh nn (tV (eOp gNe (eVar 1) (eC (.int 0)))) (sFg [] (l__law_gcd_0 nn)))) (sRet (eVar 0))))
def F__law_gcd : List D → Option D := fun ds => retOf (b__law_gcd big (startD 2 ds) [])
theorem ok__law_gcd (T : Tx K mg) : FnOk P w K mg base CX0 1 T.a__law_gcd T.d__law_gcd ["a", "b"] (spF K F__law_gcd 2) :=
  fn_ok (N := N__law_gcd) (oe := []) (fb := b__law_gcd) T.F__law_gcd sc__law_gcd rfl (fun nn cdv A outer s H E hr => (ess_cons (es_par 0 1 rfl sc__law_gcd.nd ns0 ns0 (ea_cons (ev_callB (hv := hv_abs) cs_abs T.z_abs (ea_cons (ev_var 0) ea_nil)) (ea_cons (ev_callB (hv := hv_abs) cs_abs T.z_abs (ea_cons (ev_var 1) ea_nil)) ea_nil))) (ess_cons (es_pre [] (es_wh nn .never (et_cmp (os_ne hr.units) (ev_var 1) ev_int) (ess_fg [] (ess_one (es_par 0 1 rfl sc__law_gcd.nd ns0 ns0 (ea_cons (ev_var 1) (ea_cons (ev_op os_mod (ev_callTy (hv := hv_int) cs_int T.z_int (ea_cons (ev_var 0) ea_nil)) (ev_var 1)) ea_nil))))))) (ess_one (es_ret (ev_var 0)))))) (fun ds r hl e => ⟨big, e⟩)
def l_half_0 (nn : Nat) : SS := (sPop 1)
def l_half_1 (nn : Nat) : SS := (sSeq (sPre [] (sWh nn (tAn (tV (eOp gGt (eCall fLen (aCons (eVar 1) aNil)) (eC (.int 1)))) (tV (eOp gLe (eCall F_cross (aCons (eOp gIx (eVar 1) (eUn gNeg (eC (.int 2)))) (aCons (eOp gIx (eVar 1) (eUn gNeg (eC (.int 1)))) (aCons (eVar 2) aNil)))) (eC (.int 0))))) (sFg [] (l_half_0 nn)))) (sApp 1 (eVar 2)))
def b_half (nn : Nat) : SS := (sSeq (sSet (gN 1) (eLst aNil)) (sSeq (sPre [2] (sFor (iSeq (eVar 0)) (gN 2) (sFg [2] (l_half_1 nn)))) (sRet (eVar 1))))
def F_half : List D → Option D := fun ds => retOf (b_half big (startD 3 ds) [])
theorem ok_half (T : Tx K mg) : FnOk P w K mg base CX0 2 T.a_half T.d_half ["rows"] (spF K F_half 1) :=
  fn_ok (N := N_half) (oe := []) (fb := b_half) T.F_half sc_half rfl (fun nn cdv A outer s H E hr => (ess_cons (es_setO 1 sc_half.nd ns0 (eo_lst ea_nil)) (ess_cons (es_pre [2] (es_for .never rfl (ei_seq (ev_var 0)) (eg_name 2 sc_half.nd ns0) (ess_fg [2] (ess_cons (es_pre [] (es_wh nn .never (et_all (et_w (ew_and (et_cmp os_gt (ev_callB (hv := hv_len) cs_len T.z_len (ea_cons (ev_var 1) ea_nil)) ev_int) (ew_and1 (et_cmp (os_le hr.units) (ev_call (ok_cross T) (hr.mono (by decide)) T.m_cross T.F_cross.kp T.b_cross (ea_cons (ev_ix xs_ix (ev_var 1) (ev_un us_neg ev_int)) (ea_cons (ev_ix xs_ix (ev_var 1) (ev_un us_neg ev_int)) (ea_cons (ev_var 2) ea_nil))) rfl (al_cons (al_cons (al_cons al_nil)))) ev_int))))) (ess_fg [] (ess_one (es_pop 1))))) (ess_one (es_app 1 (ev_var 2))))))) (ess_fz [] (ess_one (es_ret (ev_var 1))))))) (fun ds r hl e => ⟨big, e⟩)
def b_double (nn : Nat) : SS := (sRet (eCall fSum (aCons (eComp (iSeq (eCall F_edges (aCons (eVar 0) aNil))) (gT 2 (gsCons (gN 1) (gsCons (gN 2) gsNil))) tYs (eCall F_cross (aCons (eOp gIx (eVar 0) (eC (.int 0))) (aCons (eVar 1) (aCons (eVar 2) aNil)))) [1, 2]) aNil)))
def F_double : List D → Option D := fun ds => retOf (b_double big (startD 3 ds) [])
theorem ok_double (T : Tx K mg) : FnOk P w K mg base CX0 2 T.a_double T.d_double ["figure"] (spF K F_double 1) :=
  fn_ok (N := N_double) (oe := []) (fb := b_double) T.F_double sc_double rfl (fun nn cdv A outer s H E hr => (ess_one (es_ret (ev_callB (hv := hv_sum) (cs_sum rfl) T.z_sum (ea_cons (ev_of_eo (eo_lc (own := [("a", 1), ("b", 2)]) rfl sc_double.nd (ei_seq (ev_call (ok_edges T) (hr.mono (by decide)) T.m_edges T.F_edges.kp T.b_edges (ea_cons (ev_var 0) ea_nil) rfl (al_cons al_nil))) (blkOk_by (own := [("a", 1), ("b", 2)]) (N := N_double) (sc := defScope s_double) (by decide +kernel)) (fun _ _ _ _ _ => (eg_tup rfl (egs_cons (eg_name 1 sc_double.nd ns0) (egs_cons (eg_name 2 sc_double.nd ns0) egs_nil)))) (fun _ _ _ _ _ => ets_nil) (fun _ _ _ _ _ => (ev_call (ok_cross T) (hr.mono (by decide)) T.m_cross T.F_cross.kp T.b_cross (ea_cons (ev_ix xs_ix (ev_var 0) ev_int) (ea_cons (ev_var 1) (ea_cons (ev_var 2) ea_nil))) rfl (al_cons (al_cons (al_cons al_nil))))) nsl0)) ea_nil))))) (fun ds r hl e => ⟨big, e⟩)
def b_rim (nn : Nat) : SS := (sSeq (sSet (gN 1) (eCall fSum (aCons (eComp (iSeq (eCall F_edges (aCons (eVar 0) aNil))) (gT 2 (gsCons (gN 2) (gsCons (gN 3) gsNil))) tYs (eCall F_common (aCons (eOp gSub (eOp gIx (eVar 3) (eC (.int 0))) (eOp gIx (eVar 2) (eC (.int 0)))) (aCons (eOp gSub (eOp gIx (eVar 3) (eC (.int 1))) (eOp gIx (eVar 2) (eC (.int 1)))) aNil))) [2, 3]) aNil))) (sSeq (sIf (tV (eOp gEq (eCall fLen (aCons (eVar 0) aNil)) (eC (.int 1)))) (sRet (eC (.int 1))) sNil) (sRet (eIf (tV (eOp gGt (eCall fLen (aCons (eVar 0) aNil)) (eC (.int 2)))) (eVar 1) (eOp gAdd (eOp gFdiv (eVar 1) (eC (.int 2))) (eC (.int 1)))))))
def F_rim : List D → Option D := fun ds => retOf (b_rim big (startD 4 ds) [])
theorem ok_rim (T : Tx K mg) : FnOk P w K mg base CX0 2 T.a_rim T.d_rim ["figure"] (spF K F_rim 1) :=
  fn_ok (N := N_rim) (oe := []) (fb := b_rim) T.F_rim sc_rim rfl (fun nn cdv A outer s H E hr => (ess_cons (es_set 1 sc_rim.nd ns0 (ev_callB (hv := hv_sum) (cs_sum rfl) T.z_sum (ea_cons (ev_of_eo (eo_lc (own := [("a", 2), ("b", 3)]) rfl sc_rim.nd (ei_seq (ev_call (ok_edges T) (hr.mono (by decide)) T.m_edges T.F_edges.kp T.b_edges (ea_cons (ev_var 0) ea_nil) rfl (al_cons al_nil))) (blkOk_by (own := [("a", 2), ("b", 3)]) (N := N_rim) (sc := defScope s_rim) (by decide +kernel)) (fun _ _ _ _ _ => (eg_tup rfl (egs_cons (eg_name 2 sc_rim.nd ns0) (egs_cons (eg_name 3 sc_rim.nd ns0) egs_nil)))) (fun _ _ _ _ _ => ets_nil) (fun _ _ _ _ _ => (ev_call (ok_common T) (hr.mono (by decide)) T.m_common T.F_common.kp T.b_common (ea_cons (ev_op os_sub (ev_ix xs_ix (ev_var 3) ev_int) (ev_ix xs_ix (ev_var 2) ev_int)) (ea_cons (ev_op os_sub (ev_ix xs_ix (ev_var 3) ev_int) (ev_ix xs_ix (ev_var 2) ev_int)) ea_nil)) rfl (al_cons (al_cons al_nil)))) nsl0)) ea_nil))) (ess_cons (es_if (et_cmp (os_eq hr.units) (ev_callB (hv := hv_len) cs_len T.z_len (ea_cons (ev_var 0) ea_nil)) ev_int) (ess_one (es_ret ev_int)) ess_nil) (ess_one (es_ret (ev_if (et_cmp os_gt (ev_callB (hv := hv_len) cs_len T.z_len (ea_cons (ev_var 0) ea_nil)) ev_int) (ev_var 1) (ev_op os_add (ev_op os_fdiv (ev_var 1) ev_int) ev_int))))))) (fun ds r hl e => ⟨big, e⟩)
def l_next_corner_0 (nn : Nat) : SS := (sFg [4] (sIf (tAn (tV (eOp gEq (eUn gNeg (eCall F_cross (aCons (eTup (aCons (eC (.int 0)) (aCons (eC (.int 0)) aNil))) (aCons (eVar 0) (aCons (eTup (aCons (eVar 3) (aCons (eVar 4) aNil))) aNil))))) (eC (.int 1)))) (tV (eOp gGe (eCall F_cross (aCons (eTup (aCons (eC (.int 0)) (aCons (eC (.int 0)) aNil))) (aCons (eVar 1) (aCons (eTup (aCons (eVar 3) (aCons (eVar 4) aNil))) aNil)))) (eC (.int 0))))) (sFg [4] (sIf (tOu (tV (eOp gIs (eVar 2) (eC .none))) (tV (eOp gLt (eTup (aCons (eOp gAdd (eVar 3) (eVar 4)) (aCons (eVar 3) aNil))) (eTup (aCons (eOp gAdd (eOp gIx (eVar 2) (eC (.int 0))) (eOp gIx (eVar 2) (eC (.int 1)))) (aCons (eOp gIx (eVar 2) (eC (.int 0))) aNil)))))) (sSet (gN 2) (eTup (aCons (eVar 3) (aCons (eVar 4) aNil)))) sNil)) sNil))
def l_next_corner_1 (nn : Nat) : SS := (sPre [4] (sFor (iRg rg2 (aCons (eC (.int 0)) (aCons (eOp gAdd (eOp gIx (eVar 1) (eC (.int 1))) (eC (.int 1))) aNil))) (gN 4) (sFg [4] (l_next_corner_0 nn))))
def b_next_corner (nn : Nat) : SS := (sSeq (sSet (gN 2) (eC .none)) (sSeq (sPre [3, 4] (sFor (iRg rg2 (aCons (eC (.int 0)) (aCons (eOp gAdd (eOp gIx (eVar 1) (eC (.int 0))) (eC (.int 1))) aNil))) (gN 3) (sFg [3, 4] (l_next_corner_1 nn)))) (sRet (eVar 2))))
def F_next_corner : List D → Option D := fun ds => retOf (b_next_corner big (startD 5 ds) [])
theorem ok_next_corner (T : Tx K mg) : FnOk P w K mg base CX0 2 T.a_next_corner T.d_next_corner ["here", "far"] (spF K F_next_corner 2) :=
  fn_ok (N := N_next_corner) (oe := []) (fb := b_next_corner) T.F_next_corner sc_next_corner rfl (fun nn cdv A outer s H E hr => (ess_cons (es_set 2 sc_next_corner.nd ns0 ev_non) (ess_cons (es_pre [3, 4] (es_for .never rfl (ei_rg2 T.z_range (ea_cons ev_int (ea_cons (ev_op os_add (ev_ix xs_ix (ev_var 1) ev_int) ev_int) ea_nil))) (eg_name 3 sc_next_corner.nd ns0) (ess_fg [3, 4] (ess_one (es_pre [4] (es_for .never rfl (ei_rg2 T.z_range (ea_cons ev_int (ea_cons (ev_op os_add (ev_ix xs_ix (ev_var 1) ev_int) ev_int) ea_nil))) (eg_name 4 sc_next_corner.nd ns0) (ess_fg [4] (ess_one (es_fg [4] (es_if (et_w (ew_and (et_cmp (os_eq hr.units) (ev_un us_neg (ev_call (ok_cross T) (hr.mono (by decide)) T.m_cross T.F_cross.kp T.b_cross (ea_cons (ev_tup (ea_cons ev_int (ea_cons ev_int ea_nil))) (ea_cons (ev_var 0) (ea_cons (ev_tup (ea_cons (ev_var 3) (ea_cons (ev_var 4) ea_nil))) ea_nil))) rfl (al_cons (al_cons (al_cons al_nil))))) ev_int) (ew_and1 (et_cmp os_ge (ev_call (ok_cross T) (hr.mono (by decide)) T.m_cross T.F_cross.kp T.b_cross (ea_cons (ev_tup (ea_cons ev_int (ea_cons ev_int ea_nil))) (ea_cons (ev_var 1) (ea_cons (ev_tup (ea_cons (ev_var 3) (ea_cons (ev_var 4) ea_nil))) ea_nil))) rfl (al_cons (al_cons (al_cons al_nil)))) ev_int)))) (ess_one (es_fg [4] (es_if (et_w (ew_or (et_cmp os_is (ev_var 2) ev_non) (ew_or1 (et_cmp (os_lt hr.units) (ev_tup (ea_cons (ev_op os_add (ev_var 3) (ev_var 4)) (ea_cons (ev_var 3) ea_nil))) (ev_tup (ea_cons (ev_op os_add (ev_ix xs_ix (ev_var 2) ev_int) (ev_ix xs_ix (ev_var 2) ev_int)) (ea_cons (ev_ix xs_ix (ev_var 2) ev_int) ea_nil))))))) (ess_one (es_set 2 sc_next_corner.nd ns0 (ev_tup (ea_cons (ev_var 3) (ea_cons (ev_var 4) ea_nil))))) ess_nil))) ess_nil)))))))))) (ess_one (es_ret (ev_var 2)))))) (fun ds r hl e => ⟨big, e⟩)
def l_joined_0 (nn : Nat) : SS := (sFg [2] (sIf (tOu (tV (eOp gEq (eVar 2) (eOp gSub (eCall fLen (aCons (eVar 0) aNil)) (eC (.int 1))))) (tV (eOp gNe (eCall F_cross (aCons (eOp gIx (eVar 1) (eUn gNeg (eC (.int 1)))) (aCons (eOp gIx (eVar 0) (eVar 2)) (aCons (eOp gIx (eVar 0) (eOp gAdd (eVar 2) (eC (.int 1)))) aNil)))) (eC (.int 0))))) (sApp 1 (eOp gIx (eVar 0) (eVar 2))) sNil))
def b_joined (nn : Nat) : SS := (sSeq (sSet (gN 1) (eLst (aCons (eOp gIx (eVar 0) (eC (.int 0))) aNil))) (sSeq (sPre [2] (sFor (iRg rg2 (aCons (eC (.int 1)) (aCons (eCall fLen (aCons (eVar 0) aNil)) aNil))) (gN 2) (sFg [2] (l_joined_0 nn)))) (sRet (eNL (eCall fTup (aCons (eVar 1) aNil))))))
def F_joined : List D → Option D := fun ds => retOf (b_joined big (startD 3 ds) [])
theorem ok_joined (T : Tx K mg) : FnOk P w K mg base CX0 2 T.a_joined T.d_joined ["pegs"] (spF K F_joined 1) :=
  fn_ok (N := N_joined) (oe := []) (fb := b_joined) T.F_joined sc_joined rfl (fun nn cdv A outer s H E hr => (ess_cons (es_setO 1 sc_joined.nd ns0 (eo_lst (ea_cons (ev_ix xs_ix (ev_var 0) ev_int) ea_nil))) (ess_cons (es_pre [2] (es_for .never rfl (ei_rg2 T.z_range (ea_cons ev_int (ea_cons (ev_callB (hv := hv_len) cs_len T.z_len (ea_cons (ev_var 0) ea_nil)) ea_nil))) (eg_name 2 sc_joined.nd ns0) (ess_fg [2] (ess_one (es_fg [2] (es_if (et_all (et_w (ew_or (et_cmp (os_eq hr.units) (ev_var 2) (ev_op os_sub (ev_callB (hv := hv_len) cs_len T.z_len (ea_cons (ev_var 0) ea_nil)) ev_int)) (ew_or1 (et_cmp (os_ne hr.units) (ev_call (ok_cross T) (hr.mono (by decide)) T.m_cross T.F_cross.kp T.b_cross (ea_cons (ev_ix xs_ix (ev_var 1) (ev_un us_neg ev_int)) (ea_cons (ev_ix xs_ix (ev_var 0) (ev_var 2)) (ea_cons (ev_ix xs_ix (ev_var 0) (ev_op os_add (ev_var 2) ev_int)) ea_nil))) rfl (al_cons (al_cons (al_cons al_nil)))) ev_int))))) (ess_one (es_app 1 (ev_ix xs_ix (ev_var 0) (ev_var 2)))) ess_nil)))))) (ess_one (es_ret (ev_all (ev_callTy (hv := hv_tuple) cs_tup T.z_tuple (ea_cons (ev_var 1) ea_nil)))))))) (fun ds r hl e => ⟨big, e⟩)
def b_primitive (nn : Nat) : SS := (sSeq (sSet (gN 1) (eCall F_common (aCons (eOp gIx (eVar 0) (eC (.int 0))) (aCons (eOp gIx (eVar 0) (eC (.int 1))) aNil)))) (sRet (eTup (aCons (eOp gFdiv (eOp gIx (eVar 0) (eC (.int 0))) (eVar 1)) (aCons (eOp gFdiv (eOp gIx (eVar 0) (eC (.int 1))) (eVar 1)) aNil)))))
def F_primitive : List D → Option D := fun ds => retOf (b_primitive big (startD 2 ds) [])
theorem ok_primitive (T : Tx K mg) : FnOk P w K mg base CX0 2 T.a_primitive T.d_primitive ["peg"] (spF K F_primitive 1) :=
  fn_ok (N := N_primitive) (oe := []) (fb := b_primitive) T.F_primitive sc_primitive rfl (fun nn cdv A outer s H E hr => (ess_cons (es_set 1 sc_primitive.nd ns0 (ev_call (ok_common T) (hr.mono (by decide)) T.m_common T.F_common.kp T.b_common (ea_cons (ev_ix xs_ix (ev_var 0) ev_int) (ea_cons (ev_ix xs_ix (ev_var 0) ev_int) ea_nil)) rfl (al_cons (al_cons al_nil)))) (ess_one (es_ret (ev_tup (ea_cons (ev_op os_fdiv (ev_ix xs_ix (ev_var 0) ev_int) (ev_var 1)) (ea_cons (ev_op os_fdiv (ev_ix xs_ix (ev_var 0) ev_int) (ev_var 1)) ea_nil))))))) (fun ds r hl e => ⟨big, e⟩)
def b_size_of (nn : Nat) : SS := (sRet (eCall fAbs (aCons (eCall F_cross (aCons (eTup (aCons (eC (.int 0)) (aCons (eC (.int 0)) aNil))) (aCons (eVar 0) (aCons (eVar 1) aNil)))) aNil)))
def F_size_of : List D → Option D := fun ds => retOf (b_size_of big (startD 2 ds) [])
theorem ok_size_of (T : Tx K mg) : FnOk P w K mg base CX0 2 T.a_size_of T.d_size_of ["one", "two"] (spF K F_size_of 2) :=
  fn_ok (N := N_size_of) (oe := []) (fb := b_size_of) T.F_size_of sc_size_of rfl (fun nn cdv A outer s H E hr => (ess_one (es_ret (ev_callB (hv := hv_abs) cs_abs T.z_abs (ea_cons (ev_call (ok_cross T) (hr.mono (by decide)) T.m_cross T.F_cross.kp T.b_cross (ea_cons (ev_tup (ea_cons ev_int (ea_cons ev_int ea_nil))) (ea_cons (ev_var 0) (ea_cons (ev_var 1) ea_nil))) rfl (al_cons (al_cons (al_cons al_nil)))) ea_nil))))) (fun ds r hl e => ⟨big, e⟩)
def b_figure_of (nn : Nat) : SS := (sSeq (sSet (gN 1) (eUn gSSet (eVar 0))) (sSeq (sIf (tV (eOp gLt (eCall fLen (aCons (eVar 1) aNil)) (eC (.int 3)))) (sRet (eCall fTup (aCons (eVar 1) aNil))) sNil) (sSeq (aPar2 2 3 (aCons (eCall F_half (aCons (eVar 1) aNil)) (aCons (eCall F_half (aCons (eUn gRev (eVar 1)) aNil)) aNil))) (sRet (eCall fTup (aCons (eOp gAdd (eSl (eVar 2) oNo (oSo (eUn gNeg (eC (.int 1))))) (eSl (eVar 3) oNo (oSo (eUn gNeg (eC (.int 1)))))) aNil))))))
def F_figure_of : List D → Option D := fun ds => retOf (b_figure_of big (startD 4 ds) [])
theorem ok_figure_of (T : Tx K mg) : FnOk P w K mg base CX0 3 T.a_figure_of T.d_figure_of ["pegs"] (spF K F_figure_of 1) :=
  fn_ok (N := N_figure_of) (oe := []) (fb := b_figure_of) T.F_figure_of sc_figure_of rfl (fun nn cdv A outer s H E hr => (ess_cons (es_set 1 sc_figure_of.nd ns0 (ev_sset rfl hr.units T.z_sorted T.z_set (ev_var 0))) (ess_cons (es_if (et_cmp (os_lt hr.units) (ev_callB (hv := hv_len) cs_len T.z_len (ea_cons (ev_var 1) ea_nil)) ev_int) (ess_one (es_ret (ev_callTy (hv := hv_tuple) cs_tup T.z_tuple (ea_cons (ev_var 1) ea_nil)))) ess_nil) (ess_cons (es_par 2 3 rfl sc_figure_of.nd ns0 ns0 (ea_cons (ev_call (ok_half T) (hr.mono (by decide)) T.m_half T.F_half.kp T.b_half (ea_cons (ev_var 1) ea_nil) rfl (al_cons al_nil)) (ea_cons (ev_call (ok_half T) (hr.mono (by decide)) T.m_half T.F_half.kp T.b_half (ea_cons (ev_rev (ev_var 1)) ea_nil) rfl (al_cons al_nil)) ea_nil))) (ess_one (es_ret (ev_callTy (hv := hv_tuple) cs_tup T.z_tuple (ea_cons (ev_op os_add (ev_slice (ev_var 2) ep_no (ep_so (ev_un us_neg ev_int))) (ev_slice (ev_var 3) ep_no (ep_so (ev_un us_neg ev_int)))) ea_nil)))))))) (fun ds r hl e => ⟨big, e⟩)
def b_inner (nn : Nat) : SS := (sSeq (sIf (tV (eOp gLt (eCall fLen (aCons (eVar 0) aNil)) (eC (.int 3)))) (sRet (eC (.int 0))) sNil) (sRet (eOp gFdiv (eOp gAdd (eOp gSub (eCall F_double (aCons (eVar 0) aNil)) (eCall F_rim (aCons (eVar 0) aNil))) (eC (.int 2))) (eC (.int 2)))))
def F_inner : List D → Option D := fun ds => retOf (b_inner big (startD 1 ds) [])
theorem ok_inner (T : Tx K mg) : FnOk P w K mg base CX0 3 T.a_inner T.d_inner ["figure"] (spF K F_inner 1) :=
  fn_ok (N := N_inner) (oe := []) (fb := b_inner) T.F_inner sc_inner rfl (fun nn cdv A outer s H E hr => (ess_cons (es_if (et_cmp (os_lt hr.units) (ev_callB (hv := hv_len) cs_len T.z_len (ea_cons (ev_var 0) ea_nil)) ev_int) (ess_one (es_ret ev_int)) ess_nil) (ess_one (es_ret (ev_op os_fdiv (ev_op os_add (ev_op os_sub (ev_call (ok_double T) (hr.mono (by decide)) T.m_double T.F_double.kp T.b_double (ea_cons (ev_var 0) ea_nil) rfl (al_cons al_nil)) (ev_call (ok_rim T) (hr.mono (by decide)) T.m_rim T.F_rim.kp T.b_rim (ea_cons (ev_var 0) ea_nil) rfl (al_cons al_nil))) ev_int) ev_int))))) (fun ds r hl e => ⟨big, e⟩)
def l_sail_0 (nn : Nat) : SS := (sApp 1 (eNL (eCall F_next_corner (aCons (eOp gIx (eVar 1) (eUn gNeg (eC (.int 1)))) (aCons (eVar 2) aNil)))))
def b_sail (nn : Nat) : SS := (sSeq (sSet (gN 1) (eLst (aCons (eTup (aCons (eC (.int 0)) (aCons (eC (.int 1)) aNil))) aNil))) (sSeq (sSet (gN 2) (eCall F_primitive (aCons (eVar 0) aNil))) (sSeq (sPre [0] (sWh nn (tV (eOp gNe (eOp gIx (eVar 1) (eUn gNeg (eC (.int 1)))) (eVar 2))) (sFg [0] (l_sail_0 nn)))) (sRet (eNL (eCall F_joined (aCons (eVar 1) aNil)))))))
def F_sail : List D → Option D := fun ds => retOf (b_sail big (startD 3 ds) [])
theorem ok_sail (T : Tx K mg) : FnOk P w K mg base CX0 3 T.a_sail T.d_sail ["peg"] (spF K F_sail 1) :=
  fn_ok (N := N_sail) (oe := []) (fb := b_sail) T.F_sail sc_sail rfl (fun nn cdv A outer s H E hr => (ess_cons (es_setO 1 sc_sail.nd ns0 (eo_lst (ea_cons (ev_tup (ea_cons ev_int (ea_cons ev_int ea_nil))) ea_nil))) (ess_cons (es_set 2 sc_sail.nd ns0 (ev_call (ok_primitive T) (hr.mono (by decide)) T.m_primitive T.F_primitive.kp T.b_primitive (ea_cons (ev_var 0) ea_nil) rfl (al_cons al_nil))) (ess_cons (es_pre [0] (es_wh nn .never (et_all (et_cmp (os_ne hr.units) (ev_ix xs_ix (ev_var 1) (ev_un us_neg ev_int)) (ev_var 2))) (ess_fg [0] (ess_one (es_app 1 (ev_all (ev_call (ok_next_corner T) (hr.mono (by decide)) T.m_next_corner T.F_next_corner.kp T.b_next_corner (ea_cons (ev_ix xs_ix (ev_var 1) (ev_un us_neg ev_int)) (ea_cons (ev_var 2) ea_nil)) rfl (al_cons (al_cons al_nil))))))))) (ess_one (es_ret (ev_all (ev_call (ok_joined T) (hr.mono (by decide)) T.m_joined T.F_joined.kp T.b_joined (ea_cons (ev_var 1) ea_nil) rfl (al_cons al_nil))))))))) (fun ds r hl e => ⟨big, e⟩)
end K41

namespace K41
open PySem PySem.Spec PyProof.Rows L2 PL
variable {P : Program} {w : World} {K : PySem.W.Frag} {mg : Str → Option Value} {base : Heap}
abbrev G__law_pick : (List Int → Int → Int) → List D → M D := draw
theorem ok__law_pick (T : Tx K mg) : FnOk P w K mg base CX0 1 T.a__law_pick T.d__law_pick ["pool", "amount"] (spM K FAM draw 2) := by
  refine T.F__law_pick.ok sc__law_pick (fun vs H Q E h => h.1) (fun cdv A outer s H vs Q E hr h => ?_)
  obtain ⟨hv, Ω, vs', F, ds, r, h, h', hf, rfl, sF, da, orc, ocf, e, q⟩ := h
  match ds, vs', da, e with
  | [.int n], _, .cons (.int _) .nil, e =>
    obtain ⟨P0, R, C, rows, rfl, o1, o2, o3, n3, n2, l1, l2, hc, hn, q⟩ := pick_read hf sF orc ocf e q
    refine ⟨_, pss_cons (ps_set (i := 2) sc__law_pick.nd rfl (.inl rfl) (pe_ix ix_list (pe_ix ix_list (pv 0) pe_int (fun _ _ => rfl)) pe_int (fun _ _ => rfl)))
      (pss_cons (ps_asg (pe_op op_add (pv 2) pe_int) (pg_sub (pe_ix ix_list (pv 0) pe_int (fun _ _ => rfl)) pe_int set_list))
      (pss_cons (ps_set (i := 3) sc__law_pick.nd rfl (.inl rfl) (pe_op op_fdivN (pv 2) (pe_callB call_len_seq (by rfl) T.z_len hv_len (pa_cons (pe_ix ix_list (pv 0) pe_int (fun _ _ => rfl)) pa_nil))))
      (pss_one (ps_ret (pe_op op_modN (pe_callTy call_int1 (by rfl) T.z_int hv_int (pa_cons (pe_op op_add (pe_op op_add (pe_ix ix_list (pe_ix ix_list (pv 0) pe_int (fun _ _ => rfl))
        (pe_op op_modN (pv 2) (pe_callB call_len_seq (by rfl) T.z_len hv_len (pa_cons (pe_ix ix_list (pv 0) pe_int (fun _ _ => rfl)) pa_nil))) (fun _ _ => rfl)) (pe_op op_mul (pv 3) pe_int)) (pe_op op_mul (pv 3) (pv 2))) pa_nil)) (pv 1)))))), ?_⟩
    refine ⟨_, rfl, _, _, 1, _, rfl, rfl, SqL.of o1, atI1, _, _, 0, _, rfl, rfl, SqL.of o3, rfl, ?_⟩
    refine ⟨_, rfl, _, _, rfl, rfl, _, rfl, _, _, 1, _, rfl, rfl, SqL.of o1, atI1, _, _, 0, 0, rfl, rfl, o3, rfl, ?_⟩
    have p1 : (upd H C (.lst [.int ((h.length : Nat) + 1 : Int)])) Ω.adr = some (.lst [.ref R, .ref C]) := by rw [upd_ne n2]; exact o1
    have p2 : (upd H C (.lst [.int ((h.length : Nat) + 1 : Int)])) R = some (.lst (rows.map V.int)) := by rw [upd_ne n3]; exact o2
    have ll : (rows.map V.int).length = rows.length := by simp
    refine ⟨_, rfl, _, rfl, _, _, 0, _, rfl, rfl, SqL.of p1, atI0, _, _, rfl, .inl (SqL.of p2), _, _, rfl, rfl, ⟨by rw [ll]; omega, by rw [ll]; omega⟩, ?_⟩
    rw [← natdiv] at q
    have hm : h.length % rows.length < rows.length := Nat.mod_lt _ l1
    have gm : atI (rows.map V.int) ((h.length : Int).fmod (rows.length : Int)) = some (.int (rows.getD (h.length % rows.length) 0)) := by
      rw [natmod]
      refine atI_nat ?_
      rw [List.getElem?_map, List.getElem?_eq_getElem hm, List.getD_eq_getElem?_getD, List.getElem?_eq_getElem hm]
      rfl
    have hd : ((h.length / rows.length : Nat) : Int) ≤ (h.length : Nat) ∧ (0 : Int) ≤ ((h.length / rows.length : Nat) : Int) := ⟨by exact_mod_cast Nat.div_le_self _ _, Int.natCast_nonneg _⟩
    refine ⟨_, rfl, _, _, 0, _, rfl, rfl, SqL.of p1, atI0, _, rfl, _, rfl, _, _, 0, _, rfl, rfl, SqL.of p1, atI0, _, _, rfl, .inl (SqL.of p2), _, _, rfl, rfl, by rw [ll]; omega, _, _, _, _, rfl, rfl, SqL.of p2, by rw [ll]; exact gm, ?_⟩
    refine ⟨_, rfl, _, _, rfl, rfl, .inr ⟨by decide, by decide⟩, _, _, rfl, rfl, ?_⟩
    refine ⟨_, rfl, _, rfl, _, _, rfl, rfl, .inl ⟨by show _ < (Int.fdiv _ _); rw [ll, natdiv]; omega, by show (Int.fdiv _ _) < _; rw [ll, natdiv]; omega⟩, _, _, rfl, rfl, .inl ⟨_, rfl, _, rfl, _, _, rfl, rfl, by omega, ?_⟩⟩
    rw [ll]
    exact q
theorem cell_spec (ns : List Int) (k : Int) (hk : 0 ≤ k) : ∃ c, F__law_cell [.list (ns.map PyData.int), .int k] = some (.int c) := by
  unfold F__law_cell b__law_cell
  by_cases h : k < (ns.length : Int)
  · obtain ⟨j, rfl⟩ : ∃ j : Nat, k = j := ⟨k.toNat, by omega⟩
    have hj : j < ns.length := by omega
    refine ⟨ns[j], ?_⟩
    have e : atI (ns.map PyData.int) (j : Int) = some (PyData.int ns[j]) := by
      refine atI_nat ?_
      rw [List.getElem?_map, List.getElem?_eq_getElem hj]; rfl
    simp [sSeq, sIf, tV, eOp, eVar, eCall, aCons, aNil, rd, startD, mb, ml, mp, fLen, gLt, asB, sRet, gIx, e, retOf, h, hj]
  · refine ⟨0, ?_⟩
    simp [sSeq, sIf, tV, eOp, eVar, eCall, aCons, aNil, rd, startD, mb, ml, mp, fLen, gLt, asB, sRet, gIx, eC, sNil, retOf, h]
theorem draws_turn (c : Int) : ∀ (ds : List Int) (rs : List Int) (left : Int) (kk bb : Option D) (h : List Int), rs.length + ds.length ≤ 100 →
    ∃ (ns : List Int) (left' : Int) (kk' bb' : Option D), forL (gN 4) (sIf (tAn (tV (eOp gGe (eVar 0) (eOp gPow (eC (.int 10)) (eC (.int 18))))) (tV (eOp gGt (eVar 3) (eC (.int 0))))) (sSeq (sApp 2 (eOp gMod (eCall fInt (aCons (eVar 3) aNil)) (eC (.int 4096)))) (sSet (gN 3) (eOp gFdiv (eVar 3) (eC (.int 4096))))) (sSeq (sSet (gN 5) (eOp gMod (eCall fInt (aCons (eOp gAdd (eOp gMul (eVar 0) (eC (.int 48271))) (eOp gMul (eOp gAdd (eVar 4) (eC (.int 1))) (eC (.int 69621)))) aNil)) (eC (.int 2147483647)))) (sSeq (sSet (gN 5) (eOp gMod (eCall fInt (aCons (eOp gAdd (eOp gAdd (eOp gMul (eVar 5) (eVar 5)) (eOp gMul (eVar 5) (eC (.int 16807)))) (eOp gMul (eVar 4) (eC (.int 7919)))) aNil)) (eC (.int 2147483629)))) (sSeq (sSet (gN 5) (eOp gMod (eCall fInt (aCons (eOp gAdd (eOp gAdd (eOp gMul (eVar 5) (eVar 5)) (eVar 0)) (eOp gMul (eC (.int 13)) (eVar 4))) aNil)) (eC (.int 2147483587)))) (sApp 2 (eOp gMod (eOp gFdiv (eVar 5) (eC (.int 7))) (eC (.int 4096)))))))) (ds.map PyData.int) [some (.int c), some (.int 20), some (.list (rs.map PyData.int)), some (.int left), kk, bb] h
      = some (.nx [some (.int c), some (.int 20), some (.list (ns.map PyData.int)), some (.int left'), kk', bb'], h) ∧ ns.length = rs.length + ds.length := by
  intro ds
  induction ds with
  | nil => intro rs left kk bb h _; exact ⟨rs, left, kk, bb, rfl, by simp⟩
  | cons k ds ih =>
    intro rs left kk bb h hl
    have hb : rs.length ≤ big := by
      have : big = 1000000 := rfl
      simp at hl
      omega
    have hl' : ∀ x : Int, (rs ++ [x]).length + ds.length ≤ 100 := fun x => by simp at hl ⊢; omega
    have m1 : ∀ x : Int, -(2 ^ 64) < x.fmod 2147483647 ∧ x.fmod 2147483647 < 2 ^ 64 := fun x => by
      have a := Int.fmod_nonneg_of_pos x (show (0 : Int) < 2147483647 by decide)
      have b := Int.fmod_lt_of_pos x (show (0 : Int) < 2147483647 by decide)
      omega
    have m2 : ∀ x : Int, -(2 ^ 64) < x.fmod 2147483629 ∧ x.fmod 2147483629 < 2 ^ 64 := fun x => by
      have a := Int.fmod_nonneg_of_pos x (show (0 : Int) < 2147483629 by decide)
      have b := Int.fmod_lt_of_pos x (show (0 : Int) < 2147483629 by decide)
      omega
    by_cases hc : (1000000000000000000 : Int) ≤ c ∧ 0 < left
    · obtain ⟨ns, l', k', b', e, en⟩ := ih (rs ++ [left.fmod 4096]) (left.fdiv 4096) (some (.int k)) bb h (hl' _)
      refine ⟨ns, l', k', b', ?_, by rw [en]; simp; omega⟩
      rw [← e]
      simp [forL, gN, sIf, tAn, tV, eOp, eVar, eC, rd, mb, ml, mp, gGe, gPow, gGt, asB, hc.1, hc.2, sSeq, sApp, eCall, aCons, aNil, fInt, gMod, gFdiv, appAt, hb, sSet]
    · obtain ⟨x, ex⟩ : ∃ x : Int, x = ((((((c * 48271 + (k + 1) * 69621).fmod 2147483647) * ((c * 48271 + (k + 1) * 69621).fmod 2147483647) + ((c * 48271 + (k + 1) * 69621).fmod 2147483647) * 16807 + k * 7919).fmod 2147483629)) * (((((c * 48271 + (k + 1) * 69621).fmod 2147483647) * ((c * 48271 + (k + 1) * 69621).fmod 2147483647) + ((c * 48271 + (k + 1) * 69621).fmod 2147483647) * 16807 + k * 7919).fmod 2147483629)) + c + 13 * k).fmod 2147483587 := ⟨_, rfl⟩
      obtain ⟨ns, l', k', b', e, en⟩ := ih (rs ++ [(x.fdiv 7).fmod 4096]) left (some (.int k)) (some (.int x)) h (hl' _)
      refine ⟨ns, l', k', b', ?_, by rw [en]; simp; omega⟩
      rw [← e, ex]
      have t : tAn (tV (eOp gGe (eVar 0) (eOp gPow (eC (.int 10)) (eC (.int 18))))) (tV (eOp gGt (eVar 3) (eC (.int 0)))) [some (PyData.int c), some (.int 20), some (.list (rs.map PyData.int)), some (.int left), some (.int k), bb] h = some (false, h) := by
        by_cases h1 : (1000000000000000000 : Int) ≤ c
        · have h2 : ¬ 0 < left := fun z => hc ⟨h1, z⟩
          simp [tAn, tV, eOp, eVar, eC, rd, mb, ml, mp, gGe, gPow, gGt, asB, h1, h2]
        · simp [tAn, tV, eOp, eVar, eC, rd, mb, ml, mp, gGe, gPow, gGt, asB, h1]
      simp only [List.map_cons, forL, gN, mb_ml, List.set, sIf]
      rw [mb_mb_eq t, if_neg Bool.false_ne_true]
      simp [eOp, eVar, eC, rd, mb, ml, mp, sSeq, sApp, eCall, aCons, aNil, fInt, gMod_ok, gFdiv_ok, gAdd_i, gMul_r (i := c) (j := 48271) (by decide), gMul_r (j := 69621) (by decide), gMul_r (m1 _), gMul_r (m2 _), gMul_r (j := 16807) (by decide), gMul_r (j := 7919) (by decide), gMul_l (i := 13) (by decide), appAt, hb, sSet, gN]
theorem draws_spec (c : Int) : ∃ rows : List Int, F__law_draws [.int c, .int 20] = some (.list (rows.map PyData.int)) ∧ rows.length = 20 := by
  obtain ⟨ns, l', k', b', e, en⟩ := draws_turn c ((List.range 20).map fun i => ((i : Nat) : Int)) [] c none none [] (by simp)
  refine ⟨ns, ?_, by rw [en]; simp⟩
  have er : rgD 0 20 = ((List.range 20).map fun i => ((i : Nat) : Int)).map PyData.int := by simp [rgD]
  unfold F__law_draws b__law_draws l__law_draws_0
  simp only [sSeq, sSet, eLst, aNil, eVar, startD, sFor, iRg, aCons, rg1]
  simp [mb, ml, mp, rd, gN, small62, er] at e ⊢
  rw [e]
  simp [sRet, eVar, rd, mb, ml, mp, retOf]
theorem ok__law_pool (T : Tx K mg) : FnOk P w K mg base CX0 2 T.a__law_pool T.d__law_pool ["script"] (spPool K) := by
  refine T.F__law_pool.ok sc__law_pool (fun vs H Q E h => by obtain ⟨a, ns, rfl, _⟩ := h; rfl) (fun cdv A outer s H vs Q E hr h => ?_)
  obtain ⟨a, ns, rfl, hS, hl, q⟩ := h
  refine ⟨_, pss_cons (ps_set (i := 1) sc__law_pool.nd rfl (.inl rfl) (pe_lst pa_nil))
    (pss_cons (ps_for PassesOwn.never rfl (pi_range1 (by rfl) T.z_range (pa_cons (pe_callB (call_min2 rfl) (by rfl) T.z_min hv_min (pa_cons pe_int (pa_cons (pe_callB (call_max2 rfl) (by rfl) T.z_max hv_max (pa_cons pe_int (pa_cons (pe_callB call_len_seq (by rfl) T.z_len hv_len (pa_cons (pv 0) pa_nil)) pa_nil))) pa_nil))) pa_nil))
        (pg_name (i := 2) sc__law_pool.nd rfl (.inl rfl))
      (pss_one (ps_set (i := 1) sc__law_pool.nd rfl (.inl rfl) (pe_op op_catS (pv 1) (pe_call (ok__law_draws T) (hr.mono (by decide)) (by rfl) T.m__law_draws T.F__law_draws.kp T.b__law_draws .nil pass0
        (pa_cons (pe_op op_add (pe_call (ok__law_cell T) (hr.mono (by decide)) (by rfl) T.m__law_cell T.F__law_cell.kp T.b__law_cell .nil pass0 (pa_cons (pv 0) (pa_cons (pv 2) pa_nil))) (pe_op op_mul pe_int (pv 2))) (pa_cons pe_int pa_nil)))))))
    (pss_one (ps_ret (pe_lst (pa_cons (pv 1) (pa_cons (pe_lst (pa_cons pe_int pa_nil)) pa_nil)))))), ?_⟩
  refine ⟨Nat.zero_le _, fun r0 nr0 => ?_⟩
  have s0 : Same H (upd H r0 (.lst [])) := same_upd nr0
  refine ⟨.ref a, rfl, a, _, rfl, .inl (s0.seq hS), _, _, rfl, _, _, rfl, _, rfl, ?_⟩
  have ll : (ns.map V.int).length = ns.length := by simp
  rw [ll]
  generalize hm : (if (if ((ns.length : Nat) : Int) > 1 then ((ns.length : Nat) : Int) else 1) < 4 then (if ((ns.length : Nat) : Int) > 1 then ((ns.length : Nat) : Int) else 1) else 4) = m
  have hm1 : 1 ≤ m ∧ m ≤ 4 := by
    rw [← hm]
    split <;> split <;> omega
  refine ⟨by omega, by omega, for_range (lo := 0) (n := m.toNat) (fun i σ H2 => ∃ r ns' y, σ = [some (.ref a), some (.ref r), y] ∧ SqL K H2 a (ns.map V.int) ∧ H2 r = some (.lst (ns'.map V.int)) ∧ ns'.length = 20 * i)
    ⟨r0, [], none, rfl, s0.seq hS, upd_same, rfl⟩ (fun i σ H2 hi hP => ?_) (fun σ H2 hP => ?_)⟩
  · obtain ⟨r, ns', y, rfl, hA, hR, hlen⟩ := hP
    -- the empty frozen heap with the script's list alone is not needed: all that stands is frozen for these calls
    have e1 : (0 : Int) + (i : Nat) = (i : Nat) := by omega
    obtain ⟨c, hc⟩ := cell_spec ns ((0 : Int) + (i : Nat)) (by omega)
    obtain ⟨rows, hd, hrl⟩ := draws_spec (c + 7 * ((0 : Int) + (i : Nat)))
    refine ⟨.ref r, rfl, .ref a, rfl, .int (0 + (i : Nat)), rfl, rfl, H2, _, _, Same.refl _, .cons (.lst hA (DpAll_ints ns)) (.cons (.int _) .nil), hc, fun v F3 H3 s3 d3 => ?_⟩
    cases d3
    refine ⟨.int (0 + (i : Nat)), rfl, _, _, rfl, rfl, .inl ⟨by decide, by decide⟩, _, _, rfl, rfl, rfl, H3, _, _, Same.refl _, .cons (.int _) (.cons (.int _) .nil), hd, fun v F4 H4 s4 d4 => ?_⟩
    cases d4 with
    | lst sq da =>
      have ev := DpAll_ints_inv da
      subst ev
      have k4 := s3.kp.trans s4.kp
      refine ⟨_, _, _, _, rfl, rfl, SqL.of (k4 _ _ hR), s4.fh.seq sq, ?_, fun p np => ?_⟩
      · have : sizeLine = 16777216 := sizeLine_eq
        simp only [List.length_map]
        omega
      · refine ⟨p, ns' ++ rows, some (.int (0 + (i : Nat))), rfl, (same_upd np).seq (k4.seq hA), ?_, ?_⟩
        · rw [upd_same, List.map_append]
        · rw [List.length_append]; omega
  · obtain ⟨r, ns', y, rfl, hA, hR, hlen⟩ := hP
    refine ⟨.ref r, rfl, by show 1 ≤ sizeLine; have : sizeLine = 16777216 := sizeLine_eq; omega, fun C nC => ?_⟩
    refine ⟨by show 2 ≤ sizeLine; have : sizeLine = 16777216 := sizeLine_eq; omega, fun P0 nP => ?_⟩
    have rC : r ≠ C := ne_of_none hR nC
    have rP : r ≠ P0 := fun z => by subst z; rw [upd_ne rC, hR] at nP; cases nP
    have CP : C ≠ P0 := fun z => by subst z; rw [upd_same] at nP; cases nP
    refine q _ P0 r C ns' upd_same ?_ ?_ (Ne.symm rP) (Ne.symm CP) rC ?_ ?_
    · rw [upd_ne rP, upd_ne rC]; exact hR
    · rw [upd_ne CP, upd_same]
    · rw [hlen]; omega
    · rw [hlen]; omega
end K41

namespace K41
open PySem PySem.Spec PyProof.Rows L2 PL
def x_common (a0 : Int) (b0 : Int) : Option Int :=
  (let a1 := (if a0 < 0 then -a0 else a0); (let b2 := (if b0 < 0 then -b0 else b0); ((whN (fun (s3 : (Int × Int)) => some ((decide (0 < s3.2)))) (fun (s3 : (Int × Int)) => (let a5 := s3.2; ((mdI s3.1 s3.2).bind fun b6 => some ((a5, b6))))) big ((a1, b2))).bind fun s3 => some s3.1)))
theorem tx_common (a0 : Int) (b0 : Int) (r0 : Int) (e0 : x_common a0 b0 = some r0) : F_common [eI a0, eI b0] = some (eI r0) :=
  have D : TB false false [] [some (eI a0), some (eI b0)] (b_common big) (fun r => .ret (eI r)) _ := (tb_par2 (ea := eI) (eb := eI) (tv_call1 (w1 tg_abs) (tv_var (e := eI) (a := a0))) (tv_call1 (w1 tg_abs) (tv_var (e := eI) (a := b0))) (fun a1 b2 => (tb_wh (E := (fun (s3 : (Int × Int)) => [some (eI s3.1), some (eI s3.2)])) ((a1, b2)) rfl (fun s3 => (tt_v (tv_op tg_gt (tv_var (e := eI) (a := s3.2)) (tv_c (e := eI) 0)))) (fun s3 => (tb_last (tb_par2 (ea := eI) (eb := eI) (tv_var (e := eI) (a := s3.2)) (tv_op tg_md (tv_var (e := eI) (a := s3.1)) (tv_var (e := eI) (a := s3.2))) (fun a5 b6 => (tb_nil ((a5, b6))))))) (fun s3 => (tb_retI (tv_var (e := eI) (a := s3.1)))))))
  fn_t D r0 (by unfold x_common at e0; (try simp only [bs] at e0); (try simp only [bs]); exact e0)
def x_cross (a0 : (Int × Int)) (b0 : (Int × Int)) (c0 : (Int × Int)) : Option Int :=
  (mulI ((b0.1 - a0.1)) ((c0.2 - a0.2))).bind fun z1 => (mulI ((b0.2 - a0.2)) ((c0.1 - a0.1))).bind fun z2 => some ((z1 - z2))
theorem tx_cross (a0 : (Int × Int)) (b0 : (Int × Int)) (c0 : (Int × Int)) (r0 : Int) (e0 : x_cross a0 b0 c0 = some r0) : F_cross [(eT2 eI eI) a0, (eT2 eI eI) b0, (eT2 eI eI) c0] = some (eI r0) :=
  have D : TB false false [] [some ((eT2 eI eI) a0), some ((eT2 eI eI) b0), some ((eT2 eI eI) c0)] (b_cross big) (fun r => .ret (eI r)) _ := (tb_retI (tv_op tg_sub (tv_op tg_mul (tv_op tg_sub (tv_k (g := fun (p : (Int × Int)) => some p.1) (ec := eI) (fun _ => rfl) (tv_var (e := (eT2 eI eI)) (a := b0))) (tv_k (g := fun (p : (Int × Int)) => some p.1) (ec := eI) (fun _ => rfl) (tv_var (e := (eT2 eI eI)) (a := a0)))) (tv_op tg_sub (tv_k (g := fun (p : (Int × Int)) => some p.2) (ec := eI) (fun _ => rfl) (tv_var (e := (eT2 eI eI)) (a := c0))) (tv_k (g := fun (p : (Int × Int)) => some p.2) (ec := eI) (fun _ => rfl) (tv_var (e := (eT2 eI eI)) (a := a0))))) (tv_op tg_mul (tv_op tg_sub (tv_k (g := fun (p : (Int × Int)) => some p.2) (ec := eI) (fun _ => rfl) (tv_var (e := (eT2 eI eI)) (a := b0))) (tv_k (g := fun (p : (Int × Int)) => some p.2) (ec := eI) (fun _ => rfl) (tv_var (e := (eT2 eI eI)) (a := a0)))) (tv_op tg_sub (tv_k (g := fun (p : (Int × Int)) => some p.1) (ec := eI) (fun _ => rfl) (tv_var (e := (eT2 eI eI)) (a := c0))) (tv_k (g := fun (p : (Int × Int)) => some p.1) (ec := eI) (fun _ => rfl) (tv_var (e := (eT2 eI eI)) (a := a0)))))))
  fn_t D r0 (by unfold x_cross at e0; (try simp only [bs] at e0); (try simp only [bs]); exact e0)
def x_edges (figure0 : (List (Int × Int))) : Option (List ((Int × Int) × (Int × Int))) :=
  (let size1 := (figure0.length : Int); (if ((decide (1 < size1))) = true then ((if small62 size1 = true then some (rgI 0 size1.toNat) else none)).bind fun z6 => (if z6.length ≤ big then cmp (fun k2 => some true) (fun k2 => (atI figure0 k2).bind fun z4 => ((mdI ((k2 + 1)) size1).bind fun z3 => atI figure0 z3).bind fun z5 => some ((z4, z5))) z6 else none) else some (([] : (List ((Int × Int) × (Int × Int)))))))
theorem tx_edges (figure0 : (List (Int × Int))) (r0 : (List ((Int × Int) × (Int × Int)))) (e0 : x_edges figure0 = some r0) : F_edges [(eVt (eT2 eI eI)) figure0] = some ((eL (eT2 (eT2 eI eI) (eT2 eI eI))) r0) :=
  have D : TB false false [] [some ((eVt (eT2 eI eI)) figure0), none, none] (b_edges big) (fun r => .ret ((eL (eT2 (eT2 eI eI) (eT2 eI eI))) r)) _ := (tb_set (ea := eI) (tv_call1 (w1 tg_lenV) (tv_var (e := (eVt (eT2 eI eI))) (a := figure0))) (fun size1 => (tb_retI (tv_if (tt_v (tv_op tg_gt (tv_var (e := eI) (a := size1)) (tv_c (e := eI) 1))) (tv_comp (ea := eI) (eb := (eT2 (eT2 eI eI) (eT2 eI eI))) (tit_r1 (tv_var (e := eI) (a := size1))) (fun k2 => ⟨_, rfl, tt_yes, (tv_t2 (tv_op tg_ixV (tv_var (e := (eVt (eT2 eI eI))) (a := figure0)) (tv_var (e := eI) (a := k2))) (tv_op tg_ixV (tv_var (e := (eVt (eT2 eI eI))) (a := figure0)) (tv_op tg_md (tv_op tg_add (tv_var (e := eI) (a := k2)) (tv_c (e := eI) 1)) (tv_var (e := eI) (a := size1)))))⟩)) (tv_lst (tas_nil (e := (eT2 (eT2 eI eI) (eT2 eI eI)))))))))
  fn_t D r0 (by unfold x_edges at e0; (try simp only [bs] at e0); (try simp only [bs]); exact e0)
def x__law_gcd (a0 : Int) (b0 : Int) : Option Int :=
  (let a1 := (if a0 < 0 then -a0 else a0); (let b2 := (if b0 < 0 then -b0 else b0); ((whN (fun (s3 : (Int × Int)) => some ((!decide (s3.2 = 0)))) (fun (s3 : (Int × Int)) => (let a5 := s3.2; ((mdI s3.1 s3.2).bind fun b6 => some ((a5, b6))))) big ((a1, b2))).bind fun s3 => some s3.1)))
theorem tx__law_gcd (a0 : Int) (b0 : Int) (r0 : Int) (e0 : x__law_gcd a0 b0 = some r0) : F__law_gcd [eI a0, eI b0] = some (eI r0) :=
  have D : TB false false [] [some (eI a0), some (eI b0)] (b__law_gcd big) (fun r => .ret (eI r)) _ := (tb_par2 (ea := eI) (eb := eI) (tv_call1 (w1 tg_abs) (tv_var (e := eI) (a := a0))) (tv_call1 (w1 tg_abs) (tv_var (e := eI) (a := b0))) (fun a1 b2 => (tb_wh (E := (fun (s3 : (Int × Int)) => [some (eI s3.1), some (eI s3.2)])) ((a1, b2)) rfl (fun s3 => (tt_v (tv_op (tg_ne ge_I (by decide)) (tv_var (e := eI) (a := s3.2)) (tv_c (e := eI) 0)))) (fun s3 => (tb_last (tb_par2 (ea := eI) (eb := eI) (tv_var (e := eI) (a := s3.2)) (tv_op tg_md (tv_call1 (w1 tg_int) (tv_var (e := eI) (a := s3.1))) (tv_var (e := eI) (a := s3.2))) (fun a5 b6 => (tb_nil ((a5, b6))))))) (fun s3 => (tb_retI (tv_var (e := eI) (a := s3.1)))))))
  fn_t D r0 (by unfold x__law_gcd at e0; (try simp only [bs] at e0); (try simp only [bs]); exact e0)
def x_half (rows0 : (List (Int × Int))) : Option (List (Int × Int)) :=
  (let found1 := ([] : (List (Int × Int))); ((forN (fun (s2 : (List (Int × Int))) (peg4 : (Int × Int)) => ((whN (fun (s5 : (List (Int × Int))) => (if ((decide (1 < (s5.length : Int)))) = true then ((atI s5 ((-2))).bind fun z9 => (atI s5 ((-1))).bind fun z10 => x_cross z9 z10 peg4).bind fun z11 => some ((decide (z11 ≤ 0))) else some false)) (fun (s5 : (List (Int × Int))) => (if s5.isEmpty = true then none else some s5.dropLast)) big s2).bind fun s5 => (let a7 := peg4; if s5.length ≤ big then some ((s5 ++ [a7])) else none))) rows0 found1).bind fun s2 => some s2))
theorem tx_half (rows0 : (List (Int × Int))) (r0 : (List (Int × Int))) (e0 : x_half rows0 = some r0) : F_half [(eL (eT2 eI eI)) rows0] = some ((eL (eT2 eI eI)) r0) :=
  have D : TB false false [] [some ((eL (eT2 eI eI)) rows0), none, none] (b_half big) (fun r => .ret ((eL (eT2 eI eI)) r)) _ := (tb_set (ea := (eL (eT2 eI eI))) (tv_lst (tas_nil (e := (eT2 eI eI)))) (fun found1 => (tb_for (E := (fun (s2 : (List (Int × Int))) => [some ((eL (eT2 eI eI)) rows0), some ((eL (eT2 eI eI)) s2), none])) (ea := (eT2 eI eI)) found1 rfl (tit_l (tv_var (e := (eL (eT2 eI eI))) (a := rows0))) (fun s2 peg4 => ⟨_, rfl, (tb_wh (E := (fun (s5 : (List (Int × Int))) => [some ((eL (eT2 eI eI)) rows0), some ((eL (eT2 eI eI)) s5), some ((eT2 eI eI) peg4)])) s2 rfl (fun s5 => (tt_an (tt_v (tv_op tg_gt (tv_call1 (w1 tg_lenL) (tv_var (e := (eL (eT2 eI eI))) (a := s5))) (tv_c (e := eI) 1))) (tt_v (tv_op tg_le (tv_call3 tx_cross (tv_op tg_ixL (tv_var (e := (eL (eT2 eI eI))) (a := s5)) (tv_un tg_neg (tv_c (e := eI) 2))) (tv_op tg_ixL (tv_var (e := (eL (eT2 eI eI))) (a := s5)) (tv_un tg_neg (tv_c (e := eI) 1))) (tv_var (e := (eT2 eI eI)) (a := peg4))) (tv_c (e := eI) 0))))) (fun s5 => (tb_last (tb_pop (e := (eT2 eI eI)) s5 rfl (tb_nil s5.dropLast)))) (fun s5 => (tb_last (tb_app (e := (eT2 eI eI)) s5 rfl (tv_var (e := (eT2 eI eI)) (a := peg4)) (fun a7 => (tb_nil ((s5 ++ [a7]))))))))⟩) (fun s2 => (tb_retI (tv_var (e := (eL (eT2 eI eI))) (a := s2)))))))
  fn_t D r0 (by unfold x_half at e0; (try simp only [bs] at e0); (try simp only [bs]); exact e0)
def x_double (figure0 : (List (Int × Int))) : Option Int :=
  ((x_edges figure0).bind fun z3 => (if z3.length ≤ big then cmp (fun p1 => some true) (fun p1 => (atI figure0 0).bind fun z2 => x_cross z2 p1.1 p1.2) z3 else none)).bind fun z4 => some z4.sum
theorem tx_double (figure0 : (List (Int × Int))) (r0 : Int) (e0 : x_double figure0 = some r0) : F_double [(eVt (eT2 eI eI)) figure0] = some (eI r0) :=
  have D : TB false false [] [some ((eVt (eT2 eI eI)) figure0), none, none] (b_double big) (fun r => .ret (eI r)) _ := (tb_retI (tv_call1 (w1 tg_sum) (tv_comp (ea := (eT2 (eT2 eI eI) (eT2 eI eI))) (eb := eI) (tit_l (tv_call1 tx_edges (tv_var (e := (eVt (eT2 eI eI))) (a := figure0)))) (fun p1 => ⟨_, rfl, tt_yes, (tv_call3 tx_cross (tv_op tg_ixV (tv_var (e := (eVt (eT2 eI eI))) (a := figure0)) (tv_c (e := eI) 0)) (tv_var (e := (eT2 eI eI)) (a := p1.1)) (tv_var (e := (eT2 eI eI)) (a := p1.2)))⟩))))
  fn_t D r0 (by unfold x_double at e0; (try simp only [bs] at e0); (try simp only [bs]); exact e0)
def x_rim (figure0 : (List (Int × Int))) : Option Int :=
  ((((x_edges figure0).bind fun z2 => (if z2.length ≤ big then cmp (fun p1 => some true) (fun p1 => x_common ((p1.2.1 - p1.1.1)) ((p1.2.2 - p1.1.2))) z2 else none)).bind fun z3 => some z3.sum).bind fun total4 => (if ((decide ((figure0.length : Int) = 1))) = true then some 1 else (if ((decide (2 < (figure0.length : Int)))) = true then some total4 else (fdI total4 2).bind fun z5 => some ((z5 + 1)))))
theorem tx_rim (figure0 : (List (Int × Int))) (r0 : Int) (e0 : x_rim figure0 = some r0) : F_rim [(eVt (eT2 eI eI)) figure0] = some (eI r0) :=
  have D : TB false false [] [some ((eVt (eT2 eI eI)) figure0), none, none, none] (b_rim big) (fun r => .ret (eI r)) _ := (tb_set (ea := eI) (tv_call1 (w1 tg_sum) (tv_comp (ea := (eT2 (eT2 eI eI) (eT2 eI eI))) (eb := eI) (tit_l (tv_call1 tx_edges (tv_var (e := (eVt (eT2 eI eI))) (a := figure0)))) (fun p1 => ⟨_, rfl, tt_yes, (tv_call2 tx_common (tv_op tg_sub (tv_k (g := fun (p : (Int × Int)) => some p.1) (ec := eI) (fun _ => rfl) (tv_var (e := (eT2 eI eI)) (a := p1.2))) (tv_k (g := fun (p : (Int × Int)) => some p.1) (ec := eI) (fun _ => rfl) (tv_var (e := (eT2 eI eI)) (a := p1.1)))) (tv_op tg_sub (tv_k (g := fun (p : (Int × Int)) => some p.2) (ec := eI) (fun _ => rfl) (tv_var (e := (eT2 eI eI)) (a := p1.2))) (tv_k (g := fun (p : (Int × Int)) => some p.2) (ec := eI) (fun _ => rfl) (tv_var (e := (eT2 eI eI)) (a := p1.1)))))⟩))) (fun total4 => (tb_ife (tt_v (tv_op (tg_eq ge_I (by decide)) (tv_call1 (w1 tg_lenV) (tv_var (e := (eVt (eT2 eI eI))) (a := figure0))) (tv_c (e := eI) 1))) (tb_retI (tv_c (e := eI) 1)) (tb_retI (tv_if (tt_v (tv_op tg_gt (tv_call1 (w1 tg_lenV) (tv_var (e := (eVt (eT2 eI eI))) (a := figure0))) (tv_c (e := eI) 2))) (tv_var (e := eI) (a := total4)) (tv_op tg_add (tv_op tg_fd (tv_var (e := eI) (a := total4)) (tv_c (e := eI) 2)) (tv_c (e := eI) 1)))))))
  fn_t D r0 (by unfold x_rim at e0; (try simp only [bs] at e0); (try simp only [bs]); exact e0)
def x_next_corner (here0 : (Int × Int)) (far0 : (Int × Int)) : Option (Option (Int × Int)) :=
  (let best1 := none; ((if (small62 0 && small62 ((far0.1 + 1))) = true then some (rgI 0 ((far0.1 + 1) - 0).toNat) else none)).bind fun z23 => ((forN (fun (s2 : (Option (Int × Int))) (x4 : Int) => ((if (small62 0 && small62 ((far0.2 + 1))) = true then some (rgI 0 ((far0.2 + 1) - 0).toNat) else none)).bind fun z22 => ((forN (fun (s5 : (Option (Int × Int))) (y7 : Int) => ((((((x_cross ((0, 0)) here0 ((x4, y7))).bind fun z9 => some ((-z9))).bind fun z10 => some ((decide (z10 = 1)))).bind fun z12 => (if z12 = true then (x_cross ((0, 0)) far0 ((x4, y7))).bind fun z11 => some ((decide (0 ≤ z11))) else some false)).bind fun z21 => (if z21 = true then ((((if ((s5.isNone)) = true then some true else ((((s5.map (·.1))).bind fun z14 => ((s5.map (·.2))).bind fun z15 => some ((z14 + z15))).bind fun z16 => ((s5.map (·.1))).bind fun z17 => some ((z16, z17))).bind fun z18 => some ((pLt (((x4 + y7), x4)) z18)))).bind fun z20 => (if z20 = true then (let best19 := (some ((x4, y7))); some best19) else some s5)).bind fun s13 => some s13) else some s5)).bind fun s8 => some s8)) z22 s2).bind fun s5 => some s5)) z23 best1).bind fun s2 => some s2))
theorem tx_next_corner (here0 : (Int × Int)) (far0 : (Int × Int)) (r0 : (Option (Int × Int))) (e0 : x_next_corner here0 far0 = some r0) : F_next_corner [(eT2 eI eI) here0, (eT2 eI eI) far0] = some ((eO (eT2 eI eI)) r0) :=
  have D : TB false false [] [some ((eT2 eI eI) here0), some ((eT2 eI eI) far0), none, none, none] (b_next_corner big) (fun r => .ret ((eO (eT2 eI eI)) r)) _ := (tb_set (ea := (eO (eT2 eI eI))) (tv_c (e := (eO (eT2 eI eI))) none) (fun best1 => (tb_for (E := (fun (s2 : (Option (Int × Int))) => [some ((eT2 eI eI) here0), some ((eT2 eI eI) far0), some ((eO (eT2 eI eI)) s2), none, none])) (ea := eI) best1 rfl (tit_r2 (tv_c (e := eI) 0) (tv_op tg_add (tv_k (g := fun (p : (Int × Int)) => some p.1) (ec := eI) (fun _ => rfl) (tv_var (e := (eT2 eI eI)) (a := far0))) (tv_c (e := eI) 1))) (fun s2 x4 => ⟨_, rfl, (tb_last (tb_for (E := (fun (s5 : (Option (Int × Int))) => [some ((eT2 eI eI) here0), some ((eT2 eI eI) far0), some ((eO (eT2 eI eI)) s5), some (eI x4), none])) (ea := eI) s2 rfl (tit_r2 (tv_c (e := eI) 0) (tv_op tg_add (tv_k (g := fun (p : (Int × Int)) => some p.2) (ec := eI) (fun _ => rfl) (tv_var (e := (eT2 eI eI)) (a := far0))) (tv_c (e := eI) 1))) (fun s5 y7 => ⟨_, rfl, (tb_last (tb_join (E := (fun (s8 : (Option (Int × Int))) => [some ((eT2 eI eI) here0), some ((eT2 eI eI) far0), some ((eO (eT2 eI eI)) s8), some (eI x4), none])) [4] (tb_ifl (tt_an (tt_v (tv_op (tg_eq ge_I (by decide)) (tv_un tg_neg (tv_call3 tx_cross (tv_t2 (tv_c (e := eI) 0) (tv_c (e := eI) 0)) (tv_var (e := (eT2 eI eI)) (a := here0)) (tv_t2 (tv_var (e := eI) (a := x4)) (tv_var (e := eI) (a := y7))))) (tv_c (e := eI) 1))) (tt_v (tv_op tg_ge (tv_call3 tx_cross (tv_t2 (tv_c (e := eI) 0) (tv_c (e := eI) 0)) (tv_var (e := (eT2 eI eI)) (a := far0)) (tv_t2 (tv_var (e := eI) (a := x4)) (tv_var (e := eI) (a := y7)))) (tv_c (e := eI) 0)))) (tb_last (tb_join (E := (fun (s13 : (Option (Int × Int))) => [some ((eT2 eI eI) here0), some ((eT2 eI eI) far0), some ((eO (eT2 eI eI)) s13), some (eI x4), none])) [4] (tb_ifl (tt_ou (tt_v (tv_k (tg_isO (fun _ => rfl)) (tv_var (e := (eO (eT2 eI eI))) (a := s5)))) (tt_v (tv_op tg_ltP (tv_t2 (tv_op tg_add (tv_var (e := eI) (a := x4)) (tv_var (e := eI) (a := y7))) (tv_var (e := eI) (a := x4))) (tv_t2 (tv_op tg_add (tv_k tg_o0 (tv_var (e := (eO (eT2 eI eI))) (a := s5))) (tv_k tg_o1 (tv_var (e := (eO (eT2 eI eI))) (a := s5)))) (tv_k tg_o0 (tv_var (e := (eO (eT2 eI eI))) (a := s5))))))) (tb_last (tb_set (ea := (eO (eT2 eI eI))) (tv_as (e' := (eO (eT2 eI eI))) some (tv_t2 (tv_var (e := eI) (a := x4)) (tv_var (e := eI) (a := y7)))) (fun best19 => (tb_nil best19)))) (tb_nil s5)) (fun s13 => (tb_nil s13)))) (tb_nil s5)) (fun s8 => (tb_nil s8))))⟩) (fun s5 => (tb_nil s5))))⟩) (fun s2 => (tb_retI (tv_var (e := (eO (eT2 eI eI))) (a := s2)))))))
  fn_t D r0 (by unfold x_next_corner at e0; (try simp only [bs] at e0); (try simp only [bs]); exact e0)
def x_joined (pegs0 : (List (Int × Int))) : Option (List (Int × Int)) :=
  (((atI pegs0 0).bind fun z1 => some (([z1] : (List (Int × Int))))).bind fun found2 => ((if (small62 1 && small62 ((pegs0.length : Int))) = true then some (rgI 1 ((pegs0.length : Int) - 1).toNat) else none)).bind fun z14 => ((forN (fun (s3 : (List (Int × Int))) (k5 : Int) => ((((if ((decide (k5 = ((pegs0.length : Int) - 1)))) = true then some true else ((atI s3 ((-1))).bind fun z7 => (atI pegs0 k5).bind fun z8 => (atI pegs0 ((k5 + 1))).bind fun z9 => x_cross z7 z8 z9).bind fun z10 => some ((!decide (z10 = 0))))).bind fun z13 => (if z13 = true then ((atI pegs0 k5).bind fun a12 => if s3.length ≤ big then some ((s3 ++ [a12])) else none) else some s3)).bind fun s6 => some s6)) z14 found2).bind fun s3 => some s3))
theorem tx_joined (pegs0 : (List (Int × Int))) (r0 : (List (Int × Int))) (e0 : x_joined pegs0 = some r0) : F_joined [(eL (eT2 eI eI)) pegs0] = some ((eVt (eT2 eI eI)) r0) :=
  have D : TB false false [] [some ((eL (eT2 eI eI)) pegs0), none, none] (b_joined big) (fun r => .ret ((eVt (eT2 eI eI)) r)) _ := (tb_set (ea := (eL (eT2 eI eI))) (tv_lst (tas_cons (tv_op tg_ixL (tv_var (e := (eL (eT2 eI eI))) (a := pegs0)) (tv_c (e := eI) 0)) (tas_nil (e := (eT2 eI eI))))) (fun found2 => (tb_for (E := (fun (s3 : (List (Int × Int))) => [some ((eL (eT2 eI eI)) pegs0), some ((eL (eT2 eI eI)) s3), none])) (ea := eI) found2 rfl (tit_r2 (tv_c (e := eI) 1) (tv_call1 (w1 tg_lenL) (tv_var (e := (eL (eT2 eI eI))) (a := pegs0)))) (fun s3 k5 => ⟨_, rfl, (tb_last (tb_join (E := (fun (s6 : (List (Int × Int))) => [some ((eL (eT2 eI eI)) pegs0), some ((eL (eT2 eI eI)) s6), none])) [2] (tb_ifl (tt_ou (tt_v (tv_op (tg_eq ge_I (by decide)) (tv_var (e := eI) (a := k5)) (tv_op tg_sub (tv_call1 (w1 tg_lenL) (tv_var (e := (eL (eT2 eI eI))) (a := pegs0))) (tv_c (e := eI) 1)))) (tt_v (tv_op (tg_ne ge_I (by decide)) (tv_call3 tx_cross (tv_op tg_ixL (tv_var (e := (eL (eT2 eI eI))) (a := s3)) (tv_un tg_neg (tv_c (e := eI) 1))) (tv_op tg_ixL (tv_var (e := (eL (eT2 eI eI))) (a := pegs0)) (tv_var (e := eI) (a := k5))) (tv_op tg_ixL (tv_var (e := (eL (eT2 eI eI))) (a := pegs0)) (tv_op tg_add (tv_var (e := eI) (a := k5)) (tv_c (e := eI) 1)))) (tv_c (e := eI) 0)))) (tb_last (tb_app (e := (eT2 eI eI)) s3 rfl (tv_op tg_ixL (tv_var (e := (eL (eT2 eI eI))) (a := pegs0)) (tv_var (e := eI) (a := k5))) (fun a12 => (tb_nil ((s3 ++ [a12])))))) (tb_nil s3)) (fun s6 => (tb_nil s6))))⟩) (fun s3 => (tb_retI (tv_nl (nl_V (nl_T2 nl_I nl_I)) (tv_call1 (w1 tg_tupL) (tv_var (e := (eL (eT2 eI eI))) (a := s3)))))))))
  fn_t D r0 (by unfold x_joined at e0; (try simp only [bs] at e0); (try simp only [bs]); exact e0)
def x_primitive (peg0 : (Int × Int)) : Option (Int × Int) :=
  ((x_common peg0.1 peg0.2).bind fun size1 => (fdI peg0.1 size1).bind fun z2 => (fdI peg0.2 size1).bind fun z3 => some ((z2, z3)))
theorem tx_primitive (peg0 : (Int × Int)) (r0 : (Int × Int)) (e0 : x_primitive peg0 = some r0) : F_primitive [(eT2 eI eI) peg0] = some ((eT2 eI eI) r0) :=
  have D : TB false false [] [some ((eT2 eI eI) peg0), none] (b_primitive big) (fun r => .ret ((eT2 eI eI) r)) _ := (tb_set (ea := eI) (tv_call2 tx_common (tv_k (g := fun (p : (Int × Int)) => some p.1) (ec := eI) (fun _ => rfl) (tv_var (e := (eT2 eI eI)) (a := peg0))) (tv_k (g := fun (p : (Int × Int)) => some p.2) (ec := eI) (fun _ => rfl) (tv_var (e := (eT2 eI eI)) (a := peg0)))) (fun size1 => (tb_retI (tv_t2 (tv_op tg_fd (tv_k (g := fun (p : (Int × Int)) => some p.1) (ec := eI) (fun _ => rfl) (tv_var (e := (eT2 eI eI)) (a := peg0))) (tv_var (e := eI) (a := size1))) (tv_op tg_fd (tv_k (g := fun (p : (Int × Int)) => some p.2) (ec := eI) (fun _ => rfl) (tv_var (e := (eT2 eI eI)) (a := peg0))) (tv_var (e := eI) (a := size1)))))))
  fn_t D r0 (by unfold x_primitive at e0; (try simp only [bs] at e0); (try simp only [bs]); exact e0)
def x_size_of (one0 : (Int × Int)) (two0 : (Int × Int)) : Option Int :=
  (x_cross ((0, 0)) one0 two0).bind fun z1 => some ((if z1 < 0 then -z1 else z1))
theorem tx_size_of (one0 : (Int × Int)) (two0 : (Int × Int)) (r0 : Int) (e0 : x_size_of one0 two0 = some r0) : F_size_of [(eT2 eI eI) one0, (eT2 eI eI) two0] = some (eI r0) :=
  have D : TB false false [] [some ((eT2 eI eI) one0), some ((eT2 eI eI) two0)] (b_size_of big) (fun r => .ret (eI r)) _ := (tb_retI (tv_call1 (w1 tg_abs) (tv_call3 tx_cross (tv_t2 (tv_c (e := eI) 0) (tv_c (e := eI) 0)) (tv_var (e := (eT2 eI eI)) (a := one0)) (tv_var (e := (eT2 eI eI)) (a := two0)))))
  fn_t D r0 (by unfold x_size_of at e0; (try simp only [bs] at e0); (try simp only [bs]); exact e0)
def x_figure_of (pegs0 : (List (Int × Int))) : Option (List (Int × Int)) :=
  (((if pegs0.length < 64 then some (psort pegs0) else none)).bind fun rows1 => (if ((decide ((rows1.length : Int) < 3))) = true then some rows1 else ((x_half rows1).bind fun low2 => ((x_half rows1.reverse).bind fun high3 => ((if ((cut low2 none ((some ((-1)))))).length + ((cut high3 none ((some ((-1)))))).length ≤ big then some ((cut low2 none ((some ((-1))))) ++ (cut high3 none ((some ((-1)))))) else none)).bind fun z4 => some z4))))
theorem tx_figure_of (pegs0 : (List (Int × Int))) (r0 : (List (Int × Int))) (e0 : x_figure_of pegs0 = some r0) : F_figure_of [(eL (eT2 eI eI)) pegs0] = some ((eVt (eT2 eI eI)) r0) :=
  have D : TB false false [] [some ((eL (eT2 eI eI)) pegs0), none, none, none] (b_figure_of big) (fun r => .ret ((eVt (eT2 eI eI)) r)) _ := (tb_set (ea := (eL (eT2 eI eI))) (tv_un tg_sset (tv_var (e := (eL (eT2 eI eI))) (a := pegs0))) (fun rows1 => (tb_ife (tt_v (tv_op tg_lt (tv_call1 (w1 tg_lenL) (tv_var (e := (eL (eT2 eI eI))) (a := rows1))) (tv_c (e := eI) 3))) (tb_retI (tv_call1 (w1 tg_tupL) (tv_var (e := (eL (eT2 eI eI))) (a := rows1)))) (tb_par2 (ea := (eL (eT2 eI eI))) (eb := (eL (eT2 eI eI))) (tv_call1 tx_half (tv_var (e := (eL (eT2 eI eI))) (a := rows1))) (tv_call1 tx_half (tv_un tg_revL (tv_var (e := (eL (eT2 eI eI))) (a := rows1)))) (fun low2 high3 => (tb_retI (tv_call1 (w1 tg_tupL) (tv_op tg_catL (tv_slL (tv_var (e := (eL (eT2 eI eI))) (a := low2)) to_no (to_so (tv_un tg_neg (tv_c (e := eI) 1)))) (tv_slL (tv_var (e := (eL (eT2 eI eI))) (a := high3)) to_no (to_so (tv_un tg_neg (tv_c (e := eI) 1))))))))))))
  fn_t D r0 (by unfold x_figure_of at e0; (try simp only [bs] at e0); (try simp only [bs]); exact e0)
def x_inner (figure0 : (List (Int × Int))) : Option Int :=
  (if ((decide ((figure0.length : Int) < 3))) = true then some 0 else (((x_double figure0).bind fun z1 => (x_rim figure0).bind fun z2 => some ((z1 - z2))).bind fun z3 => some ((z3 + 2))).bind fun z4 => fdI z4 2)
theorem tx_inner (figure0 : (List (Int × Int))) (r0 : Int) (e0 : x_inner figure0 = some r0) : F_inner [(eVt (eT2 eI eI)) figure0] = some (eI r0) :=
  have D : TB false false [] [some ((eVt (eT2 eI eI)) figure0)] (b_inner big) (fun r => .ret (eI r)) _ := (tb_ife (tt_v (tv_op tg_lt (tv_call1 (w1 tg_lenV) (tv_var (e := (eVt (eT2 eI eI))) (a := figure0))) (tv_c (e := eI) 3))) (tb_retI (tv_c (e := eI) 0)) (tb_retI (tv_op tg_fd (tv_op tg_add (tv_op tg_sub (tv_call1 tx_double (tv_var (e := (eVt (eT2 eI eI))) (a := figure0))) (tv_call1 tx_rim (tv_var (e := (eVt (eT2 eI eI))) (a := figure0)))) (tv_c (e := eI) 2)) (tv_c (e := eI) 2))))
  fn_t D r0 (by unfold x_inner at e0; (try simp only [bs] at e0); (try simp only [bs]); exact e0)
def x_sail (peg0 : (Int × Int)) : Option (List (Int × Int)) :=
  (let found1 := ([(0, 1)] : (List (Int × Int))); ((x_primitive peg0).bind fun far2 => ((whN (fun (s3 : (List (Int × Int))) => (atI s3 ((-1))).bind fun z5 => some ((!decide (z5 = far2)))) (fun (s3 : (List (Int × Int))) => ((((atI s3 ((-1))).bind fun z7 => x_next_corner z7 far2).bind fun z8 => z8).bind fun a9 => if s3.length ≤ big then some ((s3 ++ [a9])) else none)) big found1).bind fun s3 => x_joined s3)))
theorem tx_sail (peg0 : (Int × Int)) (r0 : (List (Int × Int))) (e0 : x_sail peg0 = some r0) : F_sail [(eT2 eI eI) peg0] = some ((eVt (eT2 eI eI)) r0) :=
  have D : TB false false [] [some ((eT2 eI eI) peg0), none, none] (b_sail big) (fun r => .ret ((eVt (eT2 eI eI)) r)) _ := (tb_set (ea := (eL (eT2 eI eI))) (tv_lst (tas_cons (tv_t2 (tv_c (e := eI) 0) (tv_c (e := eI) 1)) (tas_nil (e := (eT2 eI eI))))) (fun found1 => (tb_set (ea := (eT2 eI eI)) (tv_call1 tx_primitive (tv_var (e := (eT2 eI eI)) (a := peg0))) (fun far2 => (tb_wh (E := (fun (s3 : (List (Int × Int))) => [none, some ((eL (eT2 eI eI)) s3), some ((eT2 eI eI) far2)])) found1 rfl (fun s3 => (tt_v (tv_op (tg_ne (ge_T2 ge_I ge_I) (by decide)) (tv_op tg_ixL (tv_var (e := (eL (eT2 eI eI))) (a := s3)) (tv_un tg_neg (tv_c (e := eI) 1))) (tv_var (e := (eT2 eI eI)) (a := far2))))) (fun s3 => (tb_last (tb_app (e := (eT2 eI eI)) s3 rfl (tv_nl (nl_T2 nl_I nl_I) (tv_the (tv_call2 tx_next_corner (tv_op tg_ixL (tv_var (e := (eL (eT2 eI eI))) (a := s3)) (tv_un tg_neg (tv_c (e := eI) 1))) (tv_var (e := (eT2 eI eI)) (a := far2))))) (fun a9 => (tb_nil ((s3 ++ [a9]))))))) (fun s3 => (tb_retI (tv_nl (nl_V (nl_T2 nl_I nl_I)) (tv_call1 tx_joined (tv_var (e := (eL (eT2 eI eI))) (a := s3)))))))))))
  fn_t D r0 (by unfold x_sail at e0; (try simp only [bs] at e0); (try simp only [bs]); exact e0)
end K41

namespace K41
open PySem PySem.Spec PyProof.Rows L2 PL
variable {P : Program} {w : World} {K : PySem.W.Frag} {mg : Str → Option Value} {base : Heap}
def l_law_0 (o : List Int → Int → Int) (nn : Nat) : SS := (sSeq (aPar2 5 6 (aCons (eOp gIx (eVar 3) (eVar 4)) (aCons (eOp gIx (eVar 3) (eOp gAdd (eVar 4) (eC (.int 1)))) aNil))) (sSeq (sSet (gN 7) (eCall F_figure_of (aCons (eLst (aCons (eTup (aCons (eC (.int 0)) (aCons (eC (.int 0)) aNil))) (aCons (eVar 5) (aCons (eVar 6) aNil)))) aNil))) (sSeq (sSet (gN 8) (eCall F__law_gcd (aCons (eOp gSub (eOp gIx (eVar 6) (eC (.int 0))) (eOp gIx (eVar 5) (eC (.int 0)))) (aCons (eOp gSub (eOp gIx (eVar 6) (eC (.int 1))) (eOp gIx (eVar 5) (eC (.int 1)))) aNil)))) (sIf (tOu (tV (eOp gNe (eCall F_inner (aCons (eVar 7) aNil)) (eC (.int 0)))) (tOu (tV (eOp gNe (eCall F_rim (aCons (eVar 7) aNil)) (eOp gAdd (eVar 8) (eC (.int 2))))) (tOu (tV (eOp gNe (eCall F_double (aCons (eVar 7) aNil)) (eVar 8))) (tOu (tV (eOp gNe (eCall F_size_of (aCons (eVar 5) (aCons (eVar 6) aNil))) (eVar 8))) (tV (eOp gNe (eCall F_primitive (aCons (eVar 5) aNil)) (eVar 5))))))) (sRet (eC (.bool false))) sNil))))
def l_law_1 (o : List Int → Int → Int) (nn : Nat) : SS := (sIf (tV (eOp gLe (eCall F_cross (aCons (eOp gIx (eVar 3) (eVar 4)) (aCons (eOp gIx (eVar 3) (eOp gAdd (eVar 4) (eC (.int 1)))) (aCons (eOp gIx (eVar 3) (eOp gAdd (eVar 4) (eC (.int 2)))) aNil)))) (eC (.int 0)))) (sRet (eC (.bool false))) sNil)
def b_law (o : List Int → Int → Int) (nn : Nat) : SS := (sSeq (sSet (gN 2) (eTup (aCons (eOp gAdd (eC (.int 1)) (eCallM (G__law_pick o) (aCons (eC (.int 12)) aNil))) (aCons (eCallM (G__law_pick o) (aCons (eC (.int 13)) aNil)) aNil)))) (sSeq (sSet (gN 3) (eCall F_sail (aCons (eVar 2) aNil))) (sSeq (sIf (tOu (tV (eOp gNe (eOp gIx (eVar 3) (eC (.int 0))) (eTup (aCons (eC (.int 0)) (aCons (eC (.int 1)) aNil))))) (tV (eOp gNe (eOp gIx (eVar 3) (eUn gNeg (eC (.int 1)))) (eCall F_primitive (aCons (eVar 2) aNil))))) (sRet (eC (.bool false))) sNil) (sSeq (sPre [0, 2, 4, 5, 6, 7, 8] (sFor (iRg rg1 (aCons (eOp gSub (eCall fLen (aCons (eVar 3) aNil)) (eC (.int 1))) aNil)) (gN 4) (sFg [0, 2, 4, 5, 6, 7, 8] (l_law_0 o nn)))) (sSeq (sPre [0, 2, 4, 5, 6, 7, 8] (sFor (iRg rg1 (aCons (eOp gSub (eCall fLen (aCons (eVar 3) aNil)) (eC (.int 2))) aNil)) (gN 4) (sFg [0, 2, 4, 5, 6, 7, 8] (l_law_1 o nn)))) (sRet (eC (.bool true))))))))
/-- what is left: the law's run gives True, whatever is drawn -/
def LawSpec : Prop := ∀ o, Fair o → ∃ nn h', b_law o nn (List.replicate 9 none) [] = some (.ret (.bool true), h')
theorem ok_law (T : Tx K mg) (LS : LawSpec) : FnOk P w K mg base CX0 4 T.a_law T.d_law ["script"] (spLaw K) := by
  refine T.F_law.ok sc_law (fun vs H Q E h => by obtain ⟨a, ns, rfl, _⟩ := h; rfl) (fun cdv A outer s H vs Q E hr h => ?_)
  obtain ⟨a, ns, rfl, hS, hl, q⟩ := h
  refine ⟨_, pss_cons (ps_set (i := 1) sc_law.nd rfl (by first | exact .inl rfl | exact .inr rfl) (pe_call (ok__law_pool T) (hr.mono (by decide)) (by rfl) T.m__law_pool T.F__law_pool.kp T.b__law_pool .nil pass0 (pa_cons (pv 0) pa_nil))) wss, ?_⟩
  refine ⟨.ref a, rfl, a, ns, rfl, hS, hl, fun H' P0 R C rows o1 o2 o3 n1 n2 n3 l1 l2 => ?_⟩
  have hf : FAM (mkOrc P0 R C rows) := ⟨P0, R, C, rows, rfl, n1, n2, n3, l1, l2⟩
  obtain ⟨nn, h', e⟩ := LS _ hf.fair
  have body : ESs (cxOf CX0 P w K mg base N_law "law" (defScope s_law) T.a_law cdv A outer s H E).nox ((mkOrc P0 R C rows).at 1) [] [] (defBody s_law).tail [] (b_law (mkOrc P0 R C rows).o nn) := (ess_cons (es_set 2 sc_law.nd ns1 (ev_tup (ea_cons (ev_op os_add ev_int (ev_callM (ok__law_pick T) (hr.mono (by decide)) T.m__law_pick T.F__law_pick.kp T.b__law_pick hf (ea_cons ev_int ea_nil) (al1 (al_cons al_nil)))) (ea_cons (ev_callM (ok__law_pick T) (hr.mono (by decide)) T.m__law_pick T.F__law_pick.kp T.b__law_pick hf (ea_cons ev_int ea_nil) (al1 (al_cons al_nil))) ea_nil)))) (ess_cons (es_set 3 sc_law.nd ns1 (ev_call (ok_sail T) (hr.mono (by decide)) T.m_sail T.F_sail.kp T.b_sail (ea_cons (ev_var 2) ea_nil) rfl (al_cons al_nil))) (ess_cons (es_if (et_w (ew_or (et_cmp (os_ne hr.units) (ev_ix xs_ix (ev_var 3) ev_int) (ev_tup (ea_cons ev_int (ea_cons ev_int ea_nil)))) (ew_or1 (et_cmp (os_ne hr.units) (ev_ix xs_ix (ev_var 3) (ev_un us_neg ev_int)) (ev_call (ok_primitive T) (hr.mono (by decide)) T.m_primitive T.F_primitive.kp T.b_primitive (ea_cons (ev_var 2) ea_nil) rfl (al_cons al_nil)))))) (ess_one (es_ret ev_bl)) ess_nil) (ess_cons (es_pre [0, 2, 4, 5, 6, 7, 8] (es_for .never rfl (ei_rg1 T.z_range (ea_cons (ev_op os_sub (ev_callB (hv := hv_len) cs_len T.z_len (ea_cons (ev_var 3) ea_nil)) ev_int) ea_nil)) (eg_name 4 sc_law.nd ns1) (ess_fg [0, 2, 4, 5, 6, 7, 8] (ess_cons (es_par 5 6 rfl sc_law.nd ns1 ns1 (ea_cons (ev_ix xs_ix (ev_var 3) (ev_var 4)) (ea_cons (ev_ix xs_ix (ev_var 3) (ev_op os_add (ev_var 4) ev_int)) ea_nil))) (ess_cons (es_set 7 sc_law.nd ns1 (ev_call (ok_figure_of T) (hr.mono (by decide)) T.m_figure_of T.F_figure_of.kp T.b_figure_of (ea_cons (ev_of_eo (eo_lst (ea_cons (ev_tup (ea_cons ev_int (ea_cons ev_int ea_nil))) (ea_cons (ev_var 5) (ea_cons (ev_var 6) ea_nil))))) ea_nil) rfl (al_cons al_nil))) (ess_cons (es_set 8 sc_law.nd ns1 (ev_call (ok__law_gcd T) (hr.mono (by decide)) T.m__law_gcd T.F__law_gcd.kp T.b__law_gcd (ea_cons (ev_op os_sub (ev_ix xs_ix (ev_var 6) ev_int) (ev_ix xs_ix (ev_var 5) ev_int)) (ea_cons (ev_op os_sub (ev_ix xs_ix (ev_var 6) ev_int) (ev_ix xs_ix (ev_var 5) ev_int)) ea_nil)) rfl (al_cons (al_cons al_nil)))) (ess_one (es_if (et_w (ew_or (et_cmp (os_ne hr.units) (ev_call (ok_inner T) (hr.mono (by decide)) T.m_inner T.F_inner.kp T.b_inner (ea_cons (ev_var 7) ea_nil) rfl (al_cons al_nil)) ev_int) (ew_or (et_cmp (os_ne hr.units) (ev_call (ok_rim T) (hr.mono (by decide)) T.m_rim T.F_rim.kp T.b_rim (ea_cons (ev_var 7) ea_nil) rfl (al_cons al_nil)) (ev_op os_add (ev_var 8) ev_int)) (ew_or (et_cmp (os_ne hr.units) (ev_call (ok_double T) (hr.mono (by decide)) T.m_double T.F_double.kp T.b_double (ea_cons (ev_var 7) ea_nil) rfl (al_cons al_nil)) (ev_var 8)) (ew_or (et_cmp (os_ne hr.units) (ev_call (ok_size_of T) (hr.mono (by decide)) T.m_size_of T.F_size_of.kp T.b_size_of (ea_cons (ev_var 5) (ea_cons (ev_var 6) ea_nil)) rfl (al_cons (al_cons al_nil))) (ev_var 8)) (ew_or1 (et_cmp (os_ne hr.units) (ev_call (ok_primitive T) (hr.mono (by decide)) T.m_primitive T.F_primitive.kp T.b_primitive (ea_cons (ev_var 5) ea_nil) rfl (al_cons al_nil)) (ev_var 5)))))))) (ess_one (es_ret ev_bl)) ess_nil)))))))) (ess_cons (es_pre [0, 2, 4, 5, 6, 7, 8] (es_for .never rfl (ei_rg1 T.z_range (ea_cons (ev_op os_sub (ev_callB (hv := hv_len) cs_len T.z_len (ea_cons (ev_var 3) ea_nil)) ev_int) ea_nil)) (eg_name 4 sc_law.nd ns1) (ess_fg [0, 2, 4, 5, 6, 7, 8] (ess_one (es_if (et_cmp (os_le hr.units) (ev_call (ok_cross T) (hr.mono (by decide)) T.m_cross T.F_cross.kp T.b_cross (ea_cons (ev_ix xs_ix (ev_var 3) (ev_var 4)) (ea_cons (ev_ix xs_ix (ev_var 3) (ev_op os_add (ev_var 4) ev_int)) (ea_cons (ev_ix xs_ix (ev_var 3) (ev_op os_add (ev_var 4) ev_int)) ea_nil))) rfl (al_cons (al_cons (al_cons al_nil)))) ev_int) (ess_one (es_ret ev_bl)) ess_nil))))) (ess_one (es_ret ev_bl)))))))
  refine body _ _ _ _ _ _ _ _ _ _ (SR.law (Ω := mkOrc P0 R C rows) rfl rfl ⟨o1, o2, o3⟩) e ?_
  intro v F' H' _ _ dv
  cases dv
  exact q _
end K41

namespace K41
open PySem PySem.Spec PyProof.Rows L2 PL
def x_law (peg0 : (Int × Int)) : Option Bool :=
  ((x_sail peg0).bind fun row1 => (((atI row1 0).bind fun z2 => some ((!decide (z2 = (0, 1))))).bind fun z5 => (if z5 = true then some true else (atI row1 ((-1))).bind fun z3 => (x_primitive peg0).bind fun z4 => some ((!decide (z3 = z4))))).bind fun z33 => (if z33 = true then some false else ((if small62 (((row1.length : Int) - 1)) = true then some (rgI 0 (((row1.length : Int) - 1)).toNat) else none)).bind fun z32 => ((forT (R := Bool) (fun (s6 : Unit) (k17 : Int) => ((atI row1 k17).bind fun a18 => ((atI row1 ((k17 + 1))).bind fun b19 => ((x_figure_of (([(0, 0), a18, b19] : (List (Int × Int))))).bind fun part20 => ((x__law_gcd ((b19.1 - a18.1)) ((b19.2 - a18.2))).bind fun steps21 => (((x_inner part20).bind fun z22 => some ((!decide (z22 = 0)))).bind fun z30 => (if z30 = true then some true else ((x_rim part20).bind fun z23 => some ((!decide (z23 = (steps21 + 2))))).bind fun z29 => (if z29 = true then some true else ((x_double part20).bind fun z24 => some ((!decide (z24 = steps21)))).bind fun z28 => (if z28 = true then some true else ((x_size_of a18 b19).bind fun z25 => some ((!decide (z25 = steps21)))).bind fun z27 => (if z27 = true then some true else (x_primitive a18).bind fun z26 => some ((!decide (z26 = a18)))))))).bind fun z31 => (if z31 = true then some (Sum.inr false) else some (Sum.inl (())))))))) z32 (())).bind (sumK (fun s6 => ((if small62 (((row1.length : Int) - 2)) = true then some (rgI 0 (((row1.length : Int) - 2)).toNat) else none)).bind fun z15 => ((forT (R := Bool) (fun (s7 : Unit) (k9 : Int) => (((atI row1 k9).bind fun z10 => (atI row1 ((k9 + 1))).bind fun z11 => (atI row1 ((k9 + 2))).bind fun z12 => x_cross z10 z11 z12).bind fun z13 => some ((decide (z13 ≤ 0)))).bind fun z14 => (if z14 = true then some (Sum.inr false) else some (Sum.inl (())))) z15 (())).bind (sumK (fun s7 => some true) id))) id))))
def r_law (o : List Int → Int → Int) : SS := (sSeq (sSet (gN 3) (eCall F_sail (aCons (eVar 2) aNil))) (sSeq (sIf (tOu (tV (eOp gNe (eOp gIx (eVar 3) (eC (.int 0))) (eTup (aCons (eC (.int 0)) (aCons (eC (.int 1)) aNil))))) (tV (eOp gNe (eOp gIx (eVar 3) (eUn gNeg (eC (.int 1)))) (eCall F_primitive (aCons (eVar 2) aNil))))) (sRet (eC (.bool false))) sNil) (sSeq (sPre [0, 2, 4, 5, 6, 7, 8] (sFor (iRg rg1 (aCons (eOp gSub (eCall fLen (aCons (eVar 3) aNil)) (eC (.int 1))) aNil)) (gN 4) (sFg [0, 2, 4, 5, 6, 7, 8] (l_law_0 o big)))) (sSeq (sPre [0, 2, 4, 5, 6, 7, 8] (sFor (iRg rg1 (aCons (eOp gSub (eCall fLen (aCons (eVar 3) aNil)) (eC (.int 2))) aNil)) (gN 4) (sFg [0, 2, 4, 5, 6, 7, 8] (l_law_1 o big)))) (sRet (eC (.bool true)))))))
theorem tx_law (o : List Int → Int → Int) (peg0 : (Int × Int)) : TB false false [] [none, none, some ((eT2 eI eI) peg0), none, none, none, none, none, none] (r_law o) (fun r => .ret (eBo r)) (x_law peg0) :=
  have D : TB false false [] [none, none, some ((eT2 eI eI) peg0), none, none, none, none, none, none] (r_law o) (fun r => .ret (eBo r)) _ := (tb_set (ea := (eVt (eT2 eI eI))) (tv_call1 tx_sail (tv_var (e := (eT2 eI eI)) (a := peg0))) (fun row1 => (tb_ife (tt_ou (tt_v (tv_op (tg_ne (ge_T2 ge_I ge_I) (by decide)) (tv_op tg_ixV (tv_var (e := (eVt (eT2 eI eI))) (a := row1)) (tv_c (e := eI) 0)) (tv_t2 (tv_c (e := eI) 0) (tv_c (e := eI) 1)))) (tt_v (tv_op (tg_ne (ge_T2 ge_I ge_I) (by decide)) (tv_op tg_ixV (tv_var (e := (eVt (eT2 eI eI))) (a := row1)) (tv_un tg_neg (tv_c (e := eI) 1))) (tv_call1 tx_primitive (tv_var (e := (eT2 eI eI)) (a := peg0)))))) (tb_retI (tv_c (e := eBo) false)) (tb_forR (E := (fun (s6 : Unit) => [none, none, none, some ((eVt (eT2 eI eI)) row1), none, none, none, none, none])) (er := eBo) (ea := eI) id (()) rfl (tit_r1 (tv_op tg_sub (tv_call1 (w1 tg_lenV) (tv_var (e := (eVt (eT2 eI eI))) (a := row1))) (tv_c (e := eI) 1))) (fun s6 k17 => ⟨_, rfl, (tb_par2 (ea := (eT2 eI eI)) (eb := (eT2 eI eI)) (tv_op tg_ixV (tv_var (e := (eVt (eT2 eI eI))) (a := row1)) (tv_var (e := eI) (a := k17))) (tv_op tg_ixV (tv_var (e := (eVt (eT2 eI eI))) (a := row1)) (tv_op tg_add (tv_var (e := eI) (a := k17)) (tv_c (e := eI) 1))) (fun a18 b19 => (tb_set (ea := (eVt (eT2 eI eI))) (tv_call1 tx_figure_of (tv_lst (tas_cons (tv_t2 (tv_c (e := eI) 0) (tv_c (e := eI) 0)) (tas_cons (tv_var (e := (eT2 eI eI)) (a := a18)) (tas_cons (tv_var (e := (eT2 eI eI)) (a := b19)) (tas_nil (e := (eT2 eI eI)))))))) (fun part20 => (tb_set (ea := eI) (tv_call2 tx__law_gcd (tv_op tg_sub (tv_k (g := fun (p : (Int × Int)) => some p.1) (ec := eI) (fun _ => rfl) (tv_var (e := (eT2 eI eI)) (a := b19))) (tv_k (g := fun (p : (Int × Int)) => some p.1) (ec := eI) (fun _ => rfl) (tv_var (e := (eT2 eI eI)) (a := a18)))) (tv_op tg_sub (tv_k (g := fun (p : (Int × Int)) => some p.2) (ec := eI) (fun _ => rfl) (tv_var (e := (eT2 eI eI)) (a := b19))) (tv_k (g := fun (p : (Int × Int)) => some p.2) (ec := eI) (fun _ => rfl) (tv_var (e := (eT2 eI eI)) (a := a18))))) (fun steps21 => (tb_ifl (tt_ou (tt_v (tv_op (tg_ne ge_I (by decide)) (tv_call1 tx_inner (tv_var (e := (eVt (eT2 eI eI))) (a := part20))) (tv_c (e := eI) 0))) (tt_ou (tt_v (tv_op (tg_ne ge_I (by decide)) (tv_call1 tx_rim (tv_var (e := (eVt (eT2 eI eI))) (a := part20))) (tv_op tg_add (tv_var (e := eI) (a := steps21)) (tv_c (e := eI) 2)))) (tt_ou (tt_v (tv_op (tg_ne ge_I (by decide)) (tv_call1 tx_double (tv_var (e := (eVt (eT2 eI eI))) (a := part20))) (tv_var (e := eI) (a := steps21)))) (tt_ou (tt_v (tv_op (tg_ne ge_I (by decide)) (tv_call2 tx_size_of (tv_var (e := (eT2 eI eI)) (a := a18)) (tv_var (e := (eT2 eI eI)) (a := b19))) (tv_var (e := eI) (a := steps21)))) (tt_v (tv_op (tg_ne (ge_T2 ge_I ge_I) (by decide)) (tv_call1 tx_primitive (tv_var (e := (eT2 eI eI)) (a := a18))) (tv_var (e := (eT2 eI eI)) (a := a18)))))))) (tb_ret Sum.inr (tv_c (e := eBo) false)) (tb_nil (Sum.inl (()))))))))))⟩) (fun s6 => (tb_forR (E := (fun (s7 : Unit) => [none, none, none, some ((eVt (eT2 eI eI)) row1), none, none, none, none, none])) (er := eBo) (ea := eI) id (()) rfl (tit_r1 (tv_op tg_sub (tv_call1 (w1 tg_lenV) (tv_var (e := (eVt (eT2 eI eI))) (a := row1))) (tv_c (e := eI) 2))) (fun s7 k9 => ⟨_, rfl, (tb_ifl (tt_v (tv_op tg_le (tv_call3 tx_cross (tv_op tg_ixV (tv_var (e := (eVt (eT2 eI eI))) (a := row1)) (tv_var (e := eI) (a := k9))) (tv_op tg_ixV (tv_var (e := (eVt (eT2 eI eI))) (a := row1)) (tv_op tg_add (tv_var (e := eI) (a := k9)) (tv_c (e := eI) 1))) (tv_op tg_ixV (tv_var (e := (eVt (eT2 eI eI))) (a := row1)) (tv_op tg_add (tv_var (e := eI) (a := k9)) (tv_c (e := eI) 2)))) (tv_c (e := eI) 0))) (tb_ret Sum.inr (tv_c (e := eBo) false)) (tb_nil (Sum.inl (()))))⟩) (fun s7 => (tb_retI (tv_c (e := eBo) true)))))))))
  fun h0 z0 e0 => D h0 z0 (by unfold x_law at e0; (try simp only [bs] at e0); (try simp only [bs]); exact e0)
end K41

namespace K41
open PySem PySem.Spec PyProof.Rows L2 PL
variable {P : Program} {w : World} {K : PySem.W.Frag} {mg : Str → Option Value} {base : Heap}
theorem all_mk {l : PySem.W.OpenLaw} {w : World} {K : PySem.W.Frag} {h : Heap} {mg : Str → Option Value} {fa : Addr} (LS : LawSpec) (X : K.In h) (G : h.Ns mainGlobals mg) (hfa : mg "law" = some (.ref fa))
    {f0 : Addr} {od0 an0 : Option Addr} {sl0 : Array (Option Value)} {oc0 kV0 dc0 pm0 cd0 ct0 : Value}
    {f1 : Addr} {od1 an1 : Option Addr} {sl1 : Array (Option Value)} {oc1 kV1 dc1 pm1 cd1 ct1 : Value}
    {f2 : Addr} {od2 an2 : Option Addr} {sl2 : Array (Option Value)} {oc2 kV2 dc2 pm2 cd2 ct2 : Value}
    {f3 : Addr} {od3 an3 : Option Addr} {sl3 : Array (Option Value)} {oc3 kV3 dc3 pm3 cd3 ct3 : Value}
    {f4 : Addr} {od4 an4 : Option Addr} {sl4 : Array (Option Value)} {oc4 kV4 dc4 pm4 cd4 ct4 : Value}
    {f5 : Addr} {od5 an5 : Option Addr} {sl5 : Array (Option Value)} {oc5 kV5 dc5 pm5 cd5 ct5 : Value}
    {f6 : Addr} {od6 an6 : Option Addr} {sl6 : Array (Option Value)} {oc6 kV6 dc6 pm6 cd6 ct6 : Value}
    {f7 : Addr} {od7 an7 : Option Addr} {sl7 : Array (Option Value)} {oc7 kV7 dc7 pm7 cd7 ct7 : Value}
    {f8 : Addr} {od8 an8 : Option Addr} {sl8 : Array (Option Value)} {oc8 kV8 dc8 pm8 cd8 ct8 : Value}
    {f9 : Addr} {od9 an9 : Option Addr} {sl9 : Array (Option Value)} {oc9 kV9 dc9 pm9 cd9 ct9 : Value}
    {f10 : Addr} {od10 an10 : Option Addr} {sl10 : Array (Option Value)} {oc10 kV10 dc10 pm10 cd10 ct10 : Value}
    {f11 : Addr} {od11 an11 : Option Addr} {sl11 : Array (Option Value)} {oc11 kV11 dc11 pm11 cd11 ct11 : Value}
    {f12 : Addr} {od12 an12 : Option Addr} {sl12 : Array (Option Value)} {oc12 kV12 dc12 pm12 cd12 ct12 : Value}
    {f13 : Addr} {od13 an13 : Option Addr} {sl13 : Array (Option Value)} {oc13 kV13 dc13 pm13 cd13 ct13 : Value}
    {f14 : Addr} {od14 an14 : Option Addr} {sl14 : Array (Option Value)} {oc14 kV14 dc14 pm14 cd14 ct14 : Value}
    {f15 : Addr} {od15 an15 : Option Addr} {sl15 : Array (Option Value)} {oc15 kV15 dc15 pm15 cd15 ct15 : Value}
    {f16 : Addr} {od16 an16 : Option Addr} {sl16 : Array (Option Value)} {oc16 kV16 dc16 pm16 cd16 ct16 : Value}
    {f17 : Addr} {od17 an17 : Option Addr} {sl17 : Array (Option Value)} {oc17 kV17 dc17 pm17 cd17 ct17 : Value}
    {f18 : Addr} {od18 an18 : Option Addr} {sl18 : Array (Option Value)} {oc18 kV18 dc18 pm18 cd18 ct18 : Value}
    (a0 : PySem.W.nsIn K mainGlobals "common" = some (some (.ref f0))) (l0 : K.lookup f0 = some ⟨oc0, od0, .func (PySem.W.fnOf "common" "common" (defArgs s_common) (defBody s_common) (defScope s_common) .none kV0 dc0 pm0 an0 cd0 ct0), sl0⟩) (c0 : PySem.W.codeIn K cd0 "common" = true) (k0 : PySem.W.keepIn K (.ref f0) = true)
    (a1 : PySem.W.nsIn K mainGlobals "cross" = some (some (.ref f1))) (l1 : K.lookup f1 = some ⟨oc1, od1, .func (PySem.W.fnOf "cross" "cross" (defArgs s_cross) (defBody s_cross) (defScope s_cross) .none kV1 dc1 pm1 an1 cd1 ct1), sl1⟩) (c1 : PySem.W.codeIn K cd1 "cross" = true) (k1 : PySem.W.keepIn K (.ref f1) = true)
    (a2 : PySem.W.nsIn K mainGlobals "figure_of" = some (some (.ref f2))) (l2 : K.lookup f2 = some ⟨oc2, od2, .func (PySem.W.fnOf "figure_of" "figure_of" (defArgs s_figure_of) (defBody s_figure_of) (defScope s_figure_of) .none kV2 dc2 pm2 an2 cd2 ct2), sl2⟩) (c2 : PySem.W.codeIn K cd2 "figure_of" = true) (k2 : PySem.W.keepIn K (.ref f2) = true)
    (a3 : PySem.W.nsIn K mainGlobals "half" = some (some (.ref f3))) (l3 : K.lookup f3 = some ⟨oc3, od3, .func (PySem.W.fnOf "half" "half" (defArgs s_half) (defBody s_half) (defScope s_half) .none kV3 dc3 pm3 an3 cd3 ct3), sl3⟩) (c3 : PySem.W.codeIn K cd3 "half" = true) (k3 : PySem.W.keepIn K (.ref f3) = true)
    (a4 : PySem.W.nsIn K mainGlobals "edges" = some (some (.ref f4))) (l4 : K.lookup f4 = some ⟨oc4, od4, .func (PySem.W.fnOf "edges" "edges" (defArgs s_edges) (defBody s_edges) (defScope s_edges) .none kV4 dc4 pm4 an4 cd4 ct4), sl4⟩) (c4 : PySem.W.codeIn K cd4 "edges" = true) (k4 : PySem.W.keepIn K (.ref f4) = true)
    (a5 : PySem.W.nsIn K mainGlobals "double" = some (some (.ref f5))) (l5 : K.lookup f5 = some ⟨oc5, od5, .func (PySem.W.fnOf "double" "double" (defArgs s_double) (defBody s_double) (defScope s_double) .none kV5 dc5 pm5 an5 cd5 ct5), sl5⟩) (c5 : PySem.W.codeIn K cd5 "double" = true) (k5 : PySem.W.keepIn K (.ref f5) = true)
    (a6 : PySem.W.nsIn K mainGlobals "rim" = some (some (.ref f6))) (l6 : K.lookup f6 = some ⟨oc6, od6, .func (PySem.W.fnOf "rim" "rim" (defArgs s_rim) (defBody s_rim) (defScope s_rim) .none kV6 dc6 pm6 an6 cd6 ct6), sl6⟩) (c6 : PySem.W.codeIn K cd6 "rim" = true) (k6 : PySem.W.keepIn K (.ref f6) = true)
    (a7 : PySem.W.nsIn K mainGlobals "inner" = some (some (.ref f7))) (l7 : K.lookup f7 = some ⟨oc7, od7, .func (PySem.W.fnOf "inner" "inner" (defArgs s_inner) (defBody s_inner) (defScope s_inner) .none kV7 dc7 pm7 an7 cd7 ct7), sl7⟩) (c7 : PySem.W.codeIn K cd7 "inner" = true) (k7 : PySem.W.keepIn K (.ref f7) = true)
    (a8 : PySem.W.nsIn K mainGlobals "sail" = some (some (.ref f8))) (l8 : K.lookup f8 = some ⟨oc8, od8, .func (PySem.W.fnOf "sail" "sail" (defArgs s_sail) (defBody s_sail) (defScope s_sail) .none kV8 dc8 pm8 an8 cd8 ct8), sl8⟩) (c8 : PySem.W.codeIn K cd8 "sail" = true) (k8 : PySem.W.keepIn K (.ref f8) = true)
    (a9 : PySem.W.nsIn K mainGlobals "next_corner" = some (some (.ref f9))) (l9 : K.lookup f9 = some ⟨oc9, od9, .func (PySem.W.fnOf "next_corner" "next_corner" (defArgs s_next_corner) (defBody s_next_corner) (defScope s_next_corner) .none kV9 dc9 pm9 an9 cd9 ct9), sl9⟩) (c9 : PySem.W.codeIn K cd9 "next_corner" = true) (k9 : PySem.W.keepIn K (.ref f9) = true)
    (a10 : PySem.W.nsIn K mainGlobals "joined" = some (some (.ref f10))) (l10 : K.lookup f10 = some ⟨oc10, od10, .func (PySem.W.fnOf "joined" "joined" (defArgs s_joined) (defBody s_joined) (defScope s_joined) .none kV10 dc10 pm10 an10 cd10 ct10), sl10⟩) (c10 : PySem.W.codeIn K cd10 "joined" = true) (k10 : PySem.W.keepIn K (.ref f10) = true)
    (a11 : PySem.W.nsIn K mainGlobals "primitive" = some (some (.ref f11))) (l11 : K.lookup f11 = some ⟨oc11, od11, .func (PySem.W.fnOf "primitive" "primitive" (defArgs s_primitive) (defBody s_primitive) (defScope s_primitive) .none kV11 dc11 pm11 an11 cd11 ct11), sl11⟩) (c11 : PySem.W.codeIn K cd11 "primitive" = true) (k11 : PySem.W.keepIn K (.ref f11) = true)
    (a12 : PySem.W.nsIn K mainGlobals "size_of" = some (some (.ref f12))) (l12 : K.lookup f12 = some ⟨oc12, od12, .func (PySem.W.fnOf "size_of" "size_of" (defArgs s_size_of) (defBody s_size_of) (defScope s_size_of) .none kV12 dc12 pm12 an12 cd12 ct12), sl12⟩) (c12 : PySem.W.codeIn K cd12 "size_of" = true) (k12 : PySem.W.keepIn K (.ref f12) = true)
    (a13 : PySem.W.nsIn K mainGlobals "_law_cell" = some (some (.ref f13))) (l13 : K.lookup f13 = some ⟨oc13, od13, .func (PySem.W.fnOf "_law_cell" "_law_cell" (defArgs s__law_cell) (defBody s__law_cell) (defScope s__law_cell) .none kV13 dc13 pm13 an13 cd13 ct13), sl13⟩) (c13 : PySem.W.codeIn K cd13 "_law_cell" = true) (k13 : PySem.W.keepIn K (.ref f13) = true)
    (a14 : PySem.W.nsIn K mainGlobals "_law_draws" = some (some (.ref f14))) (l14 : K.lookup f14 = some ⟨oc14, od14, .func (PySem.W.fnOf "_law_draws" "_law_draws" (defArgs s__law_draws) (defBody s__law_draws) (defScope s__law_draws) .none kV14 dc14 pm14 an14 cd14 ct14), sl14⟩) (c14 : PySem.W.codeIn K cd14 "_law_draws" = true) (k14 : PySem.W.keepIn K (.ref f14) = true)
    (a15 : PySem.W.nsIn K mainGlobals "_law_pool" = some (some (.ref f15))) (l15 : K.lookup f15 = some ⟨oc15, od15, .func (PySem.W.fnOf "_law_pool" "_law_pool" (defArgs s__law_pool) (defBody s__law_pool) (defScope s__law_pool) .none kV15 dc15 pm15 an15 cd15 ct15), sl15⟩) (c15 : PySem.W.codeIn K cd15 "_law_pool" = true) (k15 : PySem.W.keepIn K (.ref f15) = true)
    (a16 : PySem.W.nsIn K mainGlobals "_law_pick" = some (some (.ref f16))) (l16 : K.lookup f16 = some ⟨oc16, od16, .func (PySem.W.fnOf "_law_pick" "_law_pick" (defArgs s__law_pick) (defBody s__law_pick) (defScope s__law_pick) .none kV16 dc16 pm16 an16 cd16 ct16), sl16⟩) (c16 : PySem.W.codeIn K cd16 "_law_pick" = true) (k16 : PySem.W.keepIn K (.ref f16) = true)
    (a17 : PySem.W.nsIn K mainGlobals "_law_gcd" = some (some (.ref f17))) (l17 : K.lookup f17 = some ⟨oc17, od17, .func (PySem.W.fnOf "_law_gcd" "_law_gcd" (defArgs s__law_gcd) (defBody s__law_gcd) (defScope s__law_gcd) .none kV17 dc17 pm17 an17 cd17 ct17), sl17⟩) (c17 : PySem.W.codeIn K cd17 "_law_gcd" = true) (k17 : PySem.W.keepIn K (.ref f17) = true)
    (a18 : PySem.W.nsIn K mainGlobals "law" = some (some (.ref f18))) (l18 : K.lookup f18 = some ⟨oc18, od18, .func (PySem.W.fnOf "law" "law" (defArgs s_law) (defBody s_law) (defScope s_law) .none kV18 dc18 pm18 an18 cd18 ct18), sl18⟩) (c18 : PySem.W.codeIn K cd18 "law" = true) (k18 : PySem.W.keepIn K (.ref f18) = true)
    (z_abs : PySem.W.nsIn K mainGlobals "abs" = some none) (z_int : PySem.W.nsIn K mainGlobals "int" = some none) (z_len : PySem.W.nsIn K mainGlobals "len" = some none) (z_max : PySem.W.nsIn K mainGlobals "max" = some none) (z_min : PySem.W.nsIn K mainGlobals "min" = some none) (z_range : PySem.W.nsIn K mainGlobals "range" = some none) (z_set : PySem.W.nsIn K mainGlobals "set" = some none) (z_sorted : PySem.W.nsIn K mainGlobals "sorted" = some none) (z_sum : PySem.W.nsIn K mainGlobals "sum" = some none) (z_tuple : PySem.W.nsIn K mainGlobals "tuple" = some none) :
    ∃ fd : FuncData, (∀ (s : Shared) (v : Value), BindsTo s fd ⟨[v], []⟩ [("script", v)]) ∧ ∀ base : Heap, K.In base → base.Ns mainGlobals mg → FnOk l.prog w K mg base CX0 4 fa fd ["script"] (spLaw K) := by
  have e := hfa.symm.trans (PySem.W.mg_of X G a18)
  cases e
  have F0 := fun_mk (st := s_common) l0 c0 k0
  have b0 := F0.binds (ps := ["a", "b"]) fun _ _ _ _ _ _ us hl => match us, hl with | [_, _], _ => rfl
  have F1 := fun_mk (st := s_cross) l1 c1 k1
  have b1 := F1.binds (ps := ["a", "b", "c"]) fun _ _ _ _ _ _ us hl => match us, hl with | [_, _, _], _ => rfl
  have F2 := fun_mk (st := s_figure_of) l2 c2 k2
  have b2 := F2.binds (ps := ["pegs"]) fun _ _ _ _ _ _ us hl => match us, hl with | [_], _ => rfl
  have F3 := fun_mk (st := s_half) l3 c3 k3
  have b3 := F3.binds (ps := ["rows"]) fun _ _ _ _ _ _ us hl => match us, hl with | [_], _ => rfl
  have F4 := fun_mk (st := s_edges) l4 c4 k4
  have b4 := F4.binds (ps := ["figure"]) fun _ _ _ _ _ _ us hl => match us, hl with | [_], _ => rfl
  have F5 := fun_mk (st := s_double) l5 c5 k5
  have b5 := F5.binds (ps := ["figure"]) fun _ _ _ _ _ _ us hl => match us, hl with | [_], _ => rfl
  have F6 := fun_mk (st := s_rim) l6 c6 k6
  have b6 := F6.binds (ps := ["figure"]) fun _ _ _ _ _ _ us hl => match us, hl with | [_], _ => rfl
  have F7 := fun_mk (st := s_inner) l7 c7 k7
  have b7 := F7.binds (ps := ["figure"]) fun _ _ _ _ _ _ us hl => match us, hl with | [_], _ => rfl
  have F8 := fun_mk (st := s_sail) l8 c8 k8
  have b8 := F8.binds (ps := ["peg"]) fun _ _ _ _ _ _ us hl => match us, hl with | [_], _ => rfl
  have F9 := fun_mk (st := s_next_corner) l9 c9 k9
  have b9 := F9.binds (ps := ["here", "far"]) fun _ _ _ _ _ _ us hl => match us, hl with | [_, _], _ => rfl
  have F10 := fun_mk (st := s_joined) l10 c10 k10
  have b10 := F10.binds (ps := ["pegs"]) fun _ _ _ _ _ _ us hl => match us, hl with | [_], _ => rfl
  have F11 := fun_mk (st := s_primitive) l11 c11 k11
  have b11 := F11.binds (ps := ["peg"]) fun _ _ _ _ _ _ us hl => match us, hl with | [_], _ => rfl
  have F12 := fun_mk (st := s_size_of) l12 c12 k12
  have b12 := F12.binds (ps := ["one", "two"]) fun _ _ _ _ _ _ us hl => match us, hl with | [_, _], _ => rfl
  have F13 := fun_mk (st := s__law_cell) l13 c13 k13
  have b13 := F13.binds (ps := ["script", "k"]) fun _ _ _ _ _ _ us hl => match us, hl with | [_, _], _ => rfl
  have F14 := fun_mk (st := s__law_draws) l14 c14 k14
  have b14 := F14.binds (ps := ["cell", "amount"]) fun _ _ _ _ _ _ us hl => match us, hl with | [_, _], _ => rfl
  have F15 := fun_mk (st := s__law_pool) l15 c15 k15
  have b15 := F15.binds (ps := ["script"]) fun _ _ _ _ _ _ us hl => match us, hl with | [_], _ => rfl
  have F16 := fun_mk (st := s__law_pick) l16 c16 k16
  have b16 := F16.binds (ps := ["pool", "amount"]) fun _ _ _ _ _ _ us hl => match us, hl with | [_, _], _ => rfl
  have F17 := fun_mk (st := s__law_gcd) l17 c17 k17
  have b17 := F17.binds (ps := ["a", "b"]) fun _ _ _ _ _ _ us hl => match us, hl with | [_, _], _ => rfl
  have F18 := fun_mk (st := s_law) l18 c18 k18
  have b18 := F18.binds (ps := ["script"]) fun _ _ _ _ _ _ us hl => match us, hl with | [_], _ => rfl
  exact ⟨_, fun s v => .of_eq rfl, fun base _ _ => ok_law ⟨_, _, F0, PySem.W.mg_of X G a0, b0, _, _, F1, PySem.W.mg_of X G a1, b1, _, _, F2, PySem.W.mg_of X G a2, b2, _, _, F3, PySem.W.mg_of X G a3, b3, _, _, F4, PySem.W.mg_of X G a4, b4, _, _, F5, PySem.W.mg_of X G a5, b5, _, _, F6, PySem.W.mg_of X G a6, b6, _, _, F7, PySem.W.mg_of X G a7, b7, _, _, F8, PySem.W.mg_of X G a8, b8, _, _, F9, PySem.W.mg_of X G a9, b9, _, _, F10, PySem.W.mg_of X G a10, b10, _, _, F11, PySem.W.mg_of X G a11, b11, _, _, F12, PySem.W.mg_of X G a12, b12, _, _, F13, PySem.W.mg_of X G a13, b13, _, _, F14, PySem.W.mg_of X G a14, b14, _, _, F15, PySem.W.mg_of X G a15, b15, _, _, F16, PySem.W.mg_of X G a16, b16, _, _, F17, PySem.W.mg_of X G a17, b17, _, _, F18, PySem.W.mg_of X G a18, b18, PySem.W.mg_none_of X G z_abs, PySem.W.mg_none_of X G z_int, PySem.W.mg_none_of X G z_len, PySem.W.mg_none_of X G z_max, PySem.W.mg_none_of X G z_min, PySem.W.mg_none_of X G z_range, PySem.W.mg_none_of X G z_set, PySem.W.mg_none_of X G z_sorted, PySem.W.mg_none_of X G z_sum, PySem.W.mg_none_of X G z_tuple⟩ LS⟩
end K41

namespace K41
open PySem PySem.Spec PyProof.Rows L2 PL
def allJ (i : Nat) : Bool := (List.range 13).all fun j => decide (x_law (1 + (i : Int), (j : Int)) = some true)
theorem fin_0 : allJ 0 = true := by decide +kernel
theorem fin_1 : allJ 1 = true := by decide +kernel
theorem fin_2 : allJ 2 = true := by decide +kernel
theorem fin_3 : allJ 3 = true := by decide +kernel
theorem fin_4 : allJ 4 = true := by decide +kernel
theorem fin_5 : allJ 5 = true := by decide +kernel
theorem fin_6 : allJ 6 = true := by decide +kernel
theorem fin_7 : allJ 7 = true := by decide +kernel
theorem fin_8 : allJ 8 = true := by decide +kernel
theorem fin_9 : allJ 9 = true := by decide +kernel
theorem fin_10 : allJ 10 = true := by decide +kernel
theorem fin_11 : allJ 11 = true := by decide +kernel
theorem fin_all : ∀ i : Nat, i < 12 → allJ i = true
  | 0, _ => fin_0
  | 1, _ => fin_1
  | 2, _ => fin_2
  | 3, _ => fin_3
  | 4, _ => fin_4
  | 5, _ => fin_5
  | 6, _ => fin_6
  | 7, _ => fin_7
  | 8, _ => fin_8
  | 9, _ => fin_9
  | 10, _ => fin_10
  | 11, _ => fin_11
  | n + 12, h => absurd h (by omega)
theorem law_val {p q : Int} (h1 : 0 ≤ p ∧ p < 12) (h2 : 0 ≤ q ∧ q < 13) : x_law (1 + p, q) = some true := by
  obtain ⟨i, rfl⟩ : ∃ i : Nat, p = i := ⟨p.toNat, by omega⟩
  obtain ⟨j, rfl⟩ : ∃ j : Nat, q = j := ⟨q.toNat, by omega⟩
  have := List.all_eq_true.mp (fin_all i (by omega)) j (List.mem_range.mpr (by omega))
  exact of_decide_eq_true this
theorem law_spec : LawSpec := by
  intro o fair
  have f1 := fair [] 12 (by decide)
  have f2 := fair [12] 13 (by decide)
  have d1 : G__law_pick o [.int 12] [] = some (.int (o [] 12), [12]) := by
    show (if (0 : Int) < 12 ∧ ([] : List Int).length < 1000000 then some (PyData.int (o [] 12), [] ++ [12]) else none) = _
    rw [if_pos ⟨by decide, by decide⟩]; rfl
  have d2 : G__law_pick o [.int 13] [12] = some (.int (o [12] 13), [12, 13]) := by
    show (if (0 : Int) < 13 ∧ ([12] : List Int).length < 1000000 then some (PyData.int (o [12] 13), [12] ++ [13]) else none) = _
    rw [if_pos ⟨by decide, by decide⟩]; rfl
  have e : b_law o big (List.replicate 9 none) [] = r_law o [none, none, some (eP (1 + o [] 12, o [12] 13)), none, none, none, none, none, none] [12, 13] := by
    show sSeq (sSet (gN 2) _) (r_law o) _ _ = _
    rw [x_sSeq]
    refine mb_go (a := Fl.nx [none, none, some (eP (1 + o [] 12, o [12] 13)), none, none, none, none, none, none]) ?_
    simp only [x_sSet, x_eTup, x_aCons, x_aNil, x_eCallM, x_eOp, x_eC, x_mba, x_mbp]
    rw [mb_eq d1]
    simp only [x_gAdd, x_mbl, x_mbp, x_mba]
    rw [mb_eq d2]
    rfl
  refine ⟨big, [12, 13], ?_⟩
  rw [e]
  exact tx_law o (1 + o [] 12, o [12] 13) [12, 13] true (law_val f1 f2)
end K41

open PySem PySem.W PyProof.Rows
set_option maxHeartbeats 0 in
theorem PySem.Challenge.cw_pegfigures_k41_whole_sails_as_figures_holds : PySem.Challenge.rw_pegfigures_k41_whole_sails_as_figures.Holds := by
  w_on; o_law; k_head; (case hw => w_witness2)
  k_fill
  refine L2.walk_of (l := PySem.Challenge.rw_pegfigures_k41_whole_sails_as_figures) (n := 63) (k := 4) (x := "script") (CX := fun _ => L2.CX0) (sp := fun w => PL.spLaw _) rfl (by decide) rfl ⟨rfl, by decide, by decide⟩ (fun w h Y => PySem.W.kIn_of Y) ?F (fun _ _ a ns hl _ hS => ⟨a, ns, rfl, hS, hl, fun _ => rfl⟩) (fun _ _ _ _ _ h => h)
  case F =>
    intro w mg fa h KX G hmg
    refine' K41.all_mk K41.law_spec KX G hmg ?a0 ?l0 ?c0 ?k0 ?a1 ?l1 ?c1 ?k1 ?a2 ?l2 ?c2 ?k2 ?a3 ?l3 ?c3 ?k3 ?a4 ?l4 ?c4 ?k4 ?a5 ?l5 ?c5 ?k5 ?a6 ?l6 ?c6 ?k6 ?a7 ?l7 ?c7 ?k7 ?a8 ?l8 ?c8 ?k8 ?a9 ?l9 ?c9 ?k9 ?a10 ?l10 ?c10 ?k10 ?a11 ?l11 ?c11 ?k11 ?a12 ?l12 ?c12 ?k12 ?a13 ?l13 ?c13 ?k13 ?a14 ?l14 ?c14 ?k14 ?a15 ?l15 ?c15 ?k15 ?a16 ?l16 ?c16 ?k16 ?a17 ?l17 ?c17 ?k17 ?a18 ?l18 ?c18 ?k18 ?z_abs ?z_int ?z_len ?z_max ?z_min ?z_range ?z_set ?z_sorted ?z_sum ?z_tuple
    (case a0 => k_is); (case l0 => k_is); (case c0 => k_is); (case k0 => k_is); (case a1 => k_is); (case l1 => k_is); (case c1 => k_is); (case k1 => k_is)
    (case a2 => k_is); (case l2 => k_is); (case c2 => k_is); (case k2 => k_is); (case a3 => k_is); (case l3 => k_is); (case c3 => k_is); (case k3 => k_is)
    (case a4 => k_is); (case l4 => k_is); (case c4 => k_is); (case k4 => k_is); (case a5 => k_is); (case l5 => k_is); (case c5 => k_is); (case k5 => k_is)
    (case a6 => k_is); (case l6 => k_is); (case c6 => k_is); (case k6 => k_is); (case a7 => k_is); (case l7 => k_is); (case c7 => k_is); (case k7 => k_is)
    (case a8 => k_is); (case l8 => k_is); (case c8 => k_is); (case k8 => k_is); (case a9 => k_is); (case l9 => k_is); (case c9 => k_is); (case k9 => k_is)
    (case a10 => k_is); (case l10 => k_is); (case c10 => k_is); (case k10 => k_is); (case a11 => k_is); (case l11 => k_is); (case c11 => k_is); (case k11 => k_is)
    (case a12 => k_is); (case l12 => k_is); (case c12 => k_is); (case k12 => k_is); (case a13 => k_is); (case l13 => k_is); (case c13 => k_is); (case k13 => k_is)
    (case a14 => k_is); (case l14 => k_is); (case c14 => k_is); (case k14 => k_is); (case a15 => k_is); (case l15 => k_is); (case c15 => k_is); (case k15 => k_is)
    (case a16 => k_is); (case l16 => k_is); (case c16 => k_is); (case k16 => k_is); (case a17 => k_is); (case l17 => k_is); (case c17 => k_is); (case k17 => k_is)
    (case a18 => k_is); (case l18 => k_is); (case c18 => k_is); (case k18 => k_is); (case z_abs => k_is); (case z_int => k_is); (case z_len => k_is); (case z_max => k_is)
    (case z_min => k_is); (case z_range => k_is); (case z_set => k_is); (case z_sorted => k_is); (case z_sum => k_is); (case z_tuple => k_is)
