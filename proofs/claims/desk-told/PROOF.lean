import PyProof.Rows.All
import Wide.All
import OpenK.AllK
import Wide.FinOn
import HandS.ForMost
import HandS.ForExc
import HandS.TupAny
import HandS.Defaults
import HandS.Wide
import HandS.Zip
import HandS.FStr
import HandS.IsInst
import HandS.Deep
import HandS.NoneIn
import HandS.TryElse
import HandS.ClsMeth
import HandS.TupSets
import HandS.Head0
import HandS.Head1
import HandS.Head2
import HandS.HeadEnd
import HandS.HeadHook1
import HandS.HeadHook2
import KE.KStateDown
import PySem.Challenge.RW_sampleyard_k86_desk_told
set_option Elab.async false
set_option linter.all false
set_option autoImplicit false
set_option maxRecDepth 100000
/-! The data layer: what evaluates to which plain data. -/
namespace DL
open PySem L2

/-! ### data -/
inductive D where
  | non | bl (b : Bool) | int (i : Int) | str (x : Str) | ty (n : String)
  | tup (ds : List D) | lst (ds : List D) | lsr (ds : List D)
  | obj (C : Addr) (ns : List Str) (ds : List D)
  | ptr (a : Addr)

abbrev Fr := PySem.W.Frag
mutual
def Rep (K : Fr) (H : Hp) : D → V → Prop
  | .non, v => v = .non
  | .bl b, v => v = .bl b
  | .int i, v => v = .int i
  | .str x, v => v = .str x
  | .ty n, v => v = .ty n
  | .ptr a, v => v = .ref a
  | .tup ds, v => ∃ a xs, v = .ref a ∧ SqT K H a xs ∧ Reps K H ds xs
  | .lst ds, v => ∃ a xs, v = .ref a ∧ H a = some (.lst xs) ∧ Reps K H ds xs
  | .lsr ds, v => ∃ a xs, v = .ref a ∧ SqL K H a xs ∧ Reps K H ds xs
  | .obj C ns ds, v => ∃ a dx xs, v = .ref a ∧ H a = some (.ins C dx (ns.zip xs)) ∧ ns.length = ds.length ∧ Reps K H ds xs
def Reps (K : Fr) (H : Hp) : List D → List V → Prop
  | [], xs => xs = []
  | d :: ds, xs => ∃ v vs, xs = v :: vs ∧ Rep K H d v ∧ Reps K H ds vs
end

theorem SqT.same {K : Fr} {H H' : Hp} {a : Addr} {xs : List V} (e : Same H H') (h : SqT K H a xs) : SqT K H' a xs := by
  rcases h with (h | ⟨o, h⟩) | h
  · exact .inl (.inl (e _ _ h))
  · exact .inl (.inr ⟨o, e _ _ h⟩)
  · exact .inr h
mutual
theorem Rep.mono {K : Fr} {H H' : Hp} (e : Same H H') : ∀ (d : D) (v : V), Rep K H d v → Rep K H' d v
  | .non, _, h => by unfold Rep at h ⊢; exact h
  | .bl b, _, h => by unfold Rep at h ⊢; exact h
  | .int i, _, h => by unfold Rep at h ⊢; exact h
  | .str x, _, h => by unfold Rep at h ⊢; exact h
  | .ty n, _, h => by unfold Rep at h ⊢; exact h
  | .ptr a, _, h => by unfold Rep at h ⊢; exact h
  | .tup ds, _, h => by
    unfold Rep at h ⊢
    obtain ⟨a, xs, h1, h2, h3⟩ := h
    exact ⟨a, xs, h1, SqT.same e h2, Reps.mono e ds xs h3⟩
  | .lst ds, _, h => by
    unfold Rep at h ⊢
    obtain ⟨a, xs, h1, h2, h3⟩ := h
    exact ⟨a, xs, h1, e _ _ h2, Reps.mono e ds xs h3⟩
  | .lsr ds, _, h => by
    unfold Rep at h ⊢
    obtain ⟨a, xs, h1, h2, h3⟩ := h
    exact ⟨a, xs, h1, Same.seq e h2, Reps.mono e ds xs h3⟩
  | .obj C ns ds, _, h => by
    unfold Rep at h ⊢
    obtain ⟨a, dx, xs, h1, h2, h3, h4⟩ := h
    exact ⟨a, dx, xs, h1, e _ _ h2, h3, Reps.mono e ds xs h4⟩
theorem Reps.mono {K : Fr} {H H' : Hp} (e : Same H H') : ∀ (ds : List D) (vs : List V), Reps K H ds vs → Reps K H' ds vs
  | [], _, h => by unfold Reps at h ⊢; exact h
  | d :: ds, _, h => by
    unfold Reps at h ⊢
    obtain ⟨v, vs, h1, h2, h3⟩ := h
    exact ⟨v, vs, h1, Rep.mono e d v h2, Reps.mono e ds vs h3⟩
end
section
variable {K : Fr} {H : Hp}
theorem Reps.nil : Reps K H [] [] := by unfold Reps; rfl
theorem Reps.cons {d : D} {ds : List D} {v : V} {vs : List V} (h : Rep K H d v) (r : Reps K H ds vs) : Reps K H (d :: ds) (v :: vs) := by
  unfold Reps
  exact ⟨v, vs, rfl, h, r⟩
theorem Reps.uncons {d : D} {ds : List D} {vs : List V} (h : Reps K H (d :: ds) vs) : ∃ v r, vs = v :: r ∧ Rep K H d v ∧ Reps K H ds r := by
  unfold Reps at h
  exact h
theorem Reps.unnil {vs : List V} (h : Reps K H [] vs) : vs = [] := by
  unfold Reps at h
  exact h
theorem Reps.len : ∀ {ds : List D} {vs : List V}, Reps K H ds vs → ds.length = vs.length
  | [], vs, h => by rw [h.unnil] <;> rfl
  | d :: ds, vs, h => by
    obtain ⟨v, r, rfl, _, h2⟩ := h.uncons
    rw [List.length_cons, List.length_cons, Reps.len h2]
theorem Reps.get : ∀ {ds : List D} {vs : List V} {i : Nat} {d : D}, Reps K H ds vs → ds[i]? = some d → ∃ v, vs[i]? = some v ∧ Rep K H d v
  | [], _, _, _, _, e => by simp at e
  | d :: ds, vs, 0, d', h, e => by
    obtain ⟨v, r, rfl, h1, _⟩ := h.uncons
    simp at e
    subst e
    exact ⟨v, rfl, h1⟩
  | d :: ds, vs, i + 1, d', h, e => by
    obtain ⟨v, r, rfl, _, h2⟩ := h.uncons
    simp only [List.getElem?_cons_succ] at e ⊢
    exact Reps.get h2 e
theorem Reps.of_get : ∀ {ds : List D} {vs : List V}, ds.length = vs.length → (∀ (i : Nat) (d : D) (v : V), ds[i]? = some d → vs[i]? = some v → Rep K H d v) → Reps K H ds vs
  | [], [], _, _ => Reps.nil
  | [], _ :: _, e, _ => by simp at e
  | _ :: _, [], e, _ => by simp at e
  | d :: ds, v :: vs, e, h => Reps.cons (h 0 d v rfl rfl) (Reps.of_get (by simpa using e) fun i d' v' h1 h2 => h (i + 1) d' v' (by simpa using h1) (by simpa using h2))
theorem Reps.append : ∀ {ds es : List D} {vs ws : List V}, Reps K H ds vs → Reps K H es ws → Reps K H (ds ++ es) (vs ++ ws)
  | [], _, vs, _, h, r => by rw [h.unnil]; exact r
  | d :: ds, _, vs, _, h, r => by
    obtain ⟨v, q, rfl, h1, h2⟩ := h.uncons
    exact Reps.cons h1 (Reps.append h2 r)
theorem Reps.drop : ∀ {ds : List D} {vs : List V} (n : Nat), Reps K H ds vs → Reps K H (ds.drop n) (vs.drop n)
  | _, _, 0, h => h
  | [], vs, n + 1, h => by rw [h.unnil]; exact Reps.nil
  | d :: ds, vs, n + 1, h => by
    obtain ⟨v, q, rfl, _, h2⟩ := h.uncons
    exact Reps.drop n h2
theorem Reps.take : ∀ {ds : List D} {vs : List V} (n : Nat), Reps K H ds vs → Reps K H (ds.take n) (vs.take n)
  | _, _, 0, h => Reps.nil
  | [], vs, n + 1, h => by rw [h.unnil]; exact Reps.nil
  | d :: ds, vs, n + 1, h => by
    obtain ⟨v, q, rfl, h1, h2⟩ := h.uncons
    exact Reps.cons h1 (Reps.take n h2)
theorem Reps.set {d : D} {v : V} (r : Rep K H d v) : ∀ {ds : List D} {vs : List V} (i : Nat), Reps K H ds vs → Reps K H (ds.set i d) (vs.set i v)
  | [], vs, _, h => by rw [h.unnil]; exact Reps.nil
  | d' :: ds, vs, 0, h => by
    obtain ⟨w, q, rfl, _, h2⟩ := h.uncons
    exact Reps.cons r h2
  | d' :: ds, vs, i + 1, h => by
    obtain ⟨w, q, rfl, h1, h2⟩ := h.uncons
    exact Reps.cons h1 (Reps.set r i h2)
theorem rep_int {i : Int} {v : V} : Rep K H (.int i) v ↔ v = .int i := by unfold Rep; exact Iff.rfl
theorem rep_str {i : Str} {v : V} : Rep K H (.str i) v ↔ v = .str i := by unfold Rep; exact Iff.rfl
theorem rep_bl {i : Bool} {v : V} : Rep K H (.bl i) v ↔ v = .bl i := by unfold Rep; exact Iff.rfl
theorem rep_ty {i : String} {v : V} : Rep K H (.ty i) v ↔ v = .ty i := by unfold Rep; exact Iff.rfl
theorem rep_non {v : V} : Rep K H .non v ↔ v = .non := by unfold Rep; exact Iff.rfl
theorem rep_ptr {a : Addr} {v : V} : Rep K H (.ptr a) v ↔ v = .ref a := by unfold Rep; exact Iff.rfl
theorem rep_tup {ds : List D} {v : V} : Rep K H (.tup ds) v ↔ ∃ a xs, v = .ref a ∧ SqT K H a xs ∧ Reps K H ds xs := by rw [Rep]
theorem rep_lst {ds : List D} {v : V} : Rep K H (.lst ds) v ↔ ∃ a xs, v = .ref a ∧ H a = some (.lst xs) ∧ Reps K H ds xs := by rw [Rep]
theorem rep_lsr {ds : List D} {v : V} : Rep K H (.lsr ds) v ↔ ∃ a xs, v = .ref a ∧ SqL K H a xs ∧ Reps K H ds xs := by rw [Rep]
theorem rep_obj {C : Addr} {ns : List Str} {ds : List D} {v : V} : Rep K H (.obj C ns ds) v ↔ ∃ a dx xs, v = .ref a ∧ H a = some (.ins C dx (ns.zip xs)) ∧ ns.length = ds.length ∧ Reps K H ds xs := by rw [Rep]
theorem Rep.seq {ds : List D} {v : V} (h : Rep K H (.lst ds) v) : Rep K H (.lsr ds) v := by
  obtain ⟨a, xs, h1, h2, h3⟩ := rep_lst.mp h
  exact rep_lsr.mpr ⟨a, xs, h1, .inl (.inl h2), h3⟩
end
/-- the ints of a list -/
theorem reps_ints {K : Fr} {H : Hp} : ∀ (ns : List Int), Reps K H (ns.map D.int) (ns.map V.int)
  | [] => Reps.nil
  | n :: ns => Reps.cons (rep_int.mpr rfl) (reps_ints ns)
theorem reps_ints_eq {K : Fr} {H : Hp} : ∀ {ns : List Int} {vs : List V}, Reps K H (ns.map D.int) vs → vs = ns.map V.int
  | [], vs, h => h.unnil
  | n :: ns, vs, h => by
    obtain ⟨v, r, rfl, h1, h2⟩ := Reps.uncons (d := D.int n) (ds := ns.map D.int) h
    rw [rep_int.mp h1, reps_ints_eq h2]
    rfl
theorem reps_strs_eq {K : Fr} {H : Hp} : ∀ {ns : List Str} {vs : List V}, Reps K H (ns.map D.str) vs → vs = ns.map V.str
  | [], vs, h => h.unnil
  | n :: ns, vs, h => by
    obtain ⟨v, r, rfl, h1, h2⟩ := Reps.uncons (d := D.str n) (ds := ns.map D.str) h
    rw [rep_str.mp h1, reps_strs_eq h2]
    rfl
theorem reps_strs {K : Fr} {H : Hp} : ∀ (ns : List Str), Reps K H (ns.map D.str) (ns.map V.str)
  | [] => Reps.nil
  | n :: ns => Reps.cons (rep_str.mpr rfl) (reps_strs ns)
theorem reps_bls_eq {K : Fr} {H : Hp} : ∀ {ns : List Bool} {vs : List V}, Reps K H (ns.map D.bl) vs → vs = ns.map V.bl
  | [], vs, h => h.unnil
  | n :: ns, vs, h => by
    obtain ⟨v, r, rfl, h1, h2⟩ := Reps.uncons (d := D.bl n) (ds := ns.map D.bl) h
    rw [rep_bl.mp h1, reps_bls_eq h2]
    rfl

/-! ### the heap without the mutable ones -/
def hid (M : List Addr) (H : Hp) : Hp := fun a => if a ∈ M then none else H a
theorem hid_ne {M : List Addr} {H : Hp} {a : Addr} (h : a ∉ M) : hid M H a = H a := by unfold hid; rw [if_neg h]
theorem hid_in {M : List Addr} {H : Hp} {a : Addr} (h : a ∈ M) : hid M H a = none := by unfold hid; rw [if_pos h]
theorem hid_some {M : List Addr} {H : Hp} {a : Addr} {o : HO} (h : hid M H a = some o) : a ∉ M ∧ H a = some o := by
  unfold hid at h
  split at h
  · cases h
  · exact ⟨by assumption, h⟩
theorem hid_le {M : List Addr} {H : Hp} : Same (hid M H) H := fun _ _ h => (hid_some h).2
theorem hid_same {M : List Addr} {H H' : Hp} (e : Same H H') : Same (hid M H) (hid M H') := fun b o h => by
  obtain ⟨h1, h2⟩ := hid_some h
  rw [hid_ne h1]
  exact e b o h2
theorem hid_sub {M M' : List Addr} {H : Hp} (e : ∀ a ∈ M', a ∈ M) : Same (hid M H) (hid M' H) := fun b o h => by
  obtain ⟨h1, h2⟩ := hid_some h
  rw [hid_ne fun z => h1 (e b z)]
  exact h2
theorem same_upd {H : Hp} {p : Addr} {o : HO} (h : H p = none) : Same H (upd H p o) := fun b u e => by
  rw [upd_ne (ne_of_none e h)]
  exact e
def Dom (M : List Addr) (H : Hp) : Prop := ∀ m ∈ M, ∃ o, H m = some o
theorem Dom.mono {M : List Addr} {H H' : Hp} (d : Dom M H) (e : Same H H') : Dom M H' := fun m hm => let ⟨o, h⟩ := d m hm; ⟨o, e _ _ h⟩
theorem Dom.ni {M : List Addr} {H : Hp} {p : Addr} (d : Dom M H) (h : H p = none) : p ∉ M := fun hm => by
  obtain ⟨o, e⟩ := d p hm
  rw [h] at e
  cases e
/-- a new object, in the heap without the mutable ones -/
theorem hid_new {M : List Addr} {H : Hp} {p : Addr} {o : HO} (d : Dom M H) (h : H p = none) : hid M (upd H p o) p = some o := by
  rw [hid_ne (d.ni h)]
  exact upd_same

/-! ### what mutable ones hold -/
inductive MC where
  | lst (ds : List D)
  | ins (C : Addr) (ns : List Str) (ds : List D)
abbrev Mu := List (Addr × MC)
abbrev Mu.as (μ : Mu) : List Addr := μ.map (·.1)
def MAt (K : Fr) (Hf H : Hp) (p : Addr) : MC → Prop
  | .lst ds => ∃ xs, H p = some (.lst xs) ∧ Reps K Hf ds xs
  | .ins C ns ds => ∃ dx xs, H p = some (.ins C dx (ns.zip xs)) ∧ ns.length = ds.length ∧ Reps K Hf ds xs
theorem MAt.mono {K : Fr} {Hf Hf' H H' : Hp} {p : Addr} (e : Same Hf Hf') (e2 : ∀ o, H p = some o → H' p = some o) : ∀ {c : MC}, MAt K Hf H p c → MAt K Hf' H' p c
  | .lst _, ⟨xs, h1, h2⟩ => ⟨xs, e2 _ h1, Reps.mono e _ _ h2⟩
  | .ins _ _ _, ⟨dx, xs, h1, h2, h3⟩ => ⟨dx, xs, e2 _ h1, h2, Reps.mono e _ _ h3⟩
theorem MAt.there {K : Fr} {Hf H : Hp} {p : Addr} : ∀ {c : MC}, MAt K Hf H p c → ∃ o, H p = some o
  | .lst _, ⟨_, h1, _⟩ => ⟨_, h1⟩
  | .ins _ _ _, ⟨_, _, h1, _, _⟩ => ⟨_, h1⟩

abbrev DS := List (Option D)
/-- the state for expressions: slots, mutable ones (mine: μ; others: M0) -/
structure StE (K : Fr) (M0 : List Addr) (μ : Mu) (δ : DS) (σ : St) (H : Hp) : Prop where
  len : σ.length = δ.length
  sl : ∀ (i : Nat) (d : D), δ[i]? = some (some d) → ∃ v, σ[i]? = some (some v) ∧ Rep K (hid (μ.as ++ M0) H) d v
  mu : ∀ q ∈ μ, MAt K (hid (μ.as ++ M0) H) H q.1 q.2
  dom : Dom M0 H
theorem StE.domA {K : Fr} {M0 : List Addr} {μ : Mu} {δ : DS} {σ : St} {H : Hp} (s : StE K M0 μ δ σ H) : Dom (μ.as ++ M0) H := fun m hm => by
  rcases List.mem_append.mp hm with h | h
  · obtain ⟨q, hq, rfl⟩ := List.mem_map.mp h
    exact (s.mu q hq).there
  · exact s.dom m h
theorem StE.mono {K : Fr} {M0 : List Addr} {μ : Mu} {δ : DS} {σ : St} {H H' : Hp} (s : StE K M0 μ δ σ H) (e : Same H H') : StE K M0 μ δ σ H' :=
  ⟨s.len, fun i d h => let ⟨v, h1, h2⟩ := s.sl i d h; ⟨v, h1, Rep.mono (hid_same e) _ _ h2⟩, fun q hq => (s.mu q hq).mono (hid_same e) (e _), s.dom.mono e⟩

/-! ### contexts -/
structure GE where
  P : Program
  w : World
  K : Fr
  mg : Str → Option Value
  base : Heap
structure CxD where
  g : GE
  N : List Str
  sc : Scope
  k : Nat
  all : Bool
abbrev CxD.K (C : CxD) : Fr := C.g.K
abbrev GlD (C : CxD) (x : Str) : Prop := C.sc.names.lookup x = some .globalImplicit
structure IsCx (C : CxD) (X : Cx) : Prop where
  prog : X.prog = C.g.P
  w : X.w = C.g.w
  K : X.K = C.g.K
  mg : X.mg = C.g.mg
  base : X.base = C.g.base
  N : X.N = C.N
  sc : X.env.scope = C.sc
  calm : X.calm = true
  room : Room C.k X.A
  fn : C.all = true → ∀ x, X.fn x = true
  xe : X.xe = fun _ _ => False

/-! ### the readings by themselves -/
def WE (X : Cx) (e : Expr) : TE := fun σ H Q => ∀ pins s, Inv X pins σ H s → wpAny (model X.prog X.w) X.A (eval e X.env) (EP X pins σ Q) X.xe s
theorem WE.pe (X : Cx) (e : Expr) : PE X e (WE X e) := ⟨fun pins s _ _ _ I h => h pins s I⟩
def WT (X : Cx) (e : Expr) : TT := fun σ H Q => ∀ pins s, Inv X pins σ H s → wpAny (model X.prog X.w) X.A (isTrue e X.env (eval e X.env)) (TP X pins σ Q) X.xe s
theorem WT.pt (X : Cx) (e : Expr) : PT X e (WT X e) := ⟨fun pins s _ _ _ I h => h pins s I⟩
def WB (X : Cx) (e : Expr) : TT := fun σ H Q => ∀ whole pins s, Inv X pins σ H s → wpAny (model X.prog X.w) X.A (isTrue e X.env whole) (TP X pins σ Q) X.xe s
theorem WB.pw (X : Cx) (e : Expr) : PW X e (WB X e) := ⟨fun wh pins s _ _ _ I h => h wh pins s I⟩
def WA (X : Cx) (es : List Expr) : TA := fun σ H Q => ∀ pos pins s, Inv X pins σ H s → wpAny (model X.prog X.w) X.A (spliced (backTo pos (starEach es X.env))) (AP X pins σ Q) X.xe s
theorem WA.pa (X : Cx) (es : List Expr) : PA X es (WA X es) := ⟨fun pos pins s _ _ _ I h => h pos pins s I⟩
def WS (X : Cx) (st : Stmt) : TS := fun D σ H => ∀ pins s, Inv X pins σ H s → wpAny (model X.prog X.w) X.A (exec st X.env) (SP X pins D) X.xe s
theorem WS.ps (X : Cx) (st : Stmt) : PS X st (WS X st) := ⟨fun pins s _ _ _ I h => h pins s I⟩
def WSs (X : Cx) (sts : List Stmt) : TS := fun D σ H => ∀ pins s, Inv X pins σ H s → wpAny (model X.prog X.w) X.A (execs sts X.env) (SP X pins D) X.xe s
theorem WSs.pss (X : Cx) (sts : List Stmt) : PSs X sts (WSs X sts) := ⟨fun pins s _ _ _ I h => h pins s I⟩
def WG (X : Cx) (tg : Expr) : TG := fun v σ H Q => ∀ pins s u, Inv X pins σ H s → RelV v u → wpAny (model X.prog X.w) X.A (assign tg X.env u) (fun _ s' => ∃ σ' H', Inv X pins σ' H' s' ∧ Q σ' H') X.xe s
theorem WG.pg (X : Cx) (tg : Expr) : PG X tg (WG X tg) := ⟨fun pins s _ _ _ u _ I r h => h pins s u I r⟩
def WI (X : Cx) (tg iter : Expr) : TI := fun σ H R => ∀ pins s, Inv X pins σ H s → wpAny (model X.prog X.w) X.A (eval iter X.env) (fun v s1 => wpAny (model X.prog X.w) X.A (pyIter v) (PIE X pins σ tg R) X.xe s1) X.xe s
theorem WI.pi (X : Cx) (tg iter : Expr) : PI X tg iter (WI X tg iter) := ⟨fun pins s _ _ _ I h => h pins s I⟩
theorem of_pe {X : Cx} {e : Expr} {t : TE} {σ : St} {H : Hp} {Q : VK} (h : PE X e t) (q : t σ H Q) : WE X e σ H Q := fun pins s I => h.run pins s σ H Q I q
theorem of_pt {X : Cx} {e : Expr} {t : TT} {σ : St} {H : Hp} {Q : Bool → Hp → Prop} (h : PT X e t) (q : t σ H Q) : WT X e σ H Q := fun pins s I => h.run pins s σ H Q I q
theorem of_pw {X : Cx} {e : Expr} {t : TT} {σ : St} {H : Hp} {Q : Bool → Hp → Prop} (h : PW X e t) (q : t σ H Q) : WB X e σ H Q := fun wh pins s I => h.run wh pins s σ H Q I q
theorem of_pa {X : Cx} {es : List Expr} {t : TA} {σ : St} {H : Hp} {Q : List V → Hp → Prop} (h : PA X es t) (q : t σ H Q) : WA X es σ H Q := fun pos pins s I => h.run pos pins s σ H Q I q
theorem of_ps {X : Cx} {st : Stmt} {t : TS} {σ : St} {H : Hp} {E : Ends} (h : PS X st t) (q : t E σ H) : WS X st E σ H := fun pins s I => h.run pins s σ H E I q
theorem of_pss {X : Cx} {st : List Stmt} {t : TS} {σ : St} {H : Hp} {E : Ends} (h : PSs X st t) (q : t E σ H) : WSs X st E σ H := fun pins s I => h.run pins s σ H E I q
theorem of_pg {X : Cx} {e : Expr} {t : TG} {v : V} {σ : St} {H : Hp} {Q : St → Hp → Prop} (h : PG X e t) (q : t v σ H Q) : WG X e v σ H Q := fun pins s u I r => h.run pins s σ H v u Q I r q
theorem of_pi {X : Cx} {tg iter : Expr} {t : TI} {σ : St} {H : Hp} {R : It → Hp → Prop} (h : PI X tg iter t) (q : t σ H R) : WI X tg iter σ H R := fun pins s I => h.run pins s σ H R I q

/-! ### judgements -/
/-- what follows a value -/
def Kont (K : Fr) (M : List Addr) (H : Hp) (d : D) (Q : VK) : Prop := ∀ v H', Same H H' → Rep K (hid M H') d v → Q v H'
def ED (C : CxD) (δ : DS) (μ : Mu) (e : Expr) (d : D) : Prop := ∀ X, IsCx C X → ∀ M0 σ H, StE C.K M0 μ δ σ H → ∀ Q : VK, Kont C.K (μ.as ++ M0) H d Q → WE X e σ H Q
def TD (C : CxD) (δ : DS) (μ : Mu) (e : Expr) (b : Bool) : Prop := ∀ X, IsCx C X → ∀ M0 σ H, StE C.K M0 μ δ σ H → ∀ Q : Bool → Hp → Prop, (∀ H', Same H H' → Q b H') → WT X e σ H Q
def BD (C : CxD) (δ : DS) (μ : Mu) (e : Expr) (b : Bool) : Prop := ∀ X, IsCx C X → ∀ M0 σ H, StE C.K M0 μ δ σ H → ∀ Q : Bool → Hp → Prop, (∀ H', Same H H' → Q b H') → WB X e σ H Q
def AD (C : CxD) (δ : DS) (μ : Mu) (es : List Expr) (ds : List D) : Prop := ∀ X, IsCx C X → ∀ M0 σ H, StE C.K M0 μ δ σ H → ∀ Q : List V → Hp → Prop, (∀ vs H', Same H H' → Reps C.K (hid (μ.as ++ M0) H') ds vs → Q vs H') → WA X es σ H Q
/-- two-place operations on data -/
def EvR (K : Fr) (r : R2) (a b d : D) : Prop := ∀ (M : List Addr) (H : Hp) (x y : V), Dom M H → Rep K (hid M H) a x → Rep K (hid M H) b y → ∀ Q : VK, Kont K M H d Q → r x y H Q
def BinD (C : CxD) (op : Operator) (a b d : D) : Prop := ∃ r : R2, (∀ X, IsCx C X → OpR X (binaryOp op) r) ∧ EvR C.K r a b d
def CmpD (C : CxD) (op : CmpOp) (a b d : D) : Prop := ∃ r : R2, (∀ X, IsCx C X → OpR X (compareOp op) r) ∧ EvR C.K r a b d

section
variable {C : CxD} {δ : DS} {μ : Mu} {e a b c : Expr} {d da db dc : D} {pos : Pos}
theorem ED.var (i : Nat) {x : Str} (hN : C.N[i]? = some x) (hv : Vis C.sc x) (hδ : δ[i]? = some (some d)) (hd : (x == ("__debug__" : Str)) = false) (hcd : (x == ("__classdict__" : Str)) = false) : ED C δ μ (.Name x pos) d := by
  intro X h M0 σ H s Q q
  refine of_pe (pe_var (i := i) (x := x) (by rw [h.N]; exact hN) (by rw [h.sc]; exact hv) hd hcd) ?_
  obtain ⟨v, h1, h2⟩ := s.sl i d hδ
  exact ⟨v, h1, q v H (Same.refl H) h2⟩
theorem ED.int {i : Int} {j} : ED C δ μ (.Constant (.int i) j pos) (.int i) := fun X h M0 σ H s Q q => of_pe pe_int (q _ H (Same.refl H) (rep_int.mpr rfl))
theorem ED.str {i : Str} {j} : ED C δ μ (.Constant (.str i) j pos) (.str i) := fun X h M0 σ H s Q q => of_pe pe_str (q _ H (Same.refl H) (rep_str.mpr rfl))
theorem ED.bl {i : Bool} {j} : ED C δ μ (.Constant (.bool i) j pos) (.bl i) := fun X h M0 σ H s Q q => of_pe pe_bl (q _ H (Same.refl H) (rep_bl.mpr rfl))
theorem ED.non {j} : ED C δ μ (.Constant .none j pos) .non := fun X h M0 σ H s Q q => of_pe pe_non (q _ H (Same.refl H) (rep_non.mpr rfl))
/-- a module's constant -/
theorem ED.glob {x : Str} {v : V} {u : Value} (hg : GlD C x) (hm : C.g.mg x = some u) (r : RelV v u) (hr : ∀ H, Rep C.K H d v) (hd : (x == ("__debug__" : Str)) = false) : ED C δ μ (.Name x pos) d := by
  intro X h M0 σ H s Q q
  refine of_pe (pe_glob (v := v) (by show X.env.scope.names.lookup x = _; rw [h.sc]; exact hg) (by rw [h.mg]; exact hm) r hd) ?_
  exact q v H (Same.refl H) (hr _)
/-- a built-in's name -/
theorem ED.blt {x : Str} {v : V} {u : Value} (hg : GlD C x) (hm : C.g.mg x = none) (hv : bootBuiltins x = some u) (r : RelV v u) (hr : ∀ H, Rep C.K H d v) (hn : x ≠ "__name__") (hd : (x == ("__debug__" : Str)) = false) : ED C δ μ (.Name x pos) d := by
  intro X h M0 σ H s Q q
  refine of_pe (pe_bltn (v := v) (by show X.env.scope.names.lookup x = _; rw [h.sc]; exact hg) (by rw [h.mg]; exact hm) hv r hn hd) ?_
  exact q v H (Same.refl H) (hr _)
/-- two in a row -/
theorem two {X : Cx} {M0 : List Addr} {σ : St} {H : Hp} {r : R2} {Q : VK} (h : IsCx C X) (s : StE C.K M0 μ δ σ H) (ha : ED C δ μ a da) (hb : ED C δ μ b db) (hr : EvR C.K r da db d) (q : Kont C.K (μ.as ++ M0) H d Q) : tOp r (WE X a) (WE X b) σ H Q := by
  refine ha X h M0 σ H s _ fun x H1 e1 r1 => ?_
  refine hb X h M0 σ H1 (s.mono e1) _ fun y H2 e2 r2 => ?_
  exact hr _ H2 x y (s.domA.mono (e1.trans e2)) (Rep.mono (hid_same e2) _ _ r1) r2 Q fun v H' e3 r3 => q v H' ((e1.trans e2).trans e3) r3
theorem ED.bin {op : Operator} (ha : ED C δ μ a da) (hb : ED C δ μ b db) (ho : BinD C op da db d) : ED C δ μ (.BinOp a op b pos) d := by
  intro X h M0 σ H s Q q
  obtain ⟨r, h1, h2⟩ := ho
  exact of_pe (pe_op (h1 X h) (WE.pe X a) (WE.pe X b)) (two h s ha hb h2 q)
theorem ED.cmp {op : CmpOp} (ha : ED C δ μ a da) (hb : ED C δ μ b db) (ho : CmpD C op da db d) (hm : behindInMarks op b = false) : ED C δ μ (.Compare a [op] [b] pos) d := by
  intro X h M0 σ H s Q q
  obtain ⟨r, h1, h2⟩ := ho
  exact of_pe (pe_cmpR (h1 X h) (WE.pe X a) (WE.pe X b) hm) (two h s ha hb h2 q)
theorem TD.cmp {op : CmpOp} {k : Bool} (ha : ED C δ μ a da) (hb : ED C δ μ b db) (ho : CmpD C op da db (.bl k)) (hm : behindInMarks op b = false) : TD C δ μ (.Compare a [op] [b] pos) k := by
  intro X h M0 σ H s Q q
  obtain ⟨r, h1, h2⟩ := ho
  refine of_pt (pt_cmpR (h1 X h) (WE.pe X a) (WE.pe X b) hm) ?_
  refine two h s ha hb h2 fun v H' e r => ?_
  exact ⟨k, rep_bl.mp r, q H' e⟩
/-- an expression that gives a truth, as a test -/
theorem TD.val {k : Bool} (he : ED C δ μ e (.bl k)) (hw : ∀ env whole, isTrue e env whole = (do let v ← whole; standAt e.pos; holding [v] (truthy v))) : TD C δ μ e k := by
  intro X h M0 σ H s Q q
  refine of_pt (pt_val (WE.pe X e) (hw _)) ?_
  exact he X h M0 σ H s _ fun v H' e r => ⟨k, rep_bl.mp r, q H' e⟩
theorem TD.not {k : Bool} (h1 : TD C δ μ a k) : TD C δ μ (.UnaryOp .Not a pos) (!k) := by
  intro X h M0 σ H s Q q
  exact of_pt (pt_not (WT.pt X a)) (h1 X h M0 σ H s _ fun H' e => q H' e)
theorem ED.not {k : Bool} (h1 : ED C δ μ a (.bl k)) : ED C δ μ (.UnaryOp .Not a pos) (.bl (!k)) := by
  intro X h M0 σ H s Q q
  refine of_pe (pe_not (WE.pe X a)) ?_
  exact h1 X h M0 σ H s _ fun v H' e r => ⟨k, rep_bl.mp r, q _ H' e (rep_bl.mpr rfl)⟩
/-! and, or: as tests -/
theorem BD.td {k : Bool} (h1 : BD C δ μ e k) : TD C δ μ e k := fun X h M0 σ H s Q q pins st I => h1 X h M0 σ H s Q q _ pins st I
variable {rest : List Expr} {k k2 : Bool}
theorem BD.and1 (h1 : TD C δ μ a k) : BD C δ μ (.BoolOp .And [a] pos) k := fun X h M0 σ H s Q q => of_pw (pw_and1 (WT.pt X a)) (h1 X h M0 σ H s Q q)
theorem BD.or1 (h1 : TD C δ μ a k) : BD C δ μ (.BoolOp .Or [a] pos) k := fun X h M0 σ H s Q q => of_pw (pw_or1 (WT.pt X a)) (h1 X h M0 σ H s Q q)
theorem BD.andF (h1 : TD C δ μ a false) : BD C δ μ (.BoolOp .And (a :: b :: rest) pos) false := by
  intro X h M0 σ H s Q q
  refine of_pw (pw_and (WT.pt X a) (WB.pw X _)) ?_
  exact h1 X h M0 σ H s _ fun H' e => iteF (q H' e)
theorem BD.andT (h1 : TD C δ μ a true) (h2 : BD C δ μ (.BoolOp .And (b :: rest) pos) k) : BD C δ μ (.BoolOp .And (a :: b :: rest) pos) k := by
  intro X h M0 σ H s Q q
  refine of_pw (pw_and (WT.pt X a) (WB.pw X _)) ?_
  exact h1 X h M0 σ H s _ fun H' e => iteT (h2 X h M0 σ H' (s.mono e) _ fun H2 e2 => q H2 (e.trans e2))
theorem BD.and (h1 : TD C δ μ a k) (h2 : k = true → BD C δ μ (.BoolOp .And (b :: rest) pos) k2) : BD C δ μ (.BoolOp .And (a :: b :: rest) pos) (k && k2) := by
  cases k with
  | false => exact BD.andF h1
  | true => exact BD.andT h1 (h2 rfl)
theorem BD.orT (h1 : TD C δ μ a true) : BD C δ μ (.BoolOp .Or (a :: b :: rest) pos) true := by
  intro X h M0 σ H s Q q
  refine of_pw (pw_or (WT.pt X a) (WB.pw X _)) ?_
  exact h1 X h M0 σ H s _ fun H' e => iteT (q H' e)
theorem BD.orF (h1 : TD C δ μ a false) (h2 : BD C δ μ (.BoolOp .Or (b :: rest) pos) k) : BD C δ μ (.BoolOp .Or (a :: b :: rest) pos) k := by
  intro X h M0 σ H s Q q
  refine of_pw (pw_or (WT.pt X a) (WB.pw X _)) ?_
  exact h1 X h M0 σ H s _ fun H' e => iteF (h2 X h M0 σ H' (s.mono e) _ fun H2 e2 => q H2 (e.trans e2))
theorem BD.or (h1 : TD C δ μ a k) (h2 : k = false → BD C δ μ (.BoolOp .Or (b :: rest) pos) k2) : BD C δ μ (.BoolOp .Or (a :: b :: rest) pos) (k || k2) := by
  cases k with
  | true => exact BD.orT h1
  | false => exact BD.orF h1 (h2 rfl)
/-! and, or: as values -/
theorem ED.one {op} (h1 : ED C δ μ a d) : ED C δ μ (.BoolOp op [a] pos) d := fun X h M0 σ H s Q q => of_pe (pe_one (WE.pe X a)) (h1 X h M0 σ H s Q q)
theorem ED.and (h1 : ED C δ μ a (.bl k)) (h2 : k = true → ED C δ μ (.BoolOp .And (b :: rest) pos) (.bl k2)) : ED C δ μ (.BoolOp .And (a :: b :: rest) pos) (.bl (k && k2)) := by
  intro X h M0 σ H s Q q
  refine of_pe (pe_and (WE.pe X a) (WE.pe X _)) ?_
  refine h1 X h M0 σ H s _ fun v H' e r => ⟨k, rep_bl.mp r, ?_⟩
  cases k with
  | true => exact iteT (h2 rfl X h M0 σ H' (s.mono e) _ fun v H2 e2 r2 => q v H2 (e.trans e2) r2)
  | false => exact iteF (q _ H' e (rep_bl.mpr rfl))
theorem ED.or (h1 : ED C δ μ a (.bl k)) (h2 : k = false → ED C δ μ (.BoolOp .Or (b :: rest) pos) (.bl k2)) : ED C δ μ (.BoolOp .Or (a :: b :: rest) pos) (.bl (k || k2)) := by
  intro X h M0 σ H s Q q
  refine of_pe (pe_or (WE.pe X a) (WE.pe X _)) ?_
  refine h1 X h M0 σ H s _ fun v H' e r => ⟨k, rep_bl.mp r, ?_⟩
  cases k with
  | false => exact iteF (h2 rfl X h M0 σ H' (s.mono e) _ fun v H2 e2 r2 => q v H2 (e.trans e2) r2)
  | true => exact iteT (q _ H' e (rep_bl.mpr rfl))
/-! chains -/
theorem TD.chainF {op op' : CmpOp} {k0} (ha : ED C δ μ a da) (hb : ED C δ μ b db) (ho : CmpD C op da db (.bl false)) (ho' : ∃ r : R2, ∀ X, IsCx C X → OpR X (compareOp op') r) (hk0 : k0 = false)
    (hm : lastMarks [op, op'] [b, c] = false) :
    TD C δ μ (.Compare a [op, op'] [b, c] pos) k0 := by
  intro X h M0 σ H s Q q
  subst hk0
  obtain ⟨r, h1, h2⟩ := ho
  obtain ⟨r', h1'⟩ := ho'
  refine of_pt (pt_chain (h1 X h) (h1' X h) (WE.pe X a) (WE.pe X b) (WE.pe X c) hm) ?_
  refine ha X h M0 σ H s _ fun x H1 e1 r1 => ?_
  refine hb X h M0 σ H1 (s.mono e1) _ fun y H2 e2 r2 => ?_
  refine h2 _ H2 x y (s.domA.mono (e1.trans e2)) (Rep.mono (hid_same e2) _ _ r1) r2 _ fun v H3 e3 r3 => ⟨false, rep_bl.mp r3, iteF ?_⟩
  exact ⟨false, rfl, q H3 ((e1.trans e2).trans e3)⟩
theorem TD.chainT {op op' : CmpOp} (ha : ED C δ μ a da) (hb : ED C δ μ b db) (hc : ED C δ μ c dc) (ho : CmpD C op da db (.bl true)) (ho' : CmpD C op' db dc (.bl k))
    (hm : lastMarks [op, op'] [b, c] = false) :
    TD C δ μ (.Compare a [op, op'] [b, c] pos) k := by
  intro X h M0 σ H s Q q
  obtain ⟨r, h1, h2⟩ := ho
  obtain ⟨r', h1', h2'⟩ := ho'
  refine of_pt (pt_chain (h1 X h) (h1' X h) (WE.pe X a) (WE.pe X b) (WE.pe X c) hm) ?_
  refine ha X h M0 σ H s _ fun x H1 e1 r1 => ?_
  refine hb X h M0 σ H1 (s.mono e1) _ fun y H2 e2 r2 => ?_
  refine h2 _ H2 x y (s.domA.mono (e1.trans e2)) (Rep.mono (hid_same e2) _ _ r1) r2 _ fun v H3 e3 r3 => ⟨true, rep_bl.mp r3, iteT ?_⟩
  refine hc X h M0 σ H3 (s.mono ((e1.trans e2).trans e3)) _ fun z H4 e4 r4 => ?_
  refine h2' _ H4 y z (s.domA.mono (((e1.trans e2).trans e3).trans e4)) (Rep.mono (hid_same (e3.trans e4)) _ _ r2) r4 _ fun v H5 e5 r5 => ?_
  exact ⟨k, rep_bl.mp r5, q H5 ((((e1.trans e2).trans e3).trans e4).trans e5)⟩
end
end DL
namespace DL
open PySem L2

/-! ### operators -/
section
variable {C : CxD} {K : Fr} {i j : Int} {x y : Str}
theorem Kont.at_ {K : Fr} {M : List Addr} {H : Hp} {d : D} {Q : VK} {v : V} (q : Kont K M H d Q) (r : Rep K (hid M H) d v) : Q v H := q v H (Same.refl H) r
theorem Kont.new {K : Fr} {M : List Addr} {H : Hp} {d : D} {Q : VK} {p : Addr} {o : HO} (q : Kont K M H d Q) (h : H p = none) (r : Rep K (hid M (upd H p o)) d (.ref p)) : Q (.ref p) (upd H p o) := q _ _ (same_upd h) r
theorem evI0 {g : Int → Int → V} {d : D} (hd : ∀ H, Rep K H d (g i j)) : EvR K (rI0 g) (.int i) (.int j) d := fun M H a b _ ra rb Q q =>
  ⟨i, j, rep_int.mp ra, rep_int.mp rb, q.at_ (hd _)⟩
theorem evI {c : Int → Int → Prop} {g : Int → Int → V} {d : D} (hc : c i j) (hd : ∀ H, Rep K H d (g i j)) : EvR K (rI c g) (.int i) (.int j) d := fun M H a b _ ra rb Q q =>
  ⟨i, j, rep_int.mp ra, rep_int.mp rb, hc, q.at_ (hd _)⟩
theorem rint (k : Int) : ∀ H, Rep K H (.int k) (.int k) := fun _ => rep_int.mpr rfl
theorem rbl (k : Bool) : ∀ H, Rep K H (.bl k) (.bl k) := fun _ => rep_bl.mpr rfl
theorem rstr (k : Str) : ∀ H, Rep K H (.str k) (.str k) := fun _ => rep_str.mpr rfl
theorem bAdd : BinD C .Add (.int i) (.int j) (.int (i + j)) := ⟨_, fun _ _ => op_add, evI0 (rint _)⟩
theorem bSub : BinD C .Sub (.int i) (.int j) (.int (i - j)) := ⟨_, fun _ _ => op_sub, evI0 (rint _)⟩
theorem bMul (h : CMul i j) : BinD C .Mult (.int i) (.int j) (.int (i * j)) := ⟨_, fun _ _ => op_mul, evI h (rint _)⟩
theorem bMulW (h : CMulW i j) : BinD C .Mult (.int i) (.int j) (.int (i * j)) := ⟨_, fun _ _ => op_mulW, evI h (rint _)⟩
theorem bDiv (h : CDiv i j) : BinD C .FloorDiv (.int i) (.int j) (.int (i / j)) := ⟨_, fun _ _ => op_fdiv, evI h (rint _)⟩
theorem bDivW (h : CDivW i j) : BinD C .FloorDiv (.int i) (.int j) (.int (i / j)) := ⟨_, fun _ _ => op_fdivW, evI h (rint _)⟩
theorem bMod (h : 0 < j) : BinD C .Mod (.int i) (.int j) (.int (i % j)) := ⟨_, fun _ _ => op_mod, evI h (rint _)⟩
theorem bModN (h : j ≠ 0) : BinD C .Mod (.int i) (.int j) (.int (i.fmod j)) := ⟨_, fun _ _ => op_modN, evI h (rint _)⟩
theorem bPow (h : CPow i j) : BinD C .Pow (.int i) (.int j) (.int (i ^ j.toNat)) := ⟨_, fun _ _ => op_pow, evI h (rint _)⟩
theorem bShl (h : CPow i j) : BinD C .LShift (.int i) (.int j) (.int (i * 2 ^ j.toNat)) := ⟨_, fun _ _ => op_shl, evI h (rint _)⟩
theorem bShr (h : 0 ≤ j) : BinD C .RShift (.int i) (.int j) (.int (i / 2 ^ j.toNat)) := ⟨_, fun _ _ => op_shr, evI h (rint _)⟩
theorem bAddS (h : x.length + y.length ≤ sizeLine) : BinD C .Add (.str x) (.str y) (.str (x ++ y)) := ⟨_, fun _ _ => op_add_str, fun M H a b _ ra rb Q q => ⟨x, y, rep_str.mp ra, rep_str.mp rb, h, q.at_ (rstr _ _)⟩⟩
theorem cEqI : CmpD C .Eq (.int i) (.int j) (.bl (decide (i = j))) := ⟨_, fun _ _ => op_eq, fun M H a b _ ra rb Q q => by
  rw [rep_int.mp ra, rep_int.mp rb]
  refine ⟨rfl, q.at_ ?_⟩
  rw [dec_int, Bool.beq_eq_decide_eq]
  exact rbl _ _⟩
theorem cNeI : CmpD C .NotEq (.int i) (.int j) (.bl (!decide (i = j))) := ⟨_, fun _ _ => op_ne, fun M H a b _ ra rb Q q => by
  rw [rep_int.mp ra, rep_int.mp rb]
  refine ⟨rfl, q.at_ ?_⟩
  rw [dec_int, Bool.beq_eq_decide_eq]
  exact rbl _ _⟩
theorem cEqS : CmpD C .Eq (.str x) (.str y) (.bl (decide (x = y))) := ⟨_, fun _ _ => op_eq, fun M H a b _ ra rb Q q => by
  rw [rep_str.mp ra, rep_str.mp rb]
  refine ⟨rfl, q.at_ ?_⟩
  rw [dec_str, Bool.beq_eq_decide_eq]
  exact rbl _ _⟩
theorem cNeS : CmpD C .NotEq (.str x) (.str y) (.bl (!decide (x = y))) := ⟨_, fun _ _ => op_ne, fun M H a b _ ra rb Q q => by
  rw [rep_str.mp ra, rep_str.mp rb]
  refine ⟨rfl, q.at_ ?_⟩
  rw [dec_str, Bool.beq_eq_decide_eq]
  exact rbl _ _⟩
theorem cLt : CmpD C .Lt (.int i) (.int j) (.bl (decide (i < j))) := ⟨_, fun _ _ => op_lt, evI0 (rbl _)⟩
theorem cLe : CmpD C .LtE (.int i) (.int j) (.bl (decide (i ≤ j))) := ⟨_, fun _ _ => op_le, evI0 (rbl _)⟩
theorem cGt : CmpD C .Gt (.int i) (.int j) (.bl (decide (j < i))) := ⟨_, fun _ _ => op_gt, evI0 (rbl _)⟩
theorem cGe : CmpD C .GtE (.int i) (.int j) (.bl (decide (j ≤ i))) := ⟨_, fun _ _ => op_ge, evI0 (rbl _)⟩
theorem CmpD.to {op : CmpOp} {a b : D} {k k' : Bool} (h : CmpD C op a b (.bl k)) (e : k = k') : CmpD C op a b (.bl k') := e ▸ h
theorem cInSign {c : Nat} : CmpD C .In (.str ⟨#[c]⟩) (.str y) (.bl (decide (c ∈ y.cps.toList))) := ⟨_, fun _ _ => op_in_sign, fun M H a b _ ra rb Q q => ⟨c, y, rep_str.mp ra, rep_str.mp rb, q.at_ (rbl _ _)⟩⟩
theorem inV_str {x : Str} : ∀ {xs : List Str}, inV (.str x) (xs.map V.str) = decide (x ∈ xs)
  | [] => rfl
  | y :: xs => by
    have ih := @inV_str x xs
    unfold inV at ih ⊢
    rw [List.map_cons, List.any_cons, ih]
    have e : eqV (.str y) (.str x) = decide (y = x) := by
      show (y == x) = decide (y = x)
      exact Bool.beq_eq_decide_eq y x
    rw [e]
    by_cases h : y = x
    · subst h; simp
    · have h' : ¬ x = y := fun z => h z.symm
      simp [h, h']
theorem inV_int {x : Int} : ∀ {xs : List Int}, inV (.int x) (xs.map V.int) = decide (x ∈ xs)
  | [] => rfl
  | y :: xs => by
    have ih := @inV_int x xs
    unfold inV at ih ⊢
    rw [List.map_cons, List.any_cons, ih]
    have e : eqV (.int y) (.int x) = decide (y = x) := by
      show (y == x) = decide (y = x)
      exact Bool.beq_eq_decide_eq y x
    rw [e]
    by_cases h : y = x
    · subst h; simp
    · have h' : ¬ x = y := fun z => h z.symm
      simp [h, h']
theorem flat_strs : ∀ xs : List Str, (xs.map V.str).all flatV = true
  | [] => rfl
  | _ :: xs => by rw [List.map_cons, List.all_cons, flat_strs xs]; rfl
theorem flat_ints : ∀ xs : List Int, (xs.map V.int).all flatV = true
  | [] => rfl
  | _ :: xs => by rw [List.map_cons, List.all_cons, flat_ints xs]; rfl
theorem cInS {xs : List Str} : CmpD C .In (.str x) (.tup (xs.map D.str)) (.bl (decide (x ∈ xs))) := ⟨_, fun X h => (by have := @op_in_seq X; rw [h.K] at this; exact this), fun M H a b _ ra rb Q q => by
  obtain ⟨p, vs, e1, h1, h2⟩ := rep_tup.mp rb
  rw [reps_strs_eq h2] at h1
  rw [rep_str.mp ra]
  refine ⟨p, xs.map V.str, e1, .inr (SqT.same hid_le h1), rfl, flat_strs xs, q.at_ ?_⟩
  show Rep C.K _ _ (V.bl (inV _ _))
  rw [inV_str]
  exact rbl _ _⟩
theorem cNotInI {xs : List Int} : CmpD C .NotIn (.int i) (.tup (xs.map D.int)) (.bl (!decide (i ∈ xs))) := ⟨_, fun X h => (by have := @op_notIn_seq X; rw [h.K] at this; exact this), fun M H a b _ ra rb Q q => by
  obtain ⟨p, vs, e1, h1, h2⟩ := rep_tup.mp rb
  rw [reps_ints_eq h2] at h1
  rw [rep_int.mp ra]
  refine ⟨p, xs.map V.int, e1, .inr (SqT.same hid_le h1), rfl, flat_ints xs, q.at_ ?_⟩
  show Rep C.K _ _ (V.bl (!inV _ _))
  rw [inV_int]
  exact rbl _ _⟩
/-! data of any depth -/
mutual
def py : D → PyData
  | .int i => .int i
  | .str x => .str x
  | .bl b => .bool b
  | .tup ds => .tuple (pys ds)
  | .lst ds => .list (pys ds)
  | .lsr ds => .list (pys ds)
  | _ => .none
def pys : List D → List PyData
  | [] => []
  | d :: ds => py d :: pys ds
end
mutual
def plain : D → Bool
  | .int _ => true
  | .str _ => true
  | .bl _ => true
  | .non => true
  | .tup ds => plains ds
  | .lst ds => plains ds
  | .lsr ds => plains ds
  | _ => false
def plains : List D → Bool
  | [] => true
  | d :: ds => plain d && plains ds
end
mutual
theorem dp_of {K : Fr} {H : Hp} : ∀ (d : D) (v : V), plain d = true → Rep K H d v → Dp K H v (py d)
  | .non, v, _, h => by rw [rep_non.mp h]; exact .non
  | .bl b, v, _, h => by rw [rep_bl.mp h]; exact .bl b
  | .int i, v, _, h => by rw [rep_int.mp h]; exact .int i
  | .str x, v, _, h => by rw [rep_str.mp h]; exact .str x
  | .ty n, v, p, h => by simp [plain] at p
  | .ptr a, v, p, h => by simp [plain] at p
  | .obj _ _ _, v, p, h => by simp [plain] at p
  | .tup ds, v, p, h => by
    obtain ⟨a, xs, rfl, h1, h2⟩ := rep_tup.mp h
    exact .tup h1 (dps_of ds xs (by simpa [plain] using p) h2)
  | .lst ds, v, p, h => by
    obtain ⟨a, xs, rfl, h1, h2⟩ := rep_lst.mp h
    exact .lst (SqL.of h1) (dps_of ds xs (by simpa [plain] using p) h2)
  | .lsr ds, v, p, h => by
    obtain ⟨a, xs, rfl, h1, h2⟩ := rep_lsr.mp h
    exact .lst h1 (dps_of ds xs (by simpa [plain] using p) h2)
theorem dps_of {K : Fr} {H : Hp} : ∀ (ds : List D) (vs : List V), plains ds = true → Reps K H ds vs → DpAll K H vs (pys ds)
  | [], vs, _, h => by rw [h.unnil]; exact .nil
  | d :: ds, vs, p, h => by
    obtain ⟨v, r, rfl, h1, h2⟩ := h.uncons
    have p' : plain d = true ∧ plains ds = true := by simpa [plains] using p
    exact .cons (dp_of d v p'.1 h1) (dps_of ds r p'.2 h2)
end
theorem cEqD {a b : D} {k : Bool} (pa : plain a = true) (pb : plain b = true) (sa : SeqAt.shaped (py a) = true) (sb : SeqAt.shaped (py b) = true) (hk : PyData.eqv (py a) (py b) = k) : CmpD C .Eq a b (.bl k) :=
  ⟨_, fun X h => (by have := @op_eqD X h.room.units; rw [h.K] at this; exact this), fun M H x y _ ra rb Q q => by
    refine ⟨py a, py b, dp_of a x pa (Rep.mono hid_le _ _ ra), dp_of b y pb (Rep.mono hid_le _ _ rb), sa, sb, q.at_ ?_⟩
    rw [hk]
    exact rbl _ _⟩
theorem cNeD {a b : D} {k : Bool} (pa : plain a = true) (pb : plain b = true) (sa : SeqAt.shaped (py a) = true) (sb : SeqAt.shaped (py b) = true) (hk : (!PyData.eqv (py a) (py b)) = k) : CmpD C .NotEq a b (.bl k) :=
  ⟨_, fun X h => (by have := @op_neD X h.room.units; rw [h.K] at this; exact this), fun M H x y _ ra rb Q q => by
    refine ⟨py a, py b, dp_of a x pa (Rep.mono hid_le _ _ ra), dp_of b y pb (Rep.mono hid_le _ _ rb), sa, sb, q.at_ ?_⟩
    rw [hk]
    exact rbl _ _⟩
theorem cNotInD {a : D} {ds : List D} {k : Bool} (pa : plain a = true) (pb : plains ds = true) (sa : SeqAt.shaped (py a) = true) (sb : SeqAt.shaped (.list (pys ds)) = true) (hk : (!(pys ds).any fun z => PyData.eqv z (py a)) = k) (hkk : 1 ≤ C.k) : CmpD C .NotIn a (.lst ds) (.bl k) :=
  ⟨_, fun X h => (by
    have hu : X.A.units + 65 < cLine := by have := h.room.un; omega
    have := @op_notInD X hu
    rw [h.K] at this
    exact this), fun M H x y _ ra rb Q q => by
    refine ⟨py a, pys ds, dp_of a x pa (Rep.mono hid_le _ _ ra), dp_of (.lst ds) y (by simpa [plain] using pb) (Rep.mono hid_le _ _ rb), sa, sb, q.at_ ?_⟩
    rw [hk]
    exact rbl _ _⟩
/-- list + list -/
theorem bCat {ds es : List D} (h : ds.length + es.length ≤ sizeLine) : BinD C .Add (.lst ds) (.lst es) (.lst (ds ++ es)) := ⟨_, fun _ _ => op_cat, fun M H x y dm ra rb Q q => by
  obtain ⟨a, xs, rfl, h1, h2⟩ := rep_lst.mp ra
  obtain ⟨b, ys, rfl, h3, h4⟩ := rep_lst.mp rb
  refine ⟨a, b, xs, ys, rfl, rfl, (hid_some h1).2, (hid_some h3).2, by rw [← h2.len, ← h4.len]; exact h, fun p hp => q.new hp ?_⟩
  refine rep_lst.mpr ⟨p, _, rfl, hid_new dm hp, ?_⟩
  exact (Reps.mono (hid_same (same_upd hp)) _ _ h2).append (Reps.mono (hid_same (same_upd hp)) _ _ h4)⟩
/-- tuple + tuple -/
theorem bCatT {ds es : List D} (h : ds.length + es.length ≤ sizeLine) : BinD C .Add (.tup ds) (.tup es) (.tup (ds ++ es)) := ⟨_, fun X hx => (by have := @op_catA X; rw [hx.K] at this; exact this), fun M H x y dm ra rb Q q => by
  obtain ⟨a, xs, rfl, h1, h2⟩ := rep_tup.mp ra
  obtain ⟨b, ys, rfl, h3, h4⟩ := rep_tup.mp rb
  refine ⟨a, b, xs, ys, rfl, rfl, SqT.same hid_le h1, SqT.same hid_le h3, by rw [← h2.len, ← h4.len]; exact h, fun e => q.at_ ?_, fun _ e => q.at_ ?_, fun _ _ p hp => q.new hp ?_⟩
  · refine rep_tup.mpr ⟨b, ys, rfl, h3, ?_⟩
    have : ds = [] := List.length_eq_zero_iff.mp (by rw [h2.len, e]; rfl)
    rw [this]
    exact h4
  · refine rep_tup.mpr ⟨a, xs, rfl, h1, ?_⟩
    have : es = [] := List.length_eq_zero_iff.mp (by rw [h4.len, e]; rfl)
    rw [this, List.append_nil]
    exact h2
  · refine rep_tup.mpr ⟨p, _, rfl, .inl (.inl (hid_new dm hp)), ?_⟩
    exact (Reps.mono (hid_same (same_upd hp)) _ _ h2).append (Reps.mono (hid_same (same_upd hp)) _ _ h4)⟩
end

/-! ### argument lists, displays -/
section
variable {C : CxD} {δ : DS} {μ : Mu} {e a b c : Expr} {es : List Expr} {d da db dc : D} {ds : List D} {pos : Pos}
abbrev Star (e : Expr) (es : List Expr) : Prop := ∀ env, starEach (e :: es) env = (false, eval e env) :: starEach es env
theorem AD.nil : AD C δ μ [] [] := fun X h M0 σ H s Q q => of_pa pa_nil (q [] H (Same.refl H) Reps.nil)
theorem AD.cons (h1 : ED C δ μ e d) (h2 : AD C δ μ es ds) (hs : Star e es) : AD C δ μ (e :: es) (d :: ds) := by
  intro X h M0 σ H s Q q
  refine of_pa (pa_cons (WE.pe X e) (WA.pa X es) (hs _)) ?_
  refine h1 X h M0 σ H s _ fun x H1 e1 r1 => ?_
  refine h2 X h M0 σ H1 (s.mono e1) _ fun xs H2 e2 r2 => ?_
  exact q _ H2 (e1.trans e2) (Reps.cons (Rep.mono (hid_same e2) _ _ r1) r2)
theorem ED.tup {x1} (h1 : AD C δ μ es ds) (hl : ds.length ≤ sizeLine) : ED C δ μ (.Tuple es x1 pos) (.tup ds) := by
  intro X h M0 σ H s Q q
  refine of_pe (pe_tup (WA.pa X es)) ?_
  refine h1 X h M0 σ H s _ fun xs H1 e1 r1 => ⟨by rw [← r1.len]; exact hl, fun p hp => ?_⟩
  refine q _ _ (e1.trans (same_upd hp)) (rep_tup.mpr ⟨p, xs, rfl, .inl (.inl (hid_new (s.domA.mono e1) hp)), Reps.mono (hid_same (same_upd hp)) _ _ r1⟩)
theorem ED.lst (h1 : AD C δ μ es ds) (hl : ds.length ≤ sizeLine) : ED C δ μ (.List es pos) (.lst ds) := by
  intro X h M0 σ H s Q q
  refine of_pe (pe_lst (WA.pa X es)) ?_
  refine h1 X h M0 σ H s _ fun xs H1 e1 r1 => ⟨by rw [← r1.len]; exact hl, fun p hp => ?_⟩
  exact q _ _ (e1.trans (same_upd hp)) (rep_lst.mpr ⟨p, xs, rfl, hid_new (s.domA.mono e1) hp, Reps.mono (hid_same (same_upd hp)) _ _ r1⟩)

/-! ### subscripts, slices -/
def SeqD (d : D) (ds : List D) : Prop := d = .tup ds ∨ d = .lst ds ∨ d = .lsr ds
theorem SeqD.sq {K : Fr} {H : Hp} {d : D} {ds : List D} {v : V} (s : SeqD d ds) (r : Rep K H d v) : ∃ a xs, v = .ref a ∧ Reps K H ds xs ∧ (SqL K H a xs ∨ SqT K H a xs) := by
  rcases s with rfl | rfl | rfl
  · obtain ⟨a, xs, h1, h2, h3⟩ := rep_tup.mp r
    exact ⟨a, xs, h1, h3, .inr h2⟩
  · obtain ⟨a, xs, h1, h2, h3⟩ := rep_lst.mp r
    exact ⟨a, xs, h1, h3, .inl (SqL.of h2)⟩
  · obtain ⟨a, xs, h1, h2, h3⟩ := rep_lsr.mp r
    exact ⟨a, xs, h1, h3, .inl h2⟩
theorem SeqD.t : SeqD (.tup ds) ds := .inl rfl
theorem SeqD.l : SeqD (.lst ds) ds := .inr (.inl rfl)
theorem SeqD.r : SeqD (.lsr ds) ds := .inr (.inr rfl)
theorem ED.ix {i : Int} {j : Nat} (h1 : ED C δ μ a da) (h2 : ED C δ μ b (.int i)) (hs : SeqD da ds) (hj : i = (j : Int)) (hd : ds[j]? = some d) (hp : PlainIx b) : ED C δ μ (.Subscript a b pos) d := by
  intro X h M0 σ H s Q q
  refine of_pe (pe_ix (ix_seq (X := X)) (WE.pe X a) (WE.pe X b) hp) ?_
  refine two h s h1 h2 (d := d) ?_ q
  intro M H x y dm ra rb Q q
  obtain ⟨p, xs, rfl, r, sq⟩ := hs.sq ra
  obtain ⟨v, hv, rv⟩ := r.get hd
  have ha : atI xs i = some v := by rw [hj]; exact atI_nat hv
  rw [rep_int.mp rb]
  rcases sq with sq | sq
  · exact .inl ⟨p, xs, i, v, rfl, rfl, by rw [h.K]; exact Same.seq hid_le sq, ha, q.at_ rv⟩
  · exact .inr (.inl ⟨p, xs, i, v, rfl, rfl, by rw [h.K]; exact SqT.same hid_le sq, ha, q.at_ rv⟩)
theorem ED.ixS {i : Int} {j k : Nat} {z : Str} (h1 : ED C δ μ a (.str z)) (h2 : ED C δ μ b (.int i)) (hj : i = (j : Int)) (hd : z.cps.toList[j]? = some k) (hl : z.length ≤ sizeLine) (hp : PlainIx b) : ED C δ μ (.Subscript a b pos) (.str ⟨#[k]⟩) := by
  intro X h M0 σ H s Q q
  refine of_pe (pe_ix (ix_str (X := X)) (WE.pe X a) (WE.pe X b) hp) ?_
  refine two h s h1 h2 (d := .str ⟨#[k]⟩) ?_ q
  intro M H x y dm ra rb Q q
  exact ⟨z, i, k, rep_str.mp ra, rep_int.mp rb, hl, by rw [hj]; exact atI_nat hd, q.at_ (rstr _ _)⟩
/-- a slice's part -/
def PD (C : CxD) (δ : DS) (μ : Mu) (e : Option Expr) (o : Option Int) : Prop := ∀ X, IsCx C X → ∃ t, PO X e t ∧ ∀ M0 σ H, StE C.K M0 μ δ σ H → ∀ Q : Option Int → Hp → Prop, (∀ H', Same H H' → Q o H') → t σ H Q
theorem PD.none : PD C δ μ none none := fun X h => ⟨_, po_none, fun M0 σ H s Q q => q H (Same.refl H)⟩
theorem PD.some {i : Int} (h1 : ED C δ μ e (.int i)) : PD C δ μ (some e) (some i) := fun X h => ⟨_, po_some (WE.pe X e), fun M0 σ H s Q q => h1 X h M0 σ H s _ fun v H' e r => ⟨i, rep_int.mp r, q H' e⟩⟩
def cutD (ds : List D) (lo hi : Option Int) : List D := (ds.drop (HT.sIx ds.length 0 lo)).take (HT.sIx ds.length ds.length hi - HT.sIx ds.length 0 lo)
theorem reps_cut {K : Fr} {H : Hp} {ds : List D} {xs : List V} (r : Reps K H ds xs) (lo hi : Option Int) : Reps K H (cutD ds lo hi) (cutV xs lo hi) := by
  unfold cutD cutV
  rw [r.len]
  exact (r.drop _).take _
variable {lo hi : Option Expr} {l u : Option Int} {p2 : Pos}
def LstD (d : D) (ds : List D) : Prop := d = .lst ds ∨ d = .lsr ds
theorem LstD.mk : LstD (.lst ds) ds := .inl rfl
theorem LstD.rd : LstD (.lsr ds) ds := .inr rfl
theorem LstD.sq {K : Fr} {H : Hp} {d : D} {ds : List D} {v : V} (s : LstD d ds) (r : Rep K H d v) : ∃ a xs, v = .ref a ∧ Reps K H ds xs ∧ SqL K H a xs := by
  rcases s with rfl | rfl
  · obtain ⟨a, xs, h1, h2, h3⟩ := rep_lst.mp r
    exact ⟨a, xs, h1, h3, SqL.of h2⟩
  · obtain ⟨a, xs, h1, h2, h3⟩ := rep_lsr.mp r
    exact ⟨a, xs, h1, h3, h2⟩
theorem ED.slL (h1 : ED C δ μ a da) (hs : LstD da ds) (hl : PD C δ μ lo l) (hu : PD C δ μ hi u) : ED C δ μ (.Subscript a (.Slice lo hi none p2) pos) (.lst (cutD ds l u)) := by
  intro X h M0 σ H s Q q
  obtain ⟨t1, p1, k1⟩ := hl X h
  obtain ⟨t2, p2', k2⟩ := hu X h
  refine of_pe (pe_slice (sl_list (X := X)) (WE.pe X a) p1 p2') ?_
  refine h1 X h M0 σ H s _ fun x H1 e1 r1 => ?_
  refine k1 M0 σ H1 (s.mono e1) _ fun H2 e2 => ?_
  refine k2 M0 σ H2 (s.mono (e1.trans e2)) _ fun H3 e3 => ?_
  obtain ⟨p, xs, rfl, r, sq⟩ := hs.sq (Rep.mono (hid_same (e2.trans e3)) _ _ r1)
  exact ⟨p, xs, rfl, by rw [h.K]; exact Same.seq hid_le sq, fun b hb => q _ _ (((e1.trans e2).trans e3).trans (same_upd hb)) (rep_lst.mpr ⟨b, _, rfl, hid_new (s.domA.mono ((e1.trans e2).trans e3)) hb, reps_cut (Reps.mono (hid_same (same_upd hb)) _ _ r) _ _⟩)⟩
theorem ED.slT (h1 : ED C δ μ a (.tup ds)) (hl : PD C δ μ lo l) (hu : PD C δ μ hi u) : ED C δ μ (.Subscript a (.Slice lo hi none p2) pos) (.tup (cutD ds l u)) := by
  intro X h M0 σ H s Q q
  obtain ⟨t1, p1, k1⟩ := hl X h
  obtain ⟨t2, p2', k2⟩ := hu X h
  refine of_pe (pe_slice (sl_tupA (X := X)) (WE.pe X a) p1 p2') ?_
  refine h1 X h M0 σ H s _ fun x H1 e1 r1 => ?_
  refine k1 M0 σ H1 (s.mono e1) _ fun H2 e2 => ?_
  refine k2 M0 σ H2 (s.mono (e1.trans e2)) _ fun H3 e3 => ?_
  obtain ⟨p, xs, rfl, sq, r⟩ := rep_tup.mp (Rep.mono (hid_same (e2.trans e3)) _ _ r1)
  refine ⟨p, xs, rfl, by rw [h.K]; exact SqT.same hid_le sq, fun hw => ?_, fun _ b hb => q _ _ (((e1.trans e2).trans e3).trans (same_upd hb)) (rep_tup.mpr ⟨b, _, rfl, .inl (.inl (hid_new (s.domA.mono ((e1.trans e2).trans e3)) hb)), reps_cut (Reps.mono (hid_same (same_upd hb)) _ _ r) _ _⟩)⟩
  refine q _ _ ((e1.trans e2).trans e3) ?_
  have e : cutD ds l u = ds := by
    unfold cutD
    rw [r.len, hw.1, hw.2, List.drop_zero, Nat.sub_zero, ← r.len, List.take_length]
  rw [e]
  exact rep_tup.mpr ⟨p, xs, rfl, sq, r⟩
theorem ED.slS {z : Str} (h1 : ED C δ μ a (.str z)) (hl : PD C δ μ lo l) (hu : PD C δ μ hi u) (hz : z.length ≤ sizeLine) : ED C δ μ (.Subscript a (.Slice lo hi none p2) pos) (.str (cutS z l u)) := by
  intro X h M0 σ H s Q q
  obtain ⟨t1, p1, k1⟩ := hl X h
  obtain ⟨t2, p2', k2⟩ := hu X h
  refine of_pe (pe_slice (sl_str (X := X)) (WE.pe X a) p1 p2') ?_
  refine h1 X h M0 σ H s _ fun x H1 e1 r1 => ?_
  refine k1 M0 σ H1 (s.mono e1) _ fun H2 e2 => ?_
  refine k2 M0 σ H2 (s.mono (e1.trans e2)) _ fun H3 e3 => ?_
  exact ⟨z, rep_str.mp r1, hz, q _ _ ((e1.trans e2).trans e3) (rstr _ _)⟩

/-! ### calls of built-ins -/
def EvC (K : Fr) (r : List V → Hp → VK → Prop) (ds : List D) (d : D) : Prop := ∀ (M : List Addr) (H : Hp) (xs : List V), Dom M H → Reps K (hid M H) ds xs → ∀ Q : VK, Kont K M H d Q → r xs H Q
def CallD (C : CxD) (f : Value) (ds : List D) (d : D) : Prop := ∃ r, (∀ X, IsCx C X → CallR X f r) ∧ EvC C.K r ds d
theorem reps1 {K : Fr} {H : Hp} {d : D} {vs : List V} (h : Reps K H [d] vs) : ∃ v, vs = [v] ∧ Rep K H d v := by
  obtain ⟨v, r, rfl, h1, h2⟩ := h.uncons
  rw [h2.unnil]
  exact ⟨v, rfl, h1⟩
theorem reps2 {K : Fr} {H : Hp} {d d2 : D} {vs : List V} (h : Reps K H [d, d2] vs) : ∃ v w, vs = [v, w] ∧ Rep K H d v ∧ Rep K H d2 w := by
  obtain ⟨v, r, rfl, h1, h2⟩ := h.uncons
  obtain ⟨w, rfl, h3⟩ := reps1 h2
  exact ⟨v, w, rfl, h1, h3⟩
theorem ED.callB {id : String} {x : Str} {p : Pos} (hc : CallD C (.builtin id) ds d) (ha : AD C δ μ (e :: es) ds) (hg : GlD C x) (hm : C.g.mg x = none) (hv : bootBuiltins x = some (.builtin id))
    (hn : x ≠ "__name__") (hdb : (x == ("__debug__" : Str)) = false) (hs : Star e es) (hpl : ∀ env, (backTo pos (starEach es env)).any (·.1) = false) : ED C δ μ (.Call (.Name x p) (e :: es) [] pos) d := by
  intro X h M0 σ H s Q q
  obtain ⟨r, c1, c2⟩ := hc
  refine of_pe (pe_callB (c1 X h) (by show X.env.scope.names.lookup x = _; rw [h.sc]; exact hg) (by rw [h.mg]; exact hm) hv (WA.pa X _) hn hdb (hs _) (hpl _)) ?_
  refine ha X h M0 σ H s _ fun xs H1 e1 r1 => ?_
  exact c2 _ H1 xs (s.domA.mono e1) r1 Q fun v H' e2 r2 => q v H' (e1.trans e2) r2
theorem ED.callT {T : String} {x : Str} {p : Pos} (hc : CallD C (.type T) ds d) (ha : AD C δ μ (e :: es) ds) (hg : GlD C x) (hm : C.g.mg x = none) (hv : bootBuiltins x = some (.type T))
    (hn : x ≠ "__name__") (hdb : (x == ("__debug__" : Str)) = false) (hs : Star e es) (hpl : ∀ env, (backTo pos (starEach es env)).any (·.1) = false) : ED C δ μ (.Call (.Name x p) (e :: es) [] pos) d := by
  intro X h M0 σ H s Q q
  obtain ⟨r, c1, c2⟩ := hc
  refine of_pe (pe_callTy (c1 X h) (by show X.env.scope.names.lookup x = _; rw [h.sc]; exact hg) (by rw [h.mg]; exact hm) hv (WA.pa X _) hn hdb (hs _) (hpl _)) ?_
  refine ha X h M0 σ H s _ fun xs H1 e1 r1 => ?_
  exact c2 _ H1 xs (s.domA.mono e1) r1 Q fun v H' e2 r2 => q v H' (e1.trans e2) r2
theorem kLen (hs : SeqD da ds) : CallD C (.builtin "len") [da] (.int ds.length) := ⟨_, fun X h => (by have := @call_len_seq X; rw [h.K] at this; exact this), fun M H xs dm r Q q => by
  obtain ⟨v, rfl, r1⟩ := reps1 r
  obtain ⟨a, ys, rfl, r2, sq⟩ := hs.sq r1
  refine ⟨a, ys, rfl, sq.imp (Same.seq hid_le) (SqT.same hid_le), q.at_ ?_⟩
  rw [r2.len]
  exact rint _ _⟩
theorem kLenS {z : Str} (hz : z.length ≤ sizeLine) : CallD C (.builtin "len") [.str z] (.int z.length) := ⟨_, fun X h => call_len_str, fun M H xs dm r Q q => by
  obtain ⟨v, rfl, r1⟩ := reps1 r
  exact ⟨z, by rw [rep_str.mp r1], hz, q.at_ (rint _ _)⟩⟩
theorem kAbs {i : Int} : CallD C (.builtin "abs") [.int i] (.int i.natAbs) := ⟨_, fun X h => call_abs, fun M H xs dm r Q q => by
  obtain ⟨v, rfl, r1⟩ := reps1 r
  refine ⟨i, by rw [rep_int.mp r1], q.at_ ?_⟩
  have e : (if i < 0 then -i else i) = (i.natAbs : Int) := by split <;> omega
  rw [e]
  exact rint _ _⟩
theorem kStr {i : Int} (hi : i.natAbs.log2 < 1920) : CallD C (.type "str") [.int i] (.str (toString i)) := ⟨_, fun X h => call_str_int, fun M H xs dm r Q q => by
  obtain ⟨v, rfl, r1⟩ := reps1 r
  exact ⟨i, by rw [rep_int.mp r1], hi, q.at_ (rstr _ _)⟩⟩
theorem kInt {z : Str} {n : Int} (hn : intText? z = some n) (hz : z.length ≤ 640) : CallD C (.type "int") [.str z] (.int n) := ⟨_, fun X h => call_int_str, fun M H xs dm r Q q => by
  obtain ⟨v, rfl, r1⟩ := reps1 r
  exact ⟨z, n, by rw [rep_str.mp r1], hn, hz, q.at_ (rint _ _)⟩⟩
theorem kIntB {b : Bool} : CallD C (.type "int") [.bl b] (.int (if b then 1 else 0)) := ⟨_, fun X h => call_int1, fun M H xs dm r Q q => by
  obtain ⟨v, rfl, r1⟩ := reps1 r
  exact .inr ⟨b, by rw [rep_bl.mp r1], q.at_ (rint _ _)⟩⟩
theorem kList (hs : SeqD da ds) : CallD C (.type "list") [da] (.lst ds) := ⟨_, fun X h => (by have := @call_list_of X; rw [h.K] at this; exact this), fun M H xs dm r Q q => by
  obtain ⟨v, rfl, r1⟩ := reps1 r
  obtain ⟨a, ys, rfl, r2, sq⟩ := hs.sq r1
  exact ⟨a, ys, rfl, sq.imp (Same.seq hid_le) (SqT.same hid_le), fun l hl => q.new hl (rep_lst.mpr ⟨l, ys, rfl, hid_new dm hl, Reps.mono (hid_same (same_upd hl)) _ _ r2⟩)⟩⟩
theorem kTup (hs : LstD da ds) : CallD C (.type "tuple") [da] (.tup ds) := ⟨_, fun X h => (by have := @call_tuple_of X; rw [h.K] at this; exact this), fun M H xs dm r Q q => by
  obtain ⟨v, rfl, r1⟩ := reps1 r
  obtain ⟨a, ys, rfl, r2, sq⟩ := hs.sq r1
  exact ⟨a, ys, rfl, .inl ⟨Same.seq hid_le sq, fun l hl => q.new hl (rep_tup.mpr ⟨l, ys, rfl, .inl (.inl (hid_new dm hl)), Reps.mono (hid_same (same_upd hl)) _ _ r2⟩)⟩⟩⟩
theorem kSum {ns : List Int} (hs : LstD da (ns.map D.int)) : CallD C (.builtin "sum") [da] (.int ns.sum) := ⟨_, fun X h => (by have := @cr_sum X h.calm; rw [h.K] at this; exact this), fun M H xs dm r Q q => by
  obtain ⟨v, rfl, r1⟩ := reps1 r
  obtain ⟨a, ys, rfl, r2, sq⟩ := hs.sq r1
  rw [reps_ints_eq r2] at sq
  exact ⟨a, ns, rfl, Same.seq hid_le sq, q.at_ (rint _ _)⟩⟩
theorem kAll {bs : List Bool} (hs : LstD da (bs.map D.bl)) : CallD C (.builtin "all") [da] (.bl (bs.all id)) := ⟨_, fun X h => (by have := @cr_all X h.calm; rw [h.K] at this; exact this), fun M H xs dm r Q q => by
  obtain ⟨v, rfl, r1⟩ := reps1 r
  obtain ⟨a, ys, rfl, r2, sq⟩ := hs.sq r1
  rw [reps_bls_eq r2] at sq
  exact ⟨a, bs, rfl, Same.seq hid_le sq, q.at_ (rbl _ _)⟩⟩
theorem kMax {ns : List Int} {m : Int} (hs : LstD da (ns.map D.int)) (h1 : m ∈ ns) (h2 : ∀ y, y ∈ ns → y ≤ m) : CallD C (.builtin "max") [da] (.int m) := ⟨_, fun X h => (by have := @cr_max X h.calm; rw [h.K] at this; exact this), fun M H xs dm r Q q => by
  obtain ⟨v, rfl, r1⟩ := reps1 r
  obtain ⟨a, ys, rfl, r2, sq⟩ := hs.sq r1
  rw [reps_ints_eq r2] at sq
  refine ⟨a, ns, rfl, Same.seq hid_le sq, List.length_pos_of_mem h1, fun m' a1 a2 => ?_⟩
  have e : m' = m := Int.le_antisymm (h2 _ a1) (a2 _ h1)
  rw [e]
  exact q.at_ (rint _ _)⟩
theorem kMin {ns : List Int} {m : Int} (hs : LstD da (ns.map D.int)) (h1 : m ∈ ns) (h2 : ∀ y, y ∈ ns → m ≤ y) : CallD C (.builtin "min") [da] (.int m) := ⟨_, fun X h => (by have := @cr_min X h.calm; rw [h.K] at this; exact this), fun M H xs dm r Q q => by
  obtain ⟨v, rfl, r1⟩ := reps1 r
  obtain ⟨a, ys, rfl, r2, sq⟩ := hs.sq r1
  rw [reps_ints_eq r2] at sq
  refine ⟨a, ns, rfl, Same.seq hid_le sq, List.length_pos_of_mem h1, fun m' a1 a2 => ?_⟩
  have e : m' = m := Int.le_antisymm (a2 _ h1) (h2 _ a1)
  rw [e]
  exact q.at_ (rint _ _)⟩
theorem kMax2 {i j : Int} : CallD C (.builtin "max") [.int i, .int j] (.int (if j > i then j else i)) := ⟨_, fun X h => call_max2 h.calm, fun M H xs dm r Q q => by
  obtain ⟨v, w, rfl, r1, r2⟩ := reps2 r
  exact ⟨i, j, by rw [rep_int.mp r1, rep_int.mp r2], q.at_ (rint _ _)⟩⟩
end
end DL
namespace DL
open PySem L2

/-! ### promises -/
/-- a def that changes nothing: R tells the answer's data of the arguments' -/
def spR (K : Fr) (R : List D → D → Prop) : Sp := fun vs H Q _ => ∃ M ds d, Dom M H ∧ Reps K (hid M H) ds vs ∧ R ds d ∧ Kont K M H d Q
/-- a def whose first argument is an object that it may change -/
def spM (K : Fr) (R : MC → List D → D → MC → Prop) : Sp := fun vs H Q _ => ∃ M x c ds d c' ws, vs = .ref x :: ws ∧ Dom M H ∧ x ∉ M ∧ MAt K (hid (x :: M) H) H x c ∧ Reps K (hid (x :: M) H) ds ws ∧ R c ds d c' ∧
  ∀ v H', (∀ b o, b ≠ x → H b = some o → H' b = some o) → MAt K (hid (x :: M) H') H' x c' → Rep K (hid (x :: M) H') d v → Q v H'
/-- a def that stands at a global's name -/
structure Cal (g : GE) (x : Str) (j : Nat) (sp : Sp) : Prop where
  ex : ∃ f fd ps, FnOk g.P g.w g.K g.mg g.base CX0 j f fd ps sp ∧ g.mg x = some (.ref f) ∧ PySem.W.keepIn g.K (.ref f) = true ∧ Binds g.K fd ps []
/-- a method of the class at Cl -/
structure Mth (g : GE) (Cl : Addr) (m : Str) (j : Nat) (sp : Sp) : Prop where
  ex : ∃ f fd ps, FnOk g.P g.w g.K g.mg g.base CX0 j f fd ps sp ∧ Meth g.K Cl m f ∧ Binds g.K fd ps []
/-- a class that is made by its name -/
structure Mak (g : GE) (x : Str) (Cl : Addr) (j : Nat) (sp : Sp) : Prop where
  ex : ∃ f fd ps, FnOk g.P g.w g.K g.mg g.base CX0 j f fd ps sp ∧ L2.Mk g.K Cl f ∧ g.mg x = some (.ref Cl) ∧ Binds g.K fd ps []

section
variable {C : CxD} {δ : DS} {μ : Mu} {e a b c o : Expr} {es : List Expr} {d da db dc : D} {ds : List D} {pos p apos : Pos} {x m : Str} {j : Nat} {R : List D → D → Prop}
abbrev NoStar (es : List Expr) : Prop := ∀ pos env, (backTo pos (starEach es env)).any (·.1) = false
theorem IsCx.call {C : CxD} {X : Cx} (h : IsCx C X) {j k : Nat} {f : Addr} {fd : FuncData} {ps : List Str} {sp : Sp} (F : FnOk C.g.P C.g.w C.g.K C.g.mg C.g.base CX0 j f fd ps sp) : FnOk X.prog X.w X.K X.mg X.base CX0 j f fd ps sp := by
  rw [h.prog, h.w, h.K, h.mg, h.base]
  exact F
theorem IsCx.pass {C : CxD} {X : Cx} (h : IsCx C X) : Passes CX0 X E0 := pass0
theorem ED.call (F : Cal C.g x j (spR C.K R)) (ha : AD C δ μ (e :: es) ds) (hR : R ds d) (hj : j ≤ C.k) (hg : GlD C x) (hdb : (x == ("__debug__" : Str)) = false) (hs : Star e es) (hpl : NoStar es) :
    ED C δ μ (.Call (.Name x p) (e :: es) [] pos) d := by
  intro X h M0 σ H s Q q
  obtain ⟨f, fd, ps, F, h1, h2, h3⟩ := F.ex
  refine of_pe (pe_call (E := E0) (h.call (k := j) F) (h.room.mono hj) (by show X.env.scope.names.lookup x = _; rw [h.sc]; exact hg) (by rw [h.mg]; exact h1) (by rw [h.K]; exact h2) (by rw [h.K]; exact h3) .nil pass0 (WA.pa X _) hdb (hs _) (hpl _ _)) ?_
  refine ha X h M0 σ H s _ fun xs H1 e1 r1 => ?_
  rw [List.append_nil]
  exact ⟨_, ds, d, s.domA.mono e1, r1, hR, fun v H' e2 r2 => q v H' (e1.trans e2) r2⟩
/-! fields -/
def FirstAt (ns : List Str) (f : Str) (i : Nat) : Prop := ns[i]? = some f ∧ ∀ j, j < i → ns[j]? ≠ some f
theorem zip_at : ∀ {ns : List Str} {xs : List V} {f : Str} {i : Nat} {v : V}, FirstAt ns f i → xs[i]? = some v → (ns.zip xs).lookup f = some v
  | [], _, _, i, _, h, _ => by have := h.1; simp at this
  | _ :: _, [], _, i, _, _, e => by simp at e
  | n :: ns, y :: xs, f, 0, v, h, e => by
    have e1 : n = f := by have := h.1; simpa using this
    have e2 : y = v := by simpa using e
    subst e1 e2
    simp [List.lookup]
  | n :: ns, y :: xs, f, i + 1, v, h, e => by
    have ne : ¬ f = n := fun z => h.2 0 (Nat.succ_pos _) (by simp [z])
    have ih := zip_at (ns := ns) (xs := xs) (f := f) (i := i) (v := v) ⟨by have := h.1; simpa using this, fun k hk => by have := h.2 (k + 1) (Nat.succ_lt_succ hk); simpa using this⟩ (by simpa using e)
    have hb : (f == n) = false := by simpa using ne
    rw [List.zip_cons_cons, List.lookup_cons, hb]
    exact ih
theorem zip_none : ∀ {ns : List Str} {xs : List V} {f : Str}, f ∉ ns → (ns.zip xs).lookup f = none
  | [], _, _, _ => rfl
  | _ :: _, [], _, _ => rfl
  | n :: ns, y :: xs, f, h => by
    have ne : ¬ f = n := fun z => h (by simp [z])
    have hb : (f == n) = false := by simpa using ne
    rw [List.zip_cons_cons, List.lookup_cons, hb]
    exact zip_none fun z => h (List.mem_cons_of_mem _ z)
theorem ED.fld {Cl : Addr} {ns : List Str} {f : Str} {i : Nat} (h1 : ED C δ μ e (.obj Cl ns ds)) (hc : Cls C.K Cl) (hn : NoAttr C.K Cl f) (hf : FirstAt ns f i) (hd : ds[i]? = some d) (hb : ∀ env, attributeBase e f env (eval e env) = eval e env) : ED C δ μ (.Attribute e f pos) d := by
  intro X h M0 σ H s Q q
  refine of_pe (pe_fld (WE.pe X e) (hb _)) ?_
  refine h1 X h M0 σ H s _ fun x H1 e1 r1 => ?_
  obtain ⟨a, dx, xs, rfl, h2, h3, h4⟩ := rep_obj.mp r1
  obtain ⟨v, hv, rv⟩ := h4.get hd
  exact ⟨a, Cl, dx, ns.zip xs, v, rfl, (hid_some h2).2, by rw [h.K]; exact hc, by rw [h.K]; exact hn, zip_at hf hv, q v H1 e1 rv⟩
theorem ED.fldM {Cl y : Addr} {ns : List Str} {f : Str} {i : Nat} (h1 : ED C δ μ e (.ptr y)) (hm : (y, MC.ins Cl ns ds) ∈ μ) (hc : Cls C.K Cl) (hn : NoAttr C.K Cl f) (hf : FirstAt ns f i) (hd : ds[i]? = some d) (hb : ∀ env, attributeBase e f env (eval e env) = eval e env) : ED C δ μ (.Attribute e f pos) d := by
  intro X h M0 σ H s Q q
  refine of_pe (pe_fld (WE.pe X e) (hb _)) ?_
  refine h1 X h M0 σ H s _ fun x H1 e1 r1 => ?_
  have r1 := rep_ptr.mp r1
  obtain ⟨dx, xs, h2, h3, h4⟩ : MAt C.K _ H1 y (MC.ins Cl ns ds) := (s.mono e1).mu _ hm
  obtain ⟨v, hv, rv⟩ := h4.get hd
  exact ⟨y, Cl, dx, ns.zip xs, v, r1, h2, by rw [h.K]; exact hc, by rw [h.K]; exact hn, zip_at hf hv, q v H1 e1 rv⟩
/-- a list that is being changed, read -/
theorem StE.lstM {M0 : List Addr} {σ : L2.St} {H : Hp} {y : Addr} (s : StE C.K M0 μ δ σ H) (hm : (y, MC.lst ds) ∈ μ) : ∃ xs, H y = some (.lst xs) ∧ Reps C.K (hid (μ.as ++ M0) H) ds xs := s.mu _ hm
theorem ED.ixM {y : Addr} {i : Int} {k : Nat} (h1 : ED C δ μ a (.ptr y)) (h2 : ED C δ μ b (.int i)) (hm : (y, MC.lst ds) ∈ μ) (hj : i = (k : Int)) (hd : ds[k]? = some d) (hp : PlainIx b) : ED C δ μ (.Subscript a b pos) d := by
  intro X h M0 σ H s Q q
  refine of_pe (pe_ix (ix_list (X := X)) (WE.pe X a) (WE.pe X b) hp) ?_
  refine h1 X h M0 σ H s _ fun x H1 e1 r1 => ?_
  refine h2 X h M0 σ H1 (s.mono e1) _ fun z H2 e2 r2 => ?_
  obtain ⟨xs, h3, h4⟩ := (s.mono (e1.trans e2)).lstM hm
  obtain ⟨v, hv, rv⟩ := h4.get hd
  rw [rep_ptr.mp r1, rep_int.mp r2]
  exact ⟨y, xs, i, v, rfl, rfl, SqL.of h3, by rw [hj]; exact atI_nat hv, q v H2 (e1.trans e2) rv⟩
variable {lo hi : Option Expr} {l u : Option Int} {p2 : Pos}
theorem ED.slM {y : Addr} (h1 : ED C δ μ a (.ptr y)) (hm : (y, MC.lst ds) ∈ μ) (hl : PD C δ μ lo l) (hu : PD C δ μ hi u) : ED C δ μ (.Subscript a (.Slice lo hi none p2) pos) (.lst (cutD ds l u)) := by
  intro X h M0 σ H s Q q
  obtain ⟨t1, p1, k1⟩ := hl X h
  obtain ⟨t2, p2', k2⟩ := hu X h
  refine of_pe (pe_slice (sl_list (X := X)) (WE.pe X a) p1 p2') ?_
  refine h1 X h M0 σ H s _ fun x H1 e1 r1 => ?_
  refine k1 M0 σ H1 (s.mono e1) _ fun H2 e2 => ?_
  refine k2 M0 σ H2 (s.mono (e1.trans e2)) _ fun H3 e3 => ?_
  obtain ⟨xs, h3, h4⟩ := (s.mono ((e1.trans e2).trans e3)).lstM hm
  exact ⟨y, xs, rep_ptr.mp r1, SqL.of h3, fun b hb => q _ _ (((e1.trans e2).trans e3).trans (same_upd hb)) (rep_lst.mpr ⟨b, _, rfl, hid_new (s.domA.mono ((e1.trans e2).trans e3)) hb, reps_cut (Reps.mono (hid_same (same_upd hb)) _ _ h4) _ _⟩)⟩
/-- .. not in it -/
theorem ED.notInM {y : Addr} {k : Bool} (h1 : ED C δ μ a d) (h2 : ED C δ μ b (.ptr y)) (hm : (y, MC.lst ds) ∈ μ) (pa : plain d = true) (pb : plains ds = true) (sa : SeqAt.shaped (py d) = true) (sb : SeqAt.shaped (.list (pys ds)) = true)
    (hk : (!(pys ds).any fun z => PyData.eqv z (py d)) = k) (hkk : 1 ≤ C.k) (hmk : behindInMarks .NotIn b = false) : TD C δ μ (.Compare a [.NotIn] [b] pos) k := by
  intro X h M0 σ H s Q q
  have hu : X.A.units + 65 < cLine := by have := h.room.un; omega
  refine of_pt (pt_cmpR (op_notInD (X := X) hu) (WE.pe X a) (WE.pe X b) hmk) ?_
  refine h1 X h M0 σ H s _ fun x H1 e1 r1 => ?_
  refine h2 X h M0 σ H1 (s.mono e1) _ fun z H2 e2 r2 => ?_
  obtain ⟨xs, h3, h4⟩ := (s.mono (e1.trans e2)).lstM hm
  rw [rep_ptr.mp r2, h.K]
  refine ⟨py d, pys ds, dp_of d x pa (Rep.mono (e2.trans (Same.refl _)) _ _ (Rep.mono hid_le _ _ r1)), .lst (SqL.of h3) (dps_of ds xs pb (Reps.mono hid_le _ _ h4)), sa, sb, k, by rw [hk], q H2 (e1.trans e2)⟩

/-! ### methods of objects, new objects -/
abbrev MethHt (o : Expr) (m : Str) (es : List Expr) (apos pos : Pos) (pl : Env → Sem Bool) : Prop := ∀ env, eval (.Call (.Attribute o m apos) es [] pos) env = (do
      let ov ← eval o env
      standAt apos.atName
      let (f, first) ← holding [ov] (getMethod ov m (pl env))
      callWith pos f first (backTo pos (starEach es env)) (backToKw pos (keywordEach [] env)))
theorem ED.meth0 {Cl : Addr} {ns : List Str} {pl : Env → Sem Bool} (h1 : ED C δ μ o (.obj Cl ns ds)) (F : Mth C.g Cl m j (spR C.K R)) (hR : R [.obj Cl ns ds] d) (hc : Cls C.K Cl) (hn : m ∉ ns) (hj : j ≤ C.k) (ht : MethHt o m [] apos pos pl) :
    ED C δ μ (.Call (.Attribute o m apos) [] [] pos) d := by
  intro X h M0 σ H s Q q
  obtain ⟨f, fd, ps, F, f1, f2⟩ := F.ex
  refine of_pe (pe_meth0 (pl := pl X.env) (E := E0) (WE.pe X o) (by rw [h.K]; exact hc) (by rw [h.K]; exact f1) (h.call (k := j) F) (h.room.mono hj) (by rw [h.K]; exact f2) .nil pass0 (ht _)) ?_
  refine h1 X h M0 σ H s _ fun x H1 e1 r1 => ?_
  obtain ⟨a, dx, xs, rfl, h2, h3, h4⟩ := rep_obj.mp r1
  refine ⟨a, dx, ns.zip xs, rfl, (hid_some h2).2, zip_none hn, ?_⟩
  exact ⟨_, [.obj Cl ns ds], d, s.domA.mono e1, Reps.cons r1 Reps.nil, hR, fun v H' e2 r2 => q v H' (e1.trans e2) r2⟩
/-- a new object that nobody changes any more -/
theorem ED.make {Cl : Addr} {ns : List Str} {fs : List D} {RM : MC → List D → D → MC → Prop} (F : Mak C.g x Cl j (spM C.K RM)) (ha : AD C δ μ (e :: es) ds) (hR : RM (.ins Cl [] []) ds .non (.ins Cl ns fs)) (hj : j + 1 ≤ C.k) (hg : GlD C x)
    (hdb : (x == ("__debug__" : Str)) = false) (hs : Star e es) (hpl : NoStar es) : ED C δ μ (.Call (.Name x p) (e :: es) [] pos) (.obj Cl ns fs) := by
  intro X h M0 σ H s Q q
  obtain ⟨f, fd, ps, F, h1, h2, h3⟩ := F.ex
  refine of_pe (pe_make (E := E0) (by rw [h.K]; exact h1) (h.call (k := j) F) (h.room.mono hj) (by show X.env.scope.names.lookup x = _; rw [h.sc]; exact hg) (by rw [h.mg]; exact h2) (by rw [h.K]; exact h3) .nil pass0 (WA.pa X _) hdb (hs _) (hpl _ _)) ?_
  refine ha X h M0 σ H s _ fun xs H1 e1 r1 => ?_
  rw [List.append_nil]
  intro y dx ny ndx ne
  have dm : Dom (μ.as ++ M0) H1 := s.domA.mono e1
  have yM : y ∉ μ.as ++ M0 := dm.ni ny
  have s1 : Same H1 (upd (upd H1 dx (.own y)) y (.ins Cl dx [])) := fun b u hb => by
    rw [upd_ne (ne_of_none hb ny), upd_ne (ne_of_none hb ndx)]
    exact hb
  have hsub : Same (hid (μ.as ++ M0) H1) (hid (y :: (μ.as ++ M0)) (upd (upd H1 dx (.own y)) y (.ins Cl dx []))) := fun b u hb => by
    obtain ⟨b1, b2⟩ := hid_some hb
    rw [hid_ne fun z => (List.mem_cons.mp z).elim (ne_of_none b2 ny) b1]
    exact s1 b u b2
  refine ⟨μ.as ++ M0, y, .ins Cl [] [], ds, .non, .ins Cl ns fs, xs, rfl, dm.mono s1, yM, ⟨dx, [], upd_same, rfl, Reps.nil⟩, Reps.mono hsub _ _ r1, hR, fun v H' k1 k2 k3 => ⟨rep_non.mp k3, ?_⟩⟩
  obtain ⟨dx', ys, k4, k5, k6⟩ := k2
  have e2 : Same H1 H' := fun b u hb => k1 b u (ne_of_none hb ny) (s1 b u hb)
  exact q _ H' (e1.trans e2) (rep_obj.mpr ⟨y, dx', ys, rfl, by rw [hid_ne yM]; exact k4, k5, Reps.mono (hid_sub fun a ha => List.mem_cons_of_mem _ ha) _ _ k6⟩)

/-! ### methods of texts -/
abbrev AttrB (o : Expr) (f : Str) : Prop := ∀ env, attributeBase o f env (eval o env) = eval o env
theorem ED.split {x y : Str} (ho : ED C δ μ o (.str x)) (he : ED C δ μ e (.str y)) (hy : (y.length == 0) = false) (hx : x.length + 2 ≤ sizeLine) (hs : ∀ env, starEach [e] env = [(false, eval e env)]) (hb : AttrB o "split") (hl : (apos.endLine == pos.line) = true) :
    ED C δ μ (.Call (.Attribute o "split" apos) [e] [] pos) (.lst ((Txt.split x y).map D.str)) := by
  intro X h M0 σ H s Q q
  refine of_pe (pe_split (WE.pe X o) (WE.pe X e) (hs _) (hb _) hl) ?_
  refine ho X h M0 σ H s _ fun v H1 e1 r1 => ⟨⟨x, rep_str.mp r1⟩, ?_⟩
  refine he X h M0 σ H1 (s.mono e1) _ fun w H2 e2 r2 => ?_
  exact ⟨x, y, rep_str.mp r1, by rw [rep_str.mp r2], hy, hx, fun p hp => q _ _ ((e1.trans e2).trans (same_upd hp)) (rep_lst.mpr ⟨p, _, rfl, hid_new (s.domA.mono (e1.trans e2)) hp, reps_strs _⟩)⟩
theorem ED.partition {x y : Str} (ho : ED C δ μ o (.str x)) (he : ED C δ μ e (.str y)) (hy : (y.length == 0) = false) (hx : x.length ≤ sizeLine) (hs : ∀ env, starEach [e] env = [(false, eval e env)]) (hb : AttrB o "partition") (hl : (apos.endLine == pos.line) = true) :
    ED C δ μ (.Call (.Attribute o "partition" apos) [e] [] pos) (.tup [.str (Txt.partition x y).1, .str (Txt.partition x y).2.1, .str (Txt.partition x y).2.2]) := by
  intro X h M0 σ H s Q q
  refine of_pe (pe_partition (WE.pe X o) (WE.pe X e) (hs _) (hb _) hl) ?_
  refine ho X h M0 σ H s _ fun v H1 e1 r1 => ⟨⟨x, rep_str.mp r1⟩, ?_⟩
  refine he X h M0 σ H1 (s.mono e1) _ fun w H2 e2 r2 => ?_
  exact ⟨x, y, rep_str.mp r1, by rw [rep_str.mp r2], hy, hx, fun p hp => q _ _ ((e1.trans e2).trans (same_upd hp)) (rep_tup.mpr ⟨p, _, rfl, .inl (.inl (hid_new (s.domA.mono (e1.trans e2)) hp)), Reps.cons (rstr _ _) (Reps.cons (rstr _ _) (Reps.cons (rstr _ _) Reps.nil))⟩)⟩
theorem ED.join {x : Str} {ys : List Str} (ho : ED C δ μ o (.str x)) (he : ED C δ μ e da) (hl : LstD da (ys.map D.str)) (hz : (ys.map (·.length)).sum + ys.length * x.length ≤ 16777216) (hs : ∀ env, starEach [e] env = [(false, eval e env)]) (hb : AttrB o "join") (hll : (apos.endLine == pos.line) = true) :
    ED C δ μ (.Call (.Attribute o "join" apos) [e] [] pos) (.str (Txt.join x ys)) := by
  intro X h M0 σ H s Q q
  refine of_pe (pe_join (WE.pe X o) (WE.pe X e) (hs _) (hb _) hll) ?_
  refine ho X h M0 σ H s _ fun v H1 e1 r1 => ⟨⟨x, rep_str.mp r1⟩, ?_⟩
  refine he X h M0 σ H1 (s.mono e1) _ fun w H2 e2 r2 => ?_
  obtain ⟨b, xs, rfl, r3, sq⟩ := hl.sq r2
  rw [reps_strs_eq r3] at sq
  exact ⟨x, b, ys, rep_str.mp r1, rfl, .inl (by rw [h.K]; exact Same.seq hid_le sq), hz, q _ _ (e1.trans e2) (rstr _ _)⟩
theorem ED.startswith {x y : Str} (ho : ED C δ μ o (.str x)) (he : ED C δ μ e (.str y)) (hs : ∀ env, starEach [e] env = [(false, eval e env)]) (hb : AttrB o "startswith") (hl : (apos.endLine == pos.line) = true) :
    ED C δ μ (.Call (.Attribute o "startswith" apos) [e] [] pos) (.bl (Txt.startswith x y)) := by
  intro X h M0 σ H s Q q
  refine of_pe (pe_m1 F.slot_str_startswith F.type_str_startswith mt_startswith (WE.pe X o) (WE.pe X e) (hs _) (hb _) hl) ?_
  refine ho X h M0 σ H s _ fun v H1 e1 r1 => ⟨⟨x, rep_str.mp r1⟩, ?_⟩
  refine he X h M0 σ H1 (s.mono e1) _ fun w H2 e2 r2 => ?_
  exact ⟨x, y, rep_str.mp r1, by rw [rep_str.mp r2], q _ _ (e1.trans e2) (rbl _ _)⟩
/-- f"..": the parts are texts already -/
theorem ED.fmtI {i : Int} (he : ED C δ μ e (.int i)) (hi : i.natAbs.log2 < 1920) : ED C δ μ (.FormattedValue e (-1) none pos) (.str (toString i)) := by
  intro X h M0 σ H s Q q
  refine of_pe (pe_fmt (WE.pe X e)) ?_
  exact he X h M0 σ H s _ fun v H1 e1 r1 => .inr ⟨i, rep_int.mp r1, hi, q _ _ e1 (rstr _ _)⟩
inductive JD (C : CxD) (δ : DS) (μ : Mu) : List Expr → List Str → Prop where
  | nil : JD C δ μ [] []
  | cons {e : Expr} {es : List Expr} {x : Str} {xs : List Str} (h : ED C δ μ e (.str x)) (r : JD C δ μ es xs) : JD C δ μ (e :: es) (x :: xs)
theorem JD.pj {es : List Expr} {xs : List Str} (j : JD C δ μ es xs) {X : Cx} (h : IsCx C X) : PJ X es (es.map (WE X)) := by
  induction j with
  | nil => exact .nil
  | cons _ _ ih => exact .cons (WE.pe X _) ih
theorem JD.run {es : List Expr} {xs : List Str} (j : JD C δ μ es xs) {X : Cx} (h : IsCx C X) : ∀ {M0 : List Addr} {σ : L2.St} {H : Hp} {acc : Str} {Q : Str → Hp → Prop}, StE C.K M0 μ δ σ H → acc.length + (xs.map (·.length)).sum ≤ sizeLine → (∀ H', Same H H' → Q (xs.foldl (· ++ ·) acc) H') → tJs (es.map (WE X)) acc σ H Q := by
  induction j with
  | nil => intro M0 σ H acc Q s _ q; exact q H (Same.refl H)
  | @cons e es x xs h1 r ih =>
    intro M0 σ H acc Q s hl q
    rw [List.map_cons, List.sum_cons] at hl
    refine h1 X h M0 σ H s _ fun v H1 e1 r1 => ⟨x, rep_str.mp r1, by rw [Str.length_append]; omega, ?_⟩
    exact ih (s.mono e1) (by rw [Str.length_append]; omega) fun H' e2 => q H' (e1.trans e2)
theorem ED.joined {e1 e2 : Expr} {rest : List Expr} {xs : List Str} (j : JD C δ μ (e1 :: e2 :: rest) xs) (hl : (xs.map (·.length)).sum ≤ sizeLine) : ED C δ μ (.JoinedStr (e1 :: e2 :: rest) pos) (.str (xs.foldl (· ++ ·) Str.empty)) := by
  intro X h M0 σ H s Q q
  refine of_pe (pe_joined (j.pj h)) ?_
  exact j.run h s (by show 0 + _ ≤ _; omega) fun H' e => q _ H' e (rstr _ _)
end

/-! ### what is walked -/
/-- from the frozen heap H1 on: J gives the data ds, one by one -/
def ItD (K : Fr) (H1 : Hp) (J : It) (ds : List D) : Prop := ∀ (M2 : List Addr) (H2 : Hp), Dom M2 H2 → Same H1 (hid M2 H2) → ∀ i, (∀ d, ds[i]? = some d → J.go i H2 ∧ ∀ x H3, J.yld i H2 x H3 → Same H2 H3 ∧ Rep K (hid M2 H3) d x) ∧ (i = ds.length → J.stop i H2)
def ID (C : CxD) (δ : DS) (μ : Mu) (tg iter : Expr) (ds : List D) : Prop := ∀ X, IsCx C X → ∀ M0 σ H, StE C.K M0 μ δ σ H → ∀ R : It → Hp → Prop, (∀ J H', Same H H' → ItD C.K (hid (μ.as ++ M0) H') J ds → R J H') → WI X tg iter σ H R
section
variable {C : CxD} {δ : DS} {μ : Mu} {e e2 tg iter : Expr} {da db : D} {ds ws : List D} {pos p tpos : Pos}
theorem ID.list (h1 : ED C δ μ iter da) (hs : LstD da ds) : ID C δ μ tg iter ds := by
  intro X h M0 σ H s R q
  refine of_pi (pi_list (WE.pe X iter)) ?_
  refine h1 X h M0 σ H s _ fun v H1 e1 r1 => ?_
  obtain ⟨a, xs, rfl, r, sq⟩ := hs.sq r1
  refine ⟨a, rfl, ⟨xs, by rw [h.K]; exact Same.seq hid_le sq⟩, q _ H1 e1 ?_⟩
  rw [h.K]
  intro M2 H2 dm e i
  have h2 : SqL C.K H2 a xs := Same.seq hid_le (Same.seq e sq)
  refine ⟨fun d hd => ?_, fun hi => ⟨xs, h2, by rw [hi, r.len]; exact Nat.le_refl _⟩⟩
  obtain ⟨v, hv, rv⟩ := r.get hd
  refine ⟨⟨xs, v, h2, hv⟩, fun x H3 ⟨e3, hx⟩ => ?_⟩
  subst e3
  have := hx xs h2
  rw [hv] at this
  cases this
  exact ⟨Same.refl _, Rep.mono e _ _ rv⟩
theorem ID.tup (h1 : ED C δ μ iter (.tup ds)) : ID C δ μ tg iter ds := by
  intro X h M0 σ H s R q
  refine of_pi (pi_tup (WE.pe X iter)) ?_
  refine h1 X h M0 σ H s _ fun v H1 e1 r1 => ?_
  obtain ⟨a, xs, rfl, sq, r⟩ := rep_tup.mp r1
  refine ⟨a, rfl, ⟨xs, by rw [h.K]; exact SqT.same hid_le sq⟩, q _ H1 e1 ?_⟩
  rw [h.K]
  intro M2 H2 dm e i
  have h2 : SqT C.K H2 a xs := SqT.same hid_le (SqT.same e sq)
  refine ⟨fun d hd => ?_, fun hi => ⟨xs, h2, by rw [hi, r.len]; exact Nat.le_refl _⟩⟩
  obtain ⟨v, hv, rv⟩ := r.get hd
  refine ⟨⟨xs, v, h2, hv⟩, fun x H3 ⟨e3, hx⟩ => ?_⟩
  subst e3
  have := hx xs h2
  rw [hv] at this
  cases this
  exact ⟨Same.refl _, Rep.mono e _ _ rv⟩
def rangeD (n : Nat) : List D := (List.range n).map fun i => D.int (i : Nat)
theorem ID.range {n : Int} (h1 : ED C δ μ e (.int n)) (hn : n < 2 ^ 62) (h0 : -(2 ^ 62) ≤ n) (hg : GlD C "range") (hm : C.g.mg "range" = none) (hs : ∀ env, starEach [e] env = [(false, eval e env)]) : ID C δ μ tg (.Call (.Name "range" p) [e] [] pos) (rangeD n.toNat) := by
  intro X h M0 σ H s R q
  refine of_pi (pi_range1 (by show X.env.scope.names.lookup ("range" : Str) = _; rw [h.sc]; exact hg) (by rw [h.mg]; exact hm) (pa_cons (WE.pe X e) pa_nil (hs _)) (hs _)) ?_
  refine h1 X h M0 σ H s _ fun v H1 e1 r1 => ?_
  refine ⟨n, by rw [rep_int.mp r1], h0, hn, q _ H1 e1 ?_⟩
  intro M2 H2 dm e i
  refine ⟨fun d hd => ?_, fun hi => ?_⟩
  · unfold rangeD at hd
    rw [List.getElem?_map] at hd
    have hi : i < n.toNat := by
      by_cases c : i < n.toNat
      · exact c
      · rw [List.getElem?_eq_none (by simpa using c)] at hd
        cases hd
    rw [List.getElem?_range hi] at hd
    have e3 : D.int (i : Nat) = d := by simpa using hd
    refine ⟨hi, fun x H3 ⟨e4, hx⟩ => ?_⟩
    subst e4
    refine ⟨Same.refl _, ?_⟩
    rw [← e3, hx, Int.zero_add]
    exact rint _ _
  · show n.toNat ≤ i
    rw [hi]
    unfold rangeD
    simp
/-- zip of two lists or two tuples, of one length or not -/
def zipD (ds ws : List D) : List D := List.zipWith (fun a b => D.tup [a, b]) ds ws
theorem zipD_get {ds ws : List D} {i : Nat} {d : D} (h : (zipD ds ws)[i]? = some d) : ∃ a b, ds[i]? = some a ∧ ws[i]? = some b ∧ d = .tup [a, b] := by
  unfold zipD at h
  rw [List.getElem?_zipWith] at h
  cases h1 : ds[i]? with
  | none => rw [h1] at h; simp at h
  | some a =>
    cases h2 : ws[i]? with
    | none => rw [h1, h2] at h; simp at h
    | some b =>
      rw [h1, h2] at h
      exact ⟨a, b, rfl, rfl, by simpa using h.symm⟩
theorem ID.zip {elts : List Expr} {kk : Nat} (h1 : ED C δ μ e da) (h2 : ED C δ μ e2 db) (hs : (LstD da ds ∧ LstD db ws) ∨ (da = .tup ds ∧ db = .tup ws)) (hg : GlD C "zip") (hm : C.g.mg "zip" = none)
    (hst : Star e [e2]) (hst2 : Star e2 []) (hpl : NoStar [e2]) : ID C δ μ (.Tuple elts kk tpos) (.Call (.Name "zip" p) [e, e2] [] pos) (zipD ds ws) := by
  intro X h M0 σ H s R q
  refine of_pi (RZ.pi_zipA (by show X.env.scope.names.lookup ("zip" : Str) = _; rw [h.sc]; exact hg) (by rw [h.mg]; exact hm) (pa_cons (WE.pe X e) (pa_cons (WE.pe X e2) pa_nil (hst2 _)) (hst _)) (hst _) (hpl _ _)) ?_
  refine h1 X h M0 σ H s _ fun v H1 e1 r1 => ?_
  refine h2 X h M0 σ H1 (s.mono e1) _ fun w H2 e2 r2 => ?_
  have r1' := Rep.mono (hid_same (M := μ.as ++ M0) e2) _ _ r1
  rcases hs with ⟨l1, l2⟩ | ⟨rfl, rfl⟩
  · obtain ⟨a, xs, rfl, ra, sa⟩ := l1.sq r1'
    obtain ⟨b, ys, rfl, rb, sb⟩ := l2.sq r2
    refine ⟨a, b, xs, ys, rfl, .inl ⟨by rw [h.K]; exact Same.seq hid_le sa, by rw [h.K]; exact Same.seq hid_le sb, q _ H2 (e1.trans e2) ?_⟩⟩
    rw [h.K]
    intro M2 H3 dm e i
    have ha : SqL C.K H3 a xs := Same.seq hid_le (Same.seq e sa)
    have hb : SqL C.K H3 b ys := Same.seq hid_le (Same.seq e sb)
    refine ⟨fun d hd => ?_, fun hi => ?_⟩
    · obtain ⟨d1, d2, g1, g2, rfl⟩ := zipD_get hd
      obtain ⟨v1, hv1, rv1⟩ := ra.get g1
      obtain ⟨v2, hv2, rv2⟩ := rb.get g2
      refine ⟨⟨xs, ys, v1, v2, ha, hb, hv1, hv2⟩, fun x H4 ⟨T, x1, x2, ex, hT, e4, f1, f2⟩ => ?_⟩
      have g1 := f1 xs ha
      have g2 := f2 ys hb
      rw [hv1] at g1
      rw [hv2] at g2
      cases g1
      cases g2
      subst ex e4
      refine ⟨same_upd hT, rep_tup.mpr ⟨T, _, rfl, .inl (.inl (hid_new dm hT)), ?_⟩⟩
      have e5 := e.trans (hid_same (M := M2) (same_upd (o := .tup [v1, v2]) hT))
      exact Reps.cons (Rep.mono e5 _ _ rv1) (Reps.cons (Rep.mono e5 _ _ rv2) Reps.nil)
    · refine ⟨xs, ys, ha, hb, ?_⟩
      rw [← ra.len, ← rb.len, hi]
      unfold zipD
      rw [List.length_zipWith]
      omega
  · obtain ⟨a, xs, rfl, sa, ra⟩ := rep_tup.mp r1'
    obtain ⟨b, ys, rfl, sb, rb⟩ := rep_tup.mp r2
    refine ⟨a, b, xs, ys, rfl, .inr ⟨by rw [h.K]; exact SqT.same hid_le sa, by rw [h.K]; exact SqT.same hid_le sb, q _ H2 (e1.trans e2) ?_⟩⟩
    rw [h.K]
    intro M2 H3 dm e i
    have ha : SqT C.K H3 a xs := SqT.same hid_le (SqT.same e sa)
    have hb : SqT C.K H3 b ys := SqT.same hid_le (SqT.same e sb)
    refine ⟨fun d hd => ?_, fun hi => ?_⟩
    · obtain ⟨d1, d2, g1, g2, rfl⟩ := zipD_get hd
      obtain ⟨v1, hv1, rv1⟩ := ra.get g1
      obtain ⟨v2, hv2, rv2⟩ := rb.get g2
      refine ⟨⟨xs, ys, v1, v2, ha, hb, hv1, hv2⟩, fun x H4 ⟨T, x1, x2, ex, hT, e4, f1, f2⟩ => ?_⟩
      have g1 := f1 xs ha
      have g2 := f2 ys hb
      rw [hv1] at g1
      rw [hv2] at g2
      cases g1
      cases g2
      subst ex e4
      refine ⟨same_upd hT, rep_tup.mpr ⟨T, _, rfl, .inl (.inl (hid_new dm hT)), ?_⟩⟩
      have e5 := e.trans (hid_same (M := M2) (same_upd (o := .tup [v1, v2]) hT))
      exact Reps.cons (Rep.mono e5 _ _ rv1) (Reps.cons (Rep.mono e5 _ _ rv2) Reps.nil)
    · refine ⟨xs, ys, ha, hb, ?_⟩
      rw [← ra.len, ← rb.len, hi]
      unfold zipD
      rw [List.length_zipWith]
      omega
def enumD (ds : List D) : List D := zipD (rangeD ds.length) ds
theorem ID.enum {elts : List Expr} {kk : Nat} (h1 : ED C δ μ e da) (hs : LstD da ds) (hg : GlD C "enumerate") (hm : C.g.mg "enumerate" = none)
    (hst : ∀ env, starEach [e] env = [(false, eval e env)]) : ID C δ μ (.Tuple elts kk tpos) (.Call (.Name "enumerate" p) [e] [] pos) (enumD ds) := by
  intro X h M0 σ H s R q
  refine of_pi (pi_enum (by show X.env.scope.names.lookup ("enumerate" : Str) = _; rw [h.sc]; exact hg) (by rw [h.mg]; exact hm) (pa_cons (WE.pe X e) pa_nil (hst _)) (hst _)) ?_
  refine h1 X h M0 σ H s _ fun v H1 e1 r1 => ?_
  obtain ⟨a, xs, rfl, ra, sa⟩ := hs.sq r1
  refine ⟨a, xs, rfl, by rw [h.K]; exact Same.seq hid_le sa, q _ H1 e1 ?_⟩
  rw [h.K]
  intro M2 H3 dm e i
  have ha : SqL C.K H3 a xs := Same.seq hid_le (Same.seq e sa)
  refine ⟨fun d hd => ?_, fun hi => ?_⟩
  · obtain ⟨d1, d2, g1, g2, rfl⟩ := zipD_get hd
    obtain ⟨v2, hv2, rv2⟩ := ra.get g2
    have hlt : i < ds.length := (List.getElem?_eq_some_iff.mp g2).1
    have ed : D.int (i : Nat) = d1 := by
      unfold rangeD at g1
      rw [List.getElem?_map, List.getElem?_range hlt] at g1
      simpa using g1
    subst ed
    refine ⟨⟨xs, v2, ha, hv2⟩, fun x H4 ⟨T, x1, ex, hT, e4, f1⟩ => ?_⟩
    have g3 := f1 xs ha
    rw [hv2] at g3
    cases g3
    subst ex e4
    refine ⟨same_upd hT, rep_tup.mpr ⟨T, _, rfl, .inl (.inl (hid_new dm hT)), ?_⟩⟩
    have e5 := e.trans (hid_same (M := M2) (same_upd (o := .tup [.int (i : Nat), v2]) hT))
    exact Reps.cons (rint _ _) (Reps.cons (Rep.mono e5 _ _ rv2) Reps.nil)
  · refine ⟨xs, ha, ?_⟩
    rw [← ra.len, hi]
    unfold enumD zipD rangeD
    simp
end
end DL
namespace DL
open PySem L2

/-! ### targets -/
def WGs (X : Cx) (ts : List Expr) : TGs := fun vs σ H Q => ∀ pins s us, Inv X pins σ H s → Vals vs us →
    wpAny (model X.prog X.w) X.A (assignInOrder ((assignEach ts X.env).map (·.2)) us) (fun _ s' => ∃ σ' H', Inv X pins σ' H' s' ∧ Q σ' H') X.xe s
theorem WGs.pgs (X : Cx) (ts : List Expr) : PGs X ts (WGs X ts) := ⟨fun pins s _ _ _ us _ I r h => h pins s us I r⟩
theorem of_pgs {X : Cx} {ts : List Expr} {t : TGs} {vs : List V} {σ : L2.St} {H : Hp} {Q : L2.St → Hp → Prop} (h : PGs X ts t) (q : t vs σ H Q) : WGs X ts vs σ H Q := fun pins s us I r => h.run pins s σ H vs us Q I r q
def Off (is : List Nat) (σ σ' : L2.St) : Prop := σ'.length = σ.length ∧ ∀ j, j ∉ is → σ'[j]? = σ[j]?
def TGD (C : CxD) (tg : Expr) (d : D) (is : List Nat) (δ δ' : DS) : Prop := ∀ X, IsCx C X → ∀ M0 μ σ H v, StE C.K M0 μ δ σ H → Rep C.K (hid (μ.as ++ M0) H) d v → ∀ Q : L2.St → Hp → Prop, (∀ σ', StE C.K M0 μ δ' σ' H → Off is σ σ' → Q σ' H) → WG X tg v σ H Q
def TGsD (C : CxD) (ts : List Expr) (ds : List D) (is : List Nat) (δ δ' : DS) : Prop := ∀ X, IsCx C X → ∀ M0 μ σ H vs, StE C.K M0 μ δ σ H → Reps C.K (hid (μ.as ++ M0) H) ds vs → ∀ Q : L2.St → Hp → Prop, (∀ σ', StE C.K M0 μ δ' σ' H → Off is σ σ' → Q σ' H) → WGs X ts vs σ H Q
theorem StE.set {K : Fr} {M0 : List Addr} {μ : Mu} {δ : DS} {σ : L2.St} {H : Hp} {d : D} {v : V} (i : Nat) (s : StE K M0 μ δ σ H) (r : Rep K (hid (μ.as ++ M0) H) d v) : StE K M0 μ (δ.set i (some d)) (σ.set i (some v)) H := by
  refine ⟨by rw [List.length_set, List.length_set]; exact s.len, fun j d' h => ?_, s.mu, s.dom⟩
  by_cases hj : i = j
  · subst hj
    have hl : i < δ.length := by
      by_cases c : i < δ.length
      · exact c
      · rw [List.getElem?_eq_none (by simpa using c)] at h
        cases h
    rw [List.getElem?_set_self hl] at h
    cases h
    exact ⟨v, by rw [List.getElem?_set_self (by rw [s.len]; exact hl)], r⟩
  · rw [List.getElem?_set_ne hj] at h ⊢
    exact s.sl j d' h
section
variable {C : CxD} {δ δ' δ2 : DS} {μ : Mu} {e tg : Expr} {ts : List Expr} {d : D} {ds : List D} {pos : Pos} {is js : List Nat} {x : Str}
structure StoreOk (C : CxD) (x : Str) : Prop where
  h : C.sc.names.lookup x = some .local ∨ (C.sc.names.lookup x = some .cell ∧ C.all = true)
theorem StoreOk.loc {C : CxD} {x : Str} (s : StoreOk C x) {X : Cx} (h : IsCx C X) : L2.Loc X.env.scope x ∧ (X.fn x = true ∨ X.env.scope.names.lookup x = some .local) := by
  unfold L2.Loc
  rw [h.sc]
  rcases s.h with k | ⟨k, k2⟩
  · exact ⟨.inl k, .inr k⟩
  · exact ⟨.inr k, .inl (h.fn k2 x)⟩
theorem TGD.name (i : Nat) (nd : C.N.Nodup) (hi : C.N[i]? = some x) (hx : StoreOk C x) : TGD C (.Name x pos) d [i] δ (δ.set i (some d)) := by
  intro X h M0 μ σ H v s r Q q
  refine of_pg (pg_name (i := i) (by rw [h.N]; exact nd) (by rw [h.N]; exact hi) (hx.loc h).1 (hx.loc h).2) ?_
  refine q _ (s.set i r) ⟨by rw [List.length_set], fun j hj => ?_⟩
  have : i ≠ j := fun e => hj (by simp [e])
  rw [List.getElem?_set_ne this]
theorem TGsD.nil : TGsD C [] [] [] δ δ := by
  intro X h M0 μ σ H vs s r Q q
  exact of_pgs pgs_nil ⟨r.unnil, q σ s ⟨rfl, fun _ _ => rfl⟩⟩
theorem TGsD.cons (h1 : TGD C tg d is δ δ') (h2 : TGsD C ts ds js δ' δ2) (hs : ∀ env, (assignEach (tg :: ts) env).map (·.2) = assign tg env :: (assignEach ts env).map (·.2)) : TGsD C (tg :: ts) (d :: ds) (is ++ js) δ δ2 := by
  intro X h M0 μ σ H vs s r Q q
  obtain ⟨v, vr, rfl, r1, r2⟩ := r.uncons
  refine of_pgs (pgs_cons (WG.pg X tg) (WGs.pgs X ts) (hs _)) ⟨v, vr, rfl, ?_⟩
  refine h1 X h M0 μ σ H v s r1 _ fun σ1 s1 o1 => ?_
  refine h2 X h M0 μ σ1 H vr s1 r2 _ fun σ2 s2 o2 => ?_
  exact q σ2 s2 ⟨o2.1.trans o1.1, fun j hj => (o2.2 j fun z => hj (List.mem_append_right _ z)).trans (o1.2 j fun z => hj (List.mem_append_left _ z))⟩
theorem TGD.tup {k n : Nat} (h1 : TGsD C ts ds is δ δ') (hl : ds.length = n) (hn : ∀ env, (assignEach ts env).length = n) (hst : ∀ env, (assignEach ts env).findIdx? (·.1) = none) : TGD C (.Tuple ts k pos) (.tup ds) is δ δ' := by
  intro X h M0 μ σ H v s r Q q
  obtain ⟨a, xs, rfl, h2, h3⟩ := rep_tup.mp r
  refine of_pg (pg_tup (n := n) h.calm (WGs.pgs X ts) (hn _) (hst _)) ⟨a, xs, rfl, by rw [h.K]; exact SqT.same hid_le h2, by rw [← h3.len]; exact hl, ?_⟩
  exact h1 X h M0 μ σ H xs s h3 Q q
theorem TGD.lst {k n : Nat} {da : D} (hs : LstD da ds) (h1 : TGsD C ts ds is δ δ') (hl : ds.length = n) (hn : ∀ env, (assignEach ts env).length = n) (hst : ∀ env, (assignEach ts env).findIdx? (·.1) = none) : TGD C (.Tuple ts k pos) da is δ δ' := by
  intro X h M0 μ σ H v s r Q q
  obtain ⟨a, xs, rfl, h3, h2⟩ := hs.sq r
  refine of_pg (pg_unl (n := n) h.calm (WGs.pgs X ts) (hn _) (hst _)) ⟨a, xs, rfl, by rw [h.K]; exact Same.seq hid_le h2, by rw [← h3.len]; exact hl, ?_⟩
  exact h1 X h M0 μ σ H xs s h3 Q q
end

/-! ### comprehensions -/
def CxD.blk (C : CxD) (scope : Scope) : CxD := { C with sc := relS scope C.sc, all := false }
theorem IsCx.blk {C : CxD} {X : Cx} (h : IsCx C X) (s : Shared) (H : Hp) (scope : Scope) (cl : List (Str × Addr)) (L : Addr) (fp : List Addr) : IsCx (C.blk scope) (X.blk s H scope (compEnvC scope cl L X.env) fp) where
  prog := h.prog
  w := h.w
  K := h.K
  mg := h.mg
  base := h.base
  N := h.N
  sc := by
    show relabel scope X.env = relS scope C.sc
    rw [← h.sc]
    rfl
  calm := h.calm
  room := h.room
  fn := fun z => by cases z
  xe := rfl
def wipeD (δ : DS) : List Nat → DS
  | [] => δ
  | v :: vs => (wipeD δ vs).set v none
theorem wipeD_some {δ : DS} {i : Nat} {x : D} : ∀ {vs : List Nat}, (wipeD δ vs)[i]? = some (some x) → δ[i]? = some (some x) ∧ i ∉ vs
  | [], h => ⟨h, by simp⟩
  | v :: vs, h => by
    unfold wipeD at h
    by_cases hi : v = i
    · subst hi
      by_cases hv : v < (wipeD δ vs).length
      · rw [List.getElem?_set_self hv] at h; cases h
      · rw [List.getElem?_eq_none (by simpa using hv)] at h; cases h
    · rw [List.getElem?_set_ne hi] at h
      obtain ⟨h1, h2⟩ := wipeD_some h
      exact ⟨h1, by simp only [List.mem_cons, not_or]; exact ⟨fun e => hi e.symm, h2⟩⟩
theorem wipeD_length (δ : DS) : ∀ vs : List Nat, (wipeD δ vs).length = δ.length
  | [] => rfl
  | v :: vs => by unfold wipeD; rw [List.length_set, wipeD_length δ vs]
theorem StE.wipe {K : Fr} {M0 : List Addr} {μ : Mu} {δ : DS} {σ : L2.St} {H : Hp} (s : StE K M0 μ δ σ H) (vs : List Nat) : StE K M0 μ (wipeD δ vs) (L2.wipe σ vs) H :=
  ⟨by rw [wipe_length, wipeD_length]; exact s.len, fun i d h => by
    obtain ⟨h1, h2⟩ := wipeD_some h
    obtain ⟨v, h3, h4⟩ := s.sl i d h1
    exact ⟨v, by rw [wipe_out h2]; exact h3, h4⟩, s.mu, s.dom⟩
theorem wipe_off {σ σ' : L2.St} {is vs : List Nat} (o : Off is (L2.wipe σ vs) σ') (hs : ∀ i ∈ is, i ∈ vs) : L2.wipe σ' vs = L2.wipe σ vs := by
  have key : ∀ (ws : List Nat) (τ : L2.St) (j : Nat), (L2.wipe τ ws)[j]? = if j ∈ ws then (if j < τ.length then some none else none) else τ[j]? := by
    intro ws τ j
    induction ws with
    | nil => simp [L2.wipe]
    | cons v vs ih =>
      unfold L2.wipe
      by_cases hv : v = j
      · subst hv
        rw [List.getElem?_set]
        simp only [if_true, List.mem_cons, true_or, wipe_length]
      · have hv' : ¬ j = v := fun z => hv z.symm
        rw [List.getElem?_set_ne hv, ih]
        simp only [List.mem_cons, hv', false_or]
  apply List.ext_getElem?
  intro j
  have hl : σ'.length = σ.length := by rw [o.1, wipe_length]
  rw [key, key, hl]
  by_cases hj : j ∈ vs
  · simp only [hj, if_true]
  · simp only [hj, if_false]
    have := o.2 j fun z => hj (hs j z)
    rw [this, key]
    simp only [hj, if_false]
def WTs (X : Cx) (ifs : List Expr) : TT := fun σ H Q => ∀ pins s, Inv X pins σ H s →
    wpAny (model X.prog X.w) X.A (forIn ifs true fun c r => if r = true then do let ok ← isTrue c X.env (eval c X.env); pure (ForInStep.yield ok) else pure (ForInStep.yield r)) (TP X pins σ Q) X.xe s
def TsD (C : CxD) (δ : DS) (μ : Mu) (ifs : List Expr) (b : Bool) : Prop := ∀ X, IsCx C X → ∀ M0 σ H, StE C.K M0 μ δ σ H → ∀ Q : Bool → Hp → Prop, (∀ H', Same H H' → Q b H') → WTs X ifs σ H Q
theorem TsD.nil {C : CxD} {δ : DS} {μ : Mu} : TsD C δ μ [] true := fun X h M0 σ H s Q q pins st I => (pts_nil (X := X)).run pins st σ H Q I (q H (Same.refl H))
theorem TsD.one {C : CxD} {δ : DS} {μ : Mu} {c : Expr} {b : Bool} (h1 : TD C δ μ c b) : TsD C δ μ [c] b := fun X h M0 σ H s Q q pins st I => (pts_one (WT.pt X c)).run pins st σ H Q I (h1 X h M0 σ H s Q q)
/-- one turn: the item d gives g (none: left out) -/
def TurnD (C : CxD) (scope : Scope) (own : List (Str × Nat)) (tg elt : Expr) (ifs : List Expr) (δ : DS) (μ : Mu) (d : D) (g : Option D) : Prop :=
  ∃ is δ' b, TGD (C.blk scope) tg d is (wipeD δ (own.map (·.2))) δ' ∧ (∀ i ∈ is, i ∈ own.map (·.2)) ∧ (∀ p, TsD (C.blk scope) δ' (p :: μ) ifs b) ∧ (b = false → g = none) ∧ (b = true → ∃ e, g = some e ∧ ∀ p, ED (C.blk scope) δ' (p :: μ) elt e)
theorem Dom.cons {M : List Addr} {H : Hp} {p : Addr} {o : HO} (d : Dom M H) (h : H p = some o) : Dom (p :: M) H := fun m hm => by
  rcases List.mem_cons.mp hm with rfl | hm
  · exact ⟨o, h⟩
  · exact d m hm
section
variable {C : CxD} {δ : DS} {μ : Mu} {elt tg iter : Expr} {ifs : List Expr} {scope : Scope} {own : List (Str × Nat)} {ds es : List D} {pos : Pos} {g : Nat → Option D}
/-- the comprehension's reading -/
theorem lc_read {X : Cx} (h : IsCx C X) (hi : ID C δ μ tg iter ds) (ht : ∀ (i : Nat) (d : D), ds[i]? = some d → TurnD C scope own tg elt ifs δ μ d (g i)) (hl : ds.length < sizeLine) {M0 : List Addr} {σ : L2.St} {H : Hp} (s : StE C.K M0 μ δ σ H) {Q : VK}
    (q : Kont C.K (μ.as ++ M0) H (.lst ((List.range ds.length).filterMap g)) Q) :
    tLc (WI X tg iter) (fun v σ H Q => ∀ (s : Shared) (H' : Hp) (L : Addr) (cl : List (Str × Addr)) (fp : List Addr), WG (X.blk s H' scope (compEnvC scope cl L X.env) fp) tg v σ H Q)
      (fun σ H Q => ∀ (s : Shared) (H' : Hp) (L : Addr) (cl : List (Str × Addr)) (fp : List Addr), WTs (X.blk s H' scope (compEnvC scope cl L X.env) fp) ifs σ H Q)
      (fun σ H Q => ∀ (s : Shared) (H' : Hp) (L : Addr) (cl : List (Str × Addr)) (fp : List Addr), WE (X.blk s H' scope (compEnvC scope cl L X.env) fp) elt σ H Q) (own.map (·.2)) σ H Q := by
  refine hi X h M0 σ H s _ fun J H1 e1 itd => ?_
  intro Dl hD
  have dm1 : Dom (μ.as ++ M0) H1 := s.domA.mono e1
  have dni : Dl ∉ μ.as ++ M0 := dm1.ni hD
  let out : Nat → List D := fun i => (List.range i).filterMap g
  have out_succ : ∀ i, out (i + 1) = out i ++ (g i).toList := fun i => by
    show (List.range (i + 1)).filterMap g = (List.range i).filterMap g ++ (g i).toList
    rw [List.range_succ, List.filterMap_append]
    congr 1
  have out_len : ∀ i, (out i).length ≤ i := fun i => by
    have := List.length_filterMap_le g (List.range i)
    rw [List.length_range] at this
    exact this
  -- the invariant
  let P : Nat → Hp → Prop := fun i H' => Same (hid (μ.as ++ M0) H1) (hid (Dl :: (μ.as ++ M0)) H') ∧ Same H1 H' ∧ ∃ acc, H' Dl = some (.lst acc) ∧ Reps C.K (hid (Dl :: (μ.as ++ M0)) H') (out i) acc
  refine ⟨fun i m H' => i + m = ds.length ∧ P i H', ⟨ds.length, Nat.zero_add _, ?_⟩, fun i m H' ⟨him, p1, p2, acc, p3, p4⟩ => ?_⟩
  · refine ⟨fun b u hb => ?_, same_upd hD, [], upd_same, Reps.nil⟩
    obtain ⟨b1, b2⟩ := hid_some hb
    rw [hid_ne fun z => (List.mem_cons.mp z).elim (fun e => ne_of_none b2 hD e) b1, upd_ne (ne_of_none b2 hD)]
    exact b2
  have dm' : Dom (Dl :: (μ.as ++ M0)) H' := (dm1.mono p2).cons p3
  obtain ⟨it1, it2⟩ := itd (Dl :: (μ.as ++ M0)) H' dm' p1 i
  by_cases hend : i = ds.length
  · refine .inl ⟨it2 hend, q _ H' (e1.trans p2) ?_⟩
    subst hend
    exact rep_lst.mpr ⟨Dl, acc, rfl, by rw [hid_ne dni]; exact p3, Reps.mono (hid_sub fun a ha => List.mem_cons_of_mem _ ha) _ _ p4⟩
  · have hlt : i < ds.length := by omega
    obtain ⟨d, hd⟩ : ∃ d, ds[i]? = some d := ⟨_, List.getElem?_eq_getElem hlt⟩
    obtain ⟨go, yl⟩ := it1 d hd
    refine .inr ⟨go, fun H2 => P (i + 1) H2, fun H2 h2 => ⟨m - 1, by omega, by omega, h2⟩, fun x H3 hx => ?_⟩
    obtain ⟨e3, rx⟩ := yl x H3 hx
    obtain ⟨is, δ', b, t1, t2, t3, t4, t5⟩ := ht i d hd
    have s3 : StE C.K M0 ((Dl, MC.lst (out i)) :: μ) (wipeD δ (own.map (·.2))) (L2.wipe σ (own.map (·.2))) H3 := by
      have w := (s.mono ((e1.trans p2).trans e3)).wipe (own.map (·.2))
      have k : Same (hid (μ.as ++ M0) H1) (hid (Dl :: (μ.as ++ M0)) H3) := p1.trans (hid_same e3)
      refine ⟨w.len, fun j d' hj => ?_, fun qq hq => ?_, w.dom⟩
      · obtain ⟨v, h1, h2⟩ := ((s.mono e1).wipe (own.map (·.2))).sl j d' hj
        exact ⟨v, h1, Rep.mono k _ _ h2⟩
      · rcases List.mem_cons.mp hq with rfl | hq
        · exact ⟨acc, e3 _ _ p3, Reps.mono (hid_same e3) _ _ p4⟩
        · exact ((s.mono e1).mu qq hq).mono k (fun o ho => e3 _ _ (p2 _ _ ho))
    -- after anything that keeps
    have fin : ∀ H5, Same H3 H5 → g i = none → P (i + 1) H5 := fun H5 e5 hg => by
      refine ⟨p1.trans (hid_same (e3.trans e5)), p2.trans (e3.trans e5), acc, e5 _ _ (e3 _ _ p3), ?_⟩
      rw [out_succ, hg]
      simpa using Reps.mono (hid_same (e3.trans e5)) _ _ p4
    intro s0 H0 L cl fp
    refine t1 _ (h.blk s0 H0 scope cl L fp) M0 _ _ H3 x s3 rx _ fun σ' s4 off => ?_
    refine ⟨wipe_off off t2, fun s0 H0 L cl fp => ?_⟩
    refine t3 _ _ (h.blk s0 H0 scope cl L fp) M0 _ H3 s4 _ fun H4 e4 => ?_
    cases b with
    | false => exact iteF (fin H4 e4 (t4 rfl))
    | true =>
      refine iteT ?_
      obtain ⟨y, hy, t6⟩ := t5 rfl
      intro s0 H0 L cl fp
      refine t6 _ _ (h.blk s0 H0 scope cl L fp) M0 _ H4 (s4.mono e4) _ fun v H5 e5 r5 => ?_
      have e35 := e4.trans e5
      have r5 : Rep C.K (hid (Dl :: (μ.as ++ M0)) H5) y v := r5
      refine ⟨acc, e35 _ _ (e3 _ _ p3), by rw [← p4.len]; exact Nat.lt_of_le_of_lt (Nat.le_trans (out_len i) (Nat.le_of_lt hlt)) hl, ?_⟩
      have ku : Same (hid (Dl :: (μ.as ++ M0)) H5) (hid (Dl :: (μ.as ++ M0)) (upd H5 Dl (.lst (acc ++ [v])))) := fun b' u hb => by
        obtain ⟨b1, b2⟩ := hid_some hb
        rw [hid_ne b1, upd_ne fun z => b1 (by rw [z]; exact List.mem_cons_self)]
        exact b2
      refine ⟨(p1.trans (hid_same (e3.trans e35))).trans ku, fun b' u hb => ?_, acc ++ [v], upd_same, ?_⟩
      · rw [upd_ne (ne_of_none hb hD)]
        exact (p2.trans (e3.trans e35)) _ _ hb
      · rw [out_succ, hy]
        refine Reps.append (Reps.mono ku _ _ (Reps.mono (hid_same (e3.trans e35)) _ _ p4)) (Reps.cons (Rep.mono ku _ _ r5) Reps.nil)
theorem blkPG {X : Cx} : ∀ (s : Shared) (H : Hp) (L : Addr) (cl : List (Str × Addr)) (fp : List Addr), PG (X.blk s H scope (compEnvC scope cl L X.env) fp) tg (fun v σ H Q => ∀ (s : Shared) (H' : Hp) (L : Addr) (cl : List (Str × Addr)) (fp : List Addr), WG (X.blk s H' scope (compEnvC scope cl L X.env) fp) tg v σ H Q) :=
  fun s H L cl fp => ⟨fun pins s1 σ H1 v u Q I r h => h s H L cl fp pins s1 u I r⟩
theorem blkPTs {X : Cx} : ∀ (s : Shared) (H : Hp) (L : Addr) (cl : List (Str × Addr)) (fp : List Addr), PTs (X.blk s H scope (compEnvC scope cl L X.env) fp) ifs (fun σ H Q => ∀ (s : Shared) (H' : Hp) (L : Addr) (cl : List (Str × Addr)) (fp : List Addr), WTs (X.blk s H' scope (compEnvC scope cl L X.env) fp) ifs σ H Q) :=
  fun s H L cl fp => ⟨fun pins s1 σ H1 Q I h => h s H L cl fp pins s1 I⟩
theorem blkPE {X : Cx} : ∀ (s : Shared) (H : Hp) (L : Addr) (cl : List (Str × Addr)) (fp : List Addr), PE (X.blk s H scope (compEnvC scope cl L X.env) fp) elt (fun σ H Q => ∀ (s : Shared) (H' : Hp) (L : Addr) (cl : List (Str × Addr)) (fp : List Addr), WE (X.blk s H' scope (compEnvC scope cl L X.env) fp) elt σ H Q) :=
  fun s H L cl fp => ⟨fun pins s1 σ H1 Q I h => h s H L cl fp pins s1 I⟩
abbrev NoFold (iter : Expr) : Prop := ∀ env x, foldedSetIterable iter env x = pure x
theorem ED.lcIf (hi : ID C δ μ tg iter ds) (ht : ∀ (i : Nat) (d : D), ds[i]? = some d → TurnD C scope own tg elt ifs δ μ d (g i)) (hl : ds.length < sizeLine) (nd : C.N.Nodup) (ok : BlkOk C.N C.sc scope own) (hs : NoFold iter) :
    ED C δ μ (.ListComp elt [⟨tg, iter, ifs, 0⟩] scope pos) (.lst ((List.range ds.length).filterMap g)) := by
  intro X h M0 σ H s Q q
  exact of_pe (pe_lc h.calm (by rw [h.N]; exact nd) (WI.pi X tg iter) (by rw [h.N, h.sc]; exact ok) blkPG blkPTs blkPE (hs _)) (lc_read h hi ht hl s q)
theorem filterMap_all {es : List D} (hl : es.length = ds.length) : (List.range ds.length).filterMap (fun i => es[i]?) = es := by
  rw [← hl]
  clear hl
  induction es with
  | nil => rfl
  | cons e es ih =>
    rw [List.length_cons, List.range_succ_eq_map, List.filterMap_cons]
    show e :: List.filterMap (fun i => (e :: es)[i]?) (List.map Nat.succ (List.range es.length)) = e :: es
    rw [List.filterMap_map]
    congr 1
/-- one turn without tests -/
def TurnE (C : CxD) (scope : Scope) (own : List (Str × Nat)) (tg elt : Expr) (δ : DS) (μ : Mu) (d e : D) : Prop :=
  ∃ is δ', TGD (C.blk scope) tg d is (wipeD δ (own.map (·.2))) δ' ∧ (∀ i ∈ is, i ∈ own.map (·.2)) ∧ ∀ p, ED (C.blk scope) δ' (p :: μ) elt e
theorem TurnE.d {d e : D} (t : TurnE C scope own tg elt δ μ d e) : TurnD C scope own tg elt [] δ μ d (some e) := by
  obtain ⟨is, δ', t1, t2, t3⟩ := t
  exact ⟨is, δ', true, t1, t2, fun _ => TsD.nil, (fun z => by cases z), fun _ => ⟨e, rfl, t3⟩⟩
theorem turns {es : List D} (hl : es.length = ds.length) (ht : ∀ (i : Nat) (d e : D), ds[i]? = some d → es[i]? = some e → TurnE C scope own tg elt δ μ d e) : ∀ (i : Nat) (d : D), ds[i]? = some d → TurnD C scope own tg elt [] δ μ d (es[i]?) := fun i d hd => by
  have hlt : i < es.length := by rw [hl]; exact (List.getElem?_eq_some_iff.mp hd).1
  rw [List.getElem?_eq_getElem hlt]
  exact (ht i d _ hd (List.getElem?_eq_getElem hlt)).d
theorem ED.lc (hi : ID C δ μ tg iter ds) (es : List D) (hle : es.length = ds.length) (ht : ∀ (i : Nat) (d e : D), ds[i]? = some d → es[i]? = some e → TurnE C scope own tg elt δ μ d e) (hl : ds.length < sizeLine) (nd : C.N.Nodup) (ok : BlkOk C.N C.sc scope own) (hs : NoFold iter) :
    ED C δ μ (.ListComp elt [⟨tg, iter, [], 0⟩] scope pos) (.lst es) := by
  have := ED.lcIf (g := fun i => es[i]?) (pos := pos) hi (turns hle ht) hl nd ok hs
  rw [filterMap_all hle] at this
  exact this
end

/-! ### statements -/
structure Bse where
  M0 : List Addr
  W : List Addr
  H0 : Hp
structure StS (K : Fr) (B : Bse) (δ : DS) (μ : Mu) (σ : L2.St) (H : Hp) : Prop where
  e : StE K B.M0 μ δ σ H
  nd : μ.as.Nodup
  frame : ∀ b o, b ∉ B.W → B.H0 b = some o → H b = some o
  own : ∀ a ∈ μ.as, a ∈ B.W ∨ B.H0 a = none
  dom0 : Dom B.M0 B.H0
  sep : ∀ a ∈ B.W, a ∉ B.M0
theorem StS.ni {K : Fr} {B : Bse} {δ : DS} {μ : Mu} {σ : L2.St} {H : Hp} (s : StS K B δ μ σ H) {a : Addr} (h : a ∈ μ.as) : a ∉ B.M0 := by
  rcases s.own a h with h | h
  · exact s.sep a h
  · exact s.dom0.ni h
theorem StS.mono {K : Fr} {B : Bse} {δ : DS} {μ : Mu} {σ : L2.St} {H H' : Hp} (s : StS K B δ μ σ H) (e : Same H H') : StS K B δ μ σ H' :=
  ⟨s.e.mono e, s.nd, fun b o h1 h2 => e _ _ (s.frame b o h1 h2), s.own, s.dom0, s.sep⟩
theorem StS.setE {K : Fr} {B : Bse} {δ δ' : DS} {μ : Mu} {σ σ' : L2.St} {H : Hp} (s : StS K B δ μ σ H) (e : StE K B.M0 μ δ' σ' H) : StS K B δ' μ σ' H := ⟨e, s.nd, s.frame, s.own, s.dom0, s.sep⟩
structure EndsD where
  nx : DS → Mu → Prop
  rt : D → Mu → Prop
  bk : DS → Mu → Prop := fun _ _ => False
  ct : DS → Mu → Prop := fun _ _ => False
def EN (K : Fr) (B : Bse) (F : DS → Mu → Prop) : L2.St → Hp → Prop := fun σ H => ∃ δ μ, F δ μ ∧ StS K B δ μ σ H
def ER (K : Fr) (B : Bse) (F : D → Mu → Prop) : VK := fun v H => ∃ d μ δ σ, F d μ ∧ StS K B δ μ σ H ∧ Rep K (hid (μ.as ++ B.M0) H) d v
def endsOf (K : Fr) (B : Bse) (E : EndsD) : Ends := { nx := EN K B E.nx, rt := ER K B E.rt, bk := EN K B E.bk, ct := EN K B E.ct }
def SD (C : CxD) (δ : DS) (μ : Mu) (st : Stmt) (E : EndsD) : Prop := ∀ X, IsCx C X → ∀ B σ H, StS C.K B δ μ σ H → WS X st (endsOf C.K B E) σ H
def SDs (C : CxD) (δ : DS) (μ : Mu) (sts : List Stmt) (E : EndsD) : Prop := ∀ X, IsCx C X → ∀ B σ H, StS C.K B δ μ σ H → WSs X sts (endsOf C.K B E) σ H
structure Impl (D D' : Ends) : Prop where
  nx : ∀ σ H, D.nx σ H → D'.nx σ H
  rt : ∀ v H, D.rt v H → D'.rt v H
  bk : ∀ σ H, D.bk σ H → D'.bk σ H
  ct : ∀ σ H, D.ct σ H → D'.ct σ H
theorem SP.imp {X : Cx} {pins : List (Addr × Obj)} {D D' : Ends} (i : Impl D D') {f : Flow} {s : Shared} (h : SP X pins D f s) : SP X pins D' f s := by
  cases f with
  | next => obtain ⟨σ', H', I, q⟩ := h; exact ⟨σ', H', I, i.nx _ _ q⟩
  | brk => obtain ⟨σ', H', I, q⟩ := h; exact ⟨σ', H', I, i.bk _ _ q⟩
  | cont => obtain ⟨σ', H', I, q⟩ := h; exact ⟨σ', H', I, i.ct _ _ q⟩
  | ret u => obtain ⟨v, σ', H', I, r, q⟩ := h; exact ⟨v, σ', H', I, r, i.rt _ _ q⟩
theorem WS.imp {X : Cx} {st : Stmt} {D D' : Ends} {σ : L2.St} {H : Hp} (i : Impl D D') (h : WS X st D σ H) : WS X st D' σ H := fun pins s I => thn (h pins s I) fun _ _ q => SP.imp i q
theorem WSs.imp {X : Cx} {st : List Stmt} {D D' : Ends} {σ : L2.St} {H : Hp} (i : Impl D D') (h : WSs X st D σ H) : WSs X st D' σ H := fun pins s I => thn (h pins s I) fun _ _ q => SP.imp i q
section
variable {C : CxD} {δ δ' : DS} {μ : Mu} {e a c tg iter : Expr} {st : Stmt} {sts sts2 body : List Stmt} {d da : D} {ds : List D} {pos pos' : Pos} {E : EndsD} {x : Str}
theorem SDs.nil (h : E.nx δ μ) : SDs C δ μ [] E := fun X hx B σ H s => of_pss pss_nil ⟨δ, μ, h, s⟩
theorem SDs.cons (h : SD C δ μ st { E with nx := fun δ' μ' => SDs C δ' μ' sts E }) : SDs C δ μ (st :: sts) E := by
  intro X hx B σ H s
  refine of_pss (pss_cons (WS.ps X st) (WSs.pss X sts)) ?_
  refine WS.imp (D := endsOf C.K B { E with nx := fun δ' μ' => SDs C δ' μ' sts E }) ⟨fun σ' H' z => ?_, fun _ _ q => q, fun _ _ q => q, fun _ _ q => q⟩ (h X hx B σ H s)
  obtain ⟨δ', μ', k, s'⟩ := z
  exact k X hx B σ' H' s'
theorem SDs.one (h : SD C δ μ st E) : SDs C δ μ [st] E := fun X hx B σ H s => of_pss (pss_one (WS.ps X st)) (h X hx B σ H s)
abbrev NoSwap (C : CxD) (e : Expr) (tg : Option Expr) (l : Nat) : Prop := ∀ env, env.scope = C.sc → swapsWith e tg l env = pure false
theorem SD.set (i : Nat) (h : ED C δ μ e d) (k : E.nx (δ.set i (some d)) μ) (nd : C.N.Nodup) (hi : C.N[i]? = some x) (hx : StoreOk C x) (hs : NoSwap C e (some (.Name x pos')) pos.line) : SD C δ μ (.Assign [.Name x pos'] e pos) E := by
  intro X hX B σ H s
  refine of_ps (ps_set (i := i) (by rw [hX.N]; exact nd) (by rw [hX.N]; exact hi) (hx.loc hX).1 (WE.pe X e) (hs _ hX.sc) (hx.loc hX).2) ?_
  refine h X hX B.M0 σ H s.e _ fun v H1 e1 r1 => ?_
  exact ⟨_, μ, k, (s.mono e1).setE ((s.mono e1).e.set i r1)⟩
theorem SD.asg {is : List Nat} (h : ED C δ μ e d) (hg : TGD C tg d is δ δ') (k : E.nx δ' μ) (hs : ∀ env, swapsWithSole [tg] e pos.line env = pure false) (hw : ∀ env, swappedStores [tg] e env = pure none) (h1 : ∀ env, (assignEach [tg] env).map (·.2) = [assign tg env]) : SD C δ μ (.Assign [tg] e pos) E := by
  intro X hX B σ H s
  refine of_ps (ps_asg (WE.pe X e) (WG.pg X tg) (hs _) (hw _) (h1 _)) ?_
  refine h X hX B.M0 σ H s.e _ fun v H1 e1 r1 => ?_
  refine hg X hX B.M0 μ σ H1 v (s.e.mono e1) r1 _ fun σ' s' _ => ?_
  exact ⟨_, μ, k, (s.mono e1).setE s'⟩
theorem SD.ite {b : Bool} (hc : TD C δ μ c b) (h1 : b = true → SDs C δ μ sts E) (h2 : b = false → SDs C δ μ sts2 E) : SD C δ μ (.If c sts sts2 pos) E := by
  intro X hX B σ H s
  refine of_ps (ps_if (WT.pt X c) (WSs.pss X sts) (WSs.pss X sts2)) ?_
  refine hc X hX B.M0 σ H s.e _ fun H' e1 => ?_
  cases b with
  | true => exact iteT (h1 rfl X hX B σ H' (s.mono e1))
  | false => exact iteF (h2 rfl X hX B σ H' (s.mono e1))
theorem SD.ifT (hc : TD C δ μ c true) (h1 : SDs C δ μ sts E) : SD C δ μ (.If c sts sts2 pos) E := SD.ite hc (fun _ => h1) (fun z => by cases z)
theorem SD.ifF (hc : TD C δ μ c false) (h1 : SDs C δ μ sts2 E) : SD C δ μ (.If c sts sts2 pos) E := SD.ite hc (fun z => by cases z) (fun _ => h1)
theorem SD.ret (h : ED C δ μ e d) (k : E.rt d μ) : SD C δ μ (.Return (some e) pos) E := by
  intro X hX B σ H s
  refine of_ps (ps_ret (WE.pe X e)) ?_
  refine h X hX B.M0 σ H s.e _ fun v H1 e1 r1 => ?_
  exact ⟨d, μ, δ, σ, k, s.mono e1, r1⟩
theorem SD.expr (h : ED C δ μ e d) (k : E.nx δ μ) (hs : ∀ env, swapsWith e none pos.line env = pure false) : SD C δ μ (.Expr e pos) E := by
  intro X hX B σ H s
  refine of_ps (ps_expr (WE.pe X e) (hs _)) ?_
  refine h X hX B.M0 σ H s.e _ fun v H1 e1 r1 => ?_
  exact ⟨δ, μ, k, s.mono e1⟩
/-- a comprehension to a name of its line -/
theorem SD.setLc {elt : Expr} {scope : Scope} {own : List (Str × Nat)} {pos2 : Pos} (i : Nat) (hi : ID C δ μ tg iter ds) (es : List D) (hle : es.length = ds.length) (ht : ∀ (i : Nat) (d e : D), ds[i]? = some d → es[i]? = some e → TurnE C scope own tg elt δ μ d e) (k : E.nx (δ.set i (some (.lst es))) μ)
    (hl : ds.length < sizeLine) (nd : C.N.Nodup) (ok : BlkOk C.N C.sc scope own) (hs : NoFold iter) (hn : C.N[i]? = some x) (hx : C.sc.names.lookup x = some .local) (hline : (pos'.line == pos2.line) = true) (ha : (scope.names.any fun (n, k) => n == x && (k == .local || k == .cell)) = false)
    (hk : C.sc.kind = .function) : SD C δ μ (.Assign [.Name x pos'] (.ListComp elt [⟨tg, iter, [], 0⟩] scope pos2) pos) E := by
  intro X hX B σ H s
  refine of_ps (ps_setLc (i := i) hX.calm (by rw [hX.N]; exact nd) (by rw [hX.N]; exact hn) (by rw [hX.sc]; exact hx) (sw_true (by rw [hX.sc]; exact hk) (by rw [hX.sc]; exact hx) hline ha) (WI.pi X tg iter) (by rw [hX.N, hX.sc]; exact ok) blkPG blkPTs blkPE (hs _)) ?_
  refine lc_read (g := fun i => es[i]?) hX hi (turns hle ht) hl s.e fun v H1 e1 r1 => ?_
  rw [filterMap_all hle] at r1
  exact ⟨_, μ, k, (s.mono e1).setE ((s.mono e1).e.set i r1)⟩
theorem SD.setLcIf {elt : Expr} {ifs : List Expr} {scope : Scope} {own : List (Str × Nat)} {pos2 : Pos} {g : Nat → Option D} (i : Nat) (hi : ID C δ μ tg iter ds) (ht : ∀ (i : Nat) (d : D), ds[i]? = some d → TurnD C scope own tg elt ifs δ μ d (g i)) (k : E.nx (δ.set i (some (.lst ((List.range ds.length).filterMap g)))) μ)
    (hl : ds.length < sizeLine) (nd : C.N.Nodup) (ok : BlkOk C.N C.sc scope own) (hs : NoFold iter) (hn : C.N[i]? = some x) (hx : C.sc.names.lookup x = some .local) (hline : (pos'.line == pos2.line) = true) (ha : (scope.names.any fun (n, k) => n == x && (k == .local || k == .cell)) = false)
    (hk : C.sc.kind = .function) : SD C δ μ (.Assign [.Name x pos'] (.ListComp elt [⟨tg, iter, ifs, 0⟩] scope pos2) pos) E := by
  intro X hX B σ H s
  refine of_ps (ps_setLc (i := i) hX.calm (by rw [hX.N]; exact nd) (by rw [hX.N]; exact hn) (by rw [hX.sc]; exact hx) (sw_true (by rw [hX.sc]; exact hk) (by rw [hX.sc]; exact hx) hline ha) (WI.pi X tg iter) (by rw [hX.N, hX.sc]; exact ok) blkPG blkPTs blkPE (hs _)) ?_
  refine lc_read hX hi ht hl s.e fun v H1 e1 r1 => ?_
  exact ⟨_, μ, k, (s.mono e1).setE ((s.mono e1).e.set i r1)⟩
/-- a comprehension to a name that is a cell: no swap -/
theorem noswap_cell {C : CxD} {x : Str} {e : Expr} {l : Nat} (hx : C.sc.names.lookup x = some .cell) : NoSwap C e (some (.Name x pos')) l := by
  intro env he
  have hk : env.kindOf x = some .cell := by
    show env.scope.names.lookup x = _
    rw [he]
    exact hx
  have hb : (env.kindOf x == some NameKind.local) = false := by rw [hk]; rfl
  unfold swapsWith
  cases e <;> first
    | rfl
    | (simp only [hb, Bool.and_false, Bool.false_and]; rfl)
    | (simp only [hb, Bool.and_false, Bool.false_and])
end
end DL
namespace DL
open PySem L2

/-! ### loops -/
theorem StS.inW {K : Fr} {B : Bse} {δ : DS} {μ : Mu} {σ : L2.St} {H : Hp} (s : StS K B δ μ σ H) {a : Addr} (h : a ∈ μ.as) (hw : a ∉ B.W) : B.H0 a = none := by
  rcases s.own a h with h | h
  · exact absurd h hw
  · exact h
/-- a new ground at this place -/
theorem StS.base {K : Fr} {B : Bse} {δ : DS} {μ : Mu} {σ : L2.St} {H : Hp} (s : StS K B δ μ σ H) : StS K ⟨B.M0, μ.as, H⟩ δ μ σ H :=
  ⟨s.e, s.nd, fun _ _ _ h => h, fun _ h => .inl h, s.e.dom, fun _ h => s.ni h⟩
theorem StS.rebase {K : Fr} {B : Bse} {δ δ' : DS} {μ μ' : Mu} {σ σ' : L2.St} {H H' : Hp} (s : StS K B δ μ σ H) (t : StS K ⟨B.M0, μ.as, H⟩ δ' μ' σ' H') : StS K B δ' μ' σ' H' := by
  have fr : ∀ b o, b ∉ B.W → B.H0 b = some o → H b = some o ∧ b ∉ μ.as := fun b o h1 h2 => ⟨s.frame b o h1 h2, fun z => by
    rw [s.inW z h1] at h2
    cases h2⟩
  refine ⟨t.e, t.nd, fun b o h1 h2 => t.frame b o (fr b o h1 h2).2 (fr b o h1 h2).1, fun a ha => ?_, s.dom0, s.sep⟩
  by_cases hw : a ∈ B.W
  · exact .inl hw
  · refine .inr ?_
    rcases t.own a ha with h | h
    · exact s.inW h hw
    · cases q : B.H0 a with
      | none => rfl
      | some o =>
        have := (fr a o hw q).1
        rw [show H a = none from h] at this
        cases this
theorem EN.rebase {K : Fr} {B : Bse} {δ : DS} {μ : Mu} {σ : L2.St} {H : Hp} (s : StS K B δ μ σ H) {F : DS → Mu → Prop} {σ' : L2.St} {H' : Hp} (h : EN K ⟨B.M0, μ.as, H⟩ F σ' H') : EN K B F σ' H' := by
  obtain ⟨δ', μ', h1, h2⟩ := h
  exact ⟨δ', μ', h1, s.rebase h2⟩
theorem ER.rebase {K : Fr} {B : Bse} {δ : DS} {μ : Mu} {σ : L2.St} {H : Hp} (s : StS K B δ μ σ H) {F : D → Mu → Prop} {v : V} {H' : Hp} (h : ER K ⟨B.M0, μ.as, H⟩ F v H') : ER K B F v H' := by
  obtain ⟨d, μ', δ', σ', h1, h2, h3⟩ := h
  exact ⟨d, μ', δ', σ', h1, s.rebase h2, h3⟩
section
variable {C : CxD} {δ δ' : DS} {μ : Mu} {e a b c o i tg iter : Expr} {es : List Expr} {st : Stmt} {sts sts2 body : List Stmt} {d da : D} {ds : List D} {pos pos' apos : Pos} {E : EndsD} {x : Str}
theorem SD.for_ (W : Nat → DS → Mu → Prop) (hi : ID C δ μ tg iter ds) (h0 : W 0 δ μ)
    (hs : ∀ (i : Nat) (d : D) (δ1 : DS) (μ1 : Mu), ds[i]? = some d → W i δ1 μ1 → ∃ is δ2, TGD C tg d is δ1 δ2 ∧ SDs C δ2 μ1 body { E with nx := W (i + 1), ct := W (i + 1), bk := E.nx }) (hd : ∀ δ1 μ1, W ds.length δ1 μ1 → E.nx δ1 μ1) (hf : NoFold iter) :
    SD C δ μ (.For tg iter body [] pos) E := by
  intro X hX B σ H s
  refine of_ps (ps_for (by rw [hX.xe]; exact PassesOwn.never) hX.calm (WI.pi X tg iter) (WG.pg X tg) (WSs.pss X body) (hf _)) ?_
  refine hi X hX B.M0 σ H s.e _ fun J H1 e1 itd => ?_
  have s1 := s.mono e1
  refine ⟨fun i m σ' H' => i + m = ds.length ∧ EN C.K ⟨B.M0, μ.as, H1⟩ (W i) σ' H', ⟨ds.length, Nat.zero_add _, δ, μ, h0, s1.base⟩, fun i m σ' H' ⟨him, δ1, μ1, w1, t1⟩ => ?_⟩
  have hsm : Same (hid (μ.as ++ B.M0) H1) (hid (μ1.as ++ B.M0) H') := fun b o hb => by
    obtain ⟨b1, b2⟩ := hid_some hb
    have b1a : b ∉ μ.as := fun z => b1 (List.mem_append_left _ z)
    rw [hid_ne fun z => ?_]
    · exact t1.frame b o b1a b2
    · rcases List.mem_append.mp z with z | z
      · rcases t1.own b z with q | q
        · exact b1a q
        · rw [show H1 b = none from q] at b2
          cases b2
      · exact b1 (List.mem_append_right _ z)
  obtain ⟨it1, it2⟩ := itd (μ1.as ++ B.M0) H' t1.e.domA hsm i
  by_cases hend : i = ds.length
  · subst hend
    exact .inl ⟨it2 rfl, EN.rebase s1 ⟨δ1, μ1, hd δ1 μ1 w1, t1⟩⟩
  · have hlt : i < ds.length := by omega
    obtain ⟨d, hd'⟩ : ∃ d, ds[i]? = some d := ⟨_, List.getElem?_eq_getElem hlt⟩
    obtain ⟨go, yl⟩ := it1 d hd'
    refine .inr ⟨go, EN C.K ⟨B.M0, μ.as, H1⟩ (W (i + 1)), fun σ2 H2 h2 => ⟨m - 1, by omega, by omega, h2⟩, fun x H3 hx => ?_⟩
    obtain ⟨e3, rx⟩ := yl x H3 hx
    obtain ⟨is, δ2, tg1, bd⟩ := hs i d δ1 μ1 hd' w1
    have t3 := t1.mono e3
    refine tg1 X hX B.M0 μ1 σ' H3 x t3.e rx _ fun σ2 s2 _ => ?_
    refine WSs.imp ?_ (bd X hX ⟨B.M0, μ.as, H1⟩ σ2 H3 (t3.setE s2))
    exact ⟨fun _ _ q => q, fun v H' q => ER.rebase s1 q, fun σ' H' q => EN.rebase s1 q, fun _ _ q => q⟩
theorem SD.while_ (W : Nat → DS → Mu → Prop) (m0 : Nat) (h0 : W m0 δ μ)
    (hs : ∀ m δ1 μ1, W m δ1 μ1 → ∃ b, TD C δ1 μ1 c b ∧ (b = true → SDs C δ1 μ1 body { E with nx := fun δ' μ' => ∃ m', m' < m ∧ W m' δ' μ', ct := fun δ' μ' => ∃ m', m' < m ∧ W m' δ' μ', bk := E.nx }) ∧ (b = false → E.nx δ1 μ1)) :
    SD C δ μ (.While c body [] pos) E := by
  intro X hX B σ H s
  refine of_ps (ps_while (by rw [hX.xe]; exact PassesOwn.never) (WT.pt X c) (WSs.pss X body)) ?_
  refine ⟨fun m σ' H' => EN C.K B (W m) σ' H', ⟨m0, δ, μ, h0, s⟩, fun m σ' H' ⟨δ1, μ1, w1, t1⟩ => ?_⟩
  obtain ⟨b, hc, h1, h2⟩ := hs m δ1 μ1 w1
  refine hc X hX B.M0 σ' H' t1.e _ fun H2 e2 => ?_
  cases b with
  | false => exact iteF ⟨δ1, μ1, h2 rfl, t1.mono e2⟩
  | true =>
    refine iteT ⟨EN C.K B (fun δ' μ' => ∃ m', m' < m ∧ W m' δ' μ'), fun σ2 H3 ⟨δ2, μ2, ⟨m', l, w2⟩, t2⟩ => ⟨m', l, δ2, μ2, w2, t2⟩, ?_⟩
    exact h1 rfl X hX B σ' H2 (t1.mono e2)
theorem SD.par {y : Str} {px py pt pt2 : Pos} {k1 k2} {d2 : D} (i j : Nat) (h1 : ED C δ μ a d) (h2 : ED C δ μ b d2) (k : E.nx ((δ.set i (some d)).set j (some d2)) μ) (nd : C.N.Nodup) (hi : C.N[i]? = some x) (hj : C.N[j]? = some y) (hij : i ≠ j) (hx : C.sc.names.lookup x = some .local) (hy : C.sc.names.lookup y = some .local)
    (sa : Star a [b]) (sb : Star b []) (hw : ∀ env, env.scope = C.sc → swappedStores [.Tuple [.Name x px, .Name y py] k1 pt] (.Tuple [a, b] k2 pt2) env = pure (some [x, y])) (hs : ∀ env, swapsWithSole [.Tuple [.Name x px, .Name y py] k1 pt] (.Tuple [a, b] k2 pt2) pos.line env = pure false) :
    SD C δ μ (.Assign [.Tuple [.Name x px, .Name y py] k1 pt] (.Tuple [a, b] k2 pt2) pos) E := by
  intro X hX B σ H s
  refine of_ps (ps_par (i := i) (j := j) hX.calm (by rw [hX.N]; exact nd) (by rw [hX.N]; exact hi) (by rw [hX.N]; exact hj) hij (by rw [hX.sc]; exact hx) (by rw [hX.sc]; exact hy) (pa_cons (WE.pe X a) (pa_cons (WE.pe X b) pa_nil (sb _)) (sa _)) (hw _ hX.sc) (hs _)) ?_
  refine h1 X hX B.M0 σ H s.e _ fun v H1 e1 r1 => ?_
  refine h2 X hX B.M0 σ H1 (s.e.mono e1) _ fun w H2 e2 r2 => ?_
  have s2 := s.mono (e1.trans e2)
  exact ⟨v, w, rfl, _, μ, k, s2.setE ((s2.e.set i (Rep.mono (hid_same e2) _ _ r1)).set j r2)⟩

/-! ### lists that change -/
theorem StS.newM {K : Fr} {B : Bse} {δ : DS} {μ : Mu} {σ : L2.St} {H H' : Hp} {p : Addr} {c : MC} (s : StS K B δ μ σ H) (hp : H p = none) (e : ∀ b o, H b = some o → H' b = some o) (hm : MAt K (hid (p :: (μ.as ++ B.M0)) H') H' p c) :
    StS K B δ ((p, c) :: μ) σ H' := by
  have hs : Same (hid (μ.as ++ B.M0) H) (hid (p :: (μ.as ++ B.M0)) H') := fun b o hb => by
    obtain ⟨b1, b2⟩ := hid_some hb
    rw [hid_ne fun z => (List.mem_cons.mp z).elim (fun q => ne_of_none b2 hp q) b1]
    exact e b o b2
  refine ⟨⟨s.e.len, fun i d h => ?_, fun q hq => ?_, s.e.dom.mono e⟩, ?_, fun b o h1 h2 => e _ _ (s.frame b o h1 h2), fun a ha => ?_, s.dom0, s.sep⟩
  · obtain ⟨v, h1, h2⟩ := s.e.sl i d h
    exact ⟨v, h1, Rep.mono hs _ _ h2⟩
  · rcases List.mem_cons.mp hq with rfl | hq
    · exact hm
    · exact (s.e.mu q hq).mono hs (e _)
  · show (p :: μ.as).Nodup
    exact List.nodup_cons.mpr ⟨fun z => (s.e.domA.ni hp) (List.mem_append_left _ z), s.nd⟩
  · rcases List.mem_cons.mp (show a ∈ p :: μ.as from ha) with rfl | ha
    · by_cases hw : a ∈ B.W
      · exact .inl hw
      · refine .inr ?_
        cases q : B.H0 a with
        | none => rfl
        | some o =>
          have := s.frame a o hw q
          rw [hp] at this
          cases this
    · exact s.own a ha
theorem as_set {μ : Mu} {k : Nat} {p : Addr} {c c' : MC} (h : μ[k]? = some (p, c)) : Mu.as (μ.set k (p, c')) = μ.as := by
  unfold Mu.as
  rw [List.map_set]
  apply List.ext_getElem?
  intro j
  by_cases hj : k = j
  · subst hj
    have hl : k < μ.length := (List.getElem?_eq_some_iff.mp h).1
    rw [List.getElem?_set_self (by simpa using hl), List.getElem?_map, h]
    rfl
  · rw [List.getElem?_set_ne hj]
theorem mem_as {μ : Mu} {k : Nat} {p : Addr} {c : MC} (h : μ[k]? = some (p, c)) : p ∈ μ.as := List.mem_map.mpr ⟨(p, c), List.mem_of_getElem? h, rfl⟩
theorem StS.putM {K : Fr} {B : Bse} {δ : DS} {μ : Mu} {σ : L2.St} {H : Hp} {p : Addr} {c c' : MC} {k : Nat} {u : HO} (s : StS K B δ μ σ H) (hk : μ[k]? = some (p, c)) (hm : ∀ H', H' = upd H p u → MAt K (hid (μ.as ++ B.M0) H) H' p c') :
    StS K B δ (μ.set k (p, c')) σ (upd H p u) := by
  have hp : p ∈ μ.as ++ B.M0 := List.mem_append_left _ (mem_as hk)
  have heq : hid (μ.as ++ B.M0) (upd H p u) = hid (μ.as ++ B.M0) H := by
    funext b
    by_cases hb : b ∈ μ.as ++ B.M0
    · rw [hid_in hb, hid_in hb]
    · rw [hid_ne hb, hid_ne hb, upd_ne fun z => hb (by rw [z]; exact hp)]
  refine ⟨⟨s.e.len, fun i d h => ?_, fun q hq => ?_, fun m hm => ?_⟩, ?_, fun b o h1 h2 => ?_, fun a ha => ?_, s.dom0, s.sep⟩
  · rw [as_set hk, heq]
    exact s.e.sl i d h
  · rw [as_set hk, heq]
    obtain ⟨j, hj⟩ := List.mem_iff_getElem?.mp hq
    by_cases hkj : k = j
    · subst hkj
      have hl : k < μ.length := (List.getElem?_eq_some_iff.mp hk).1
      rw [List.getElem?_set_self hl] at hj
      cases hj
      exact hm _ rfl
    · rw [List.getElem?_set_ne hkj] at hj
      have ne : q.1 ≠ p := fun z => hkj (nd_ix s.nd (x := p) (i := k) (j := j) (by rw [List.getElem?_map, hk]; rfl) (by rw [List.getElem?_map, hj, ← z]; rfl))
      exact (s.e.mu q (List.mem_of_getElem? hj)).mono (Same.refl _) fun o ho => by rw [upd_ne ne]; exact ho
  · obtain ⟨o, ho⟩ := s.e.dom m hm
    by_cases hmp : m = p
    · exact ⟨u, by rw [hmp]; exact upd_same⟩
    · exact ⟨o, by rw [upd_ne hmp]; exact ho⟩
  · rw [as_set hk]
    exact s.nd
  · have ne : b ≠ p := fun z => by
      rw [z] at h1 h2
      rw [s.inW (mem_as hk) h1] at h2
      cases h2
    rw [upd_ne ne]
    exact s.frame b o h1 h2
  · rw [as_set hk] at ha
    exact s.own a ha
/-- x = [..]: a list that will change -/
theorem SD.newL (i : Nat) {lp : Pos} (h : AD C δ μ es ds) (hl : ds.length ≤ sizeLine) (k : ∀ p, E.nx (δ.set i (some (.ptr p))) ((p, .lst ds) :: μ)) (nd : C.N.Nodup) (hi : C.N[i]? = some x) (hx : StoreOk C x) (hs : NoSwap C (.List es lp) (some (.Name x pos')) pos.line) :
    SD C δ μ (.Assign [.Name x pos'] (.List es lp) pos) E := by
  intro X hX B σ H s
  refine of_ps (ps_set (i := i) (by rw [hX.N]; exact nd) (by rw [hX.N]; exact hi) (hx.loc hX).1 (pe_lst (WA.pa X es)) (hs _ hX.sc) (hx.loc hX).2) ?_
  refine h X hX B.M0 σ H s.e _ fun xs H1 e1 r1 => ⟨by rw [← r1.len]; exact hl, fun p hp => ?_⟩
  have s1 := s.mono e1
  have hs : Same (hid (μ.as ++ B.M0) H1) (hid (p :: (μ.as ++ B.M0)) (upd H1 p (.lst xs))) := fun b o hb => by
    obtain ⟨b1, b2⟩ := hid_some hb
    rw [hid_ne fun z => (List.mem_cons.mp z).elim (fun q => ne_of_none b2 hp q) b1, upd_ne (ne_of_none b2 hp)]
    exact b2
  have s2 := s1.newM (c := .lst ds) hp (same_upd hp) ⟨xs, upd_same, Reps.mono hs _ _ r1⟩
  exact ⟨_, _, k p, s2.setE (s2.e.set i (rep_ptr.mpr rfl))⟩
theorem SD.append {p : Addr} (k : Nat) (ho : ED C δ μ o (.ptr p)) (he : ED C δ μ e d) (hk : μ[k]? = some (p, .lst ds)) (hz : ds.length < sizeLine) (kk : E.nx δ (μ.set k (p, .lst (ds ++ [d])))) {cpos : Pos}
    (hb : AttrB o "append") (hfew : ∀ cpos env, ((backTo cpos (starEach [e] env)).all (fun x => !x.1) && (backToKw cpos (keywordEach [] env)).all (fun x => x.1.isSome) && decide ([e].length + ([] : List Keyword).length + (if ([] : List Keyword).isEmpty then 0 else 1) < 30)) = true)
    (hline : (apos.endLine == cpos.line) = true) (hst : Star e []) (hsw : ∀ env, swapsWith (.Call (.Attribute o "append" apos) [e] [] cpos) none pos.line env = pure false) :
    SD C δ μ (.Expr (.Call (.Attribute o "append" apos) [e] [] cpos) pos) E := by
  intro X hX B σ H s
  refine of_ps (ps_expr (pe_bm PySem.F.plainAttrs_list PySem.F.slot_list_append PySem.F.type_list_append mt_append (WE.pe X o) (pa_cons (WE.pe X e) pa_nil (hst _)) (hb _) (hfew _ _) hline (hst _) rfl) (hsw _)) ?_
  refine ho X hX B.M0 σ H s.e _ fun v H1 e1 r1 => ?_
  have s1 := s.mono e1
  obtain ⟨xs, h1, h2⟩ := s1.e.lstM (List.mem_of_getElem? hk)
  rw [rep_ptr.mp r1]
  refine ⟨.inl ⟨rfl, xs, SqL.of h1⟩, ?_⟩
  refine he X hX B.M0 σ H1 s1.e _ fun w H2 e2 r2 => ?_
  have s2 := s1.mono e2
  obtain ⟨ys, h3, h4⟩ := s2.e.lstM (List.mem_of_getElem? hk)
  refine ⟨p, ys, w, rfl, rfl, h3, by rw [← h4.len]; exact hz, ?_⟩
  exact ⟨δ, _, kk, s2.putM hk fun H' e' => ⟨ys ++ [w], by rw [e']; exact upd_same, h4.append (Reps.cons r2 Reps.nil)⟩⟩
theorem SD.setIx {p : Addr} {n : Int} {j : Nat} (k : Nat) (he : ED C δ μ e d) (ho : ED C δ μ o (.ptr p)) (hi : ED C δ μ i (.int n)) (hk : μ[k]? = some (p, .lst ds)) (hn : n = (j : Int)) (hj : j < ds.length) (kk : E.nx δ (μ.set k (p, .lst (ds.set j d))))
    (ha : ∀ env v, assign (.Subscript o i pos') env v = (do
      let ov ← holding [v] (eval o env)
      let iv ← holding [v, ov] (eval i env)
      standAt pos'
      holding [v, ov, iv] (setItem ov iv v)
      release [v, ov, iv] []))
    (hs : ∀ env, swapsWithSole [.Subscript o i pos'] e pos.line env = pure false) (hw : ∀ env, swappedStores [.Subscript o i pos'] e env = pure none) (h1 : ∀ env, (assignEach [.Subscript o i pos'] env).map (·.2) = [assign (.Subscript o i pos') env]) :
    SD C δ μ (.Assign [.Subscript o i pos'] e pos) E := by
  intro X hX B σ H s
  refine of_ps (ps_asg (WE.pe X e) (pg_sub (WE.pe X o) (WE.pe X i) (set_list (X := X)) (ha _)) (hs _) (hw _) (h1 _)) ?_
  refine he X hX B.M0 σ H s.e _ fun v H1 e1 r1 => ?_
  have s1 := s.mono e1
  refine ho X hX B.M0 σ H1 s1.e _ fun w H2 e2 r2 => ?_
  have s2 := s1.mono e2
  refine hi X hX B.M0 σ H2 s2.e _ fun z H3 e3 r3 => ?_
  have s3 := s2.mono e3
  obtain ⟨ys, h3, h4⟩ := s3.e.lstM (List.mem_of_getElem? hk)
  rw [rep_ptr.mp r2, rep_int.mp r3]
  refine ⟨p, ys, n, j, rfl, rfl, h3, ?_, ?_⟩
  · unfold ixN
    rw [← h4.len, hn, if_pos (by omega), if_pos (by omega)]
    rfl
  · exact ⟨δ, _, kk, s3.putM hk fun H' e' => ⟨ys.set j v, by rw [e']; exact upd_same, h4.set (Rep.mono (hid_same (e2.trans e3)) _ _ r1) j⟩⟩
theorem cons_as {p : Addr} {c : MC} {μ : Mu} : Mu.as ((p, c) :: μ) = p :: μ.as := rfl
/-- the newest list will not change any more -/
theorem StS.freeze {K : Fr} {B : Bse} {δ : DS} {μ : Mu} {σ : L2.St} {H : Hp} {p : Addr} {ds : List D} (j : Nat) (s : StS K B δ ((p, .lst ds) :: μ) σ H) (hj : δ[j]? = some (some (.ptr p))) : StS K B (δ.set j (some (.lst ds))) μ σ H := by
  have hp : p ∉ μ.as := (List.nodup_cons.mp (show (p :: μ.as).Nodup from s.nd)).1
  have hp0 : p ∉ B.M0 := s.ni List.mem_cons_self
  have hs : Same (hid (Mu.as ((p, MC.lst ds) :: μ) ++ B.M0) H) (hid (μ.as ++ B.M0) H) := hid_sub fun a ha => List.mem_cons_of_mem _ ha
  obtain ⟨xs, h1, h2⟩ : MAt K _ H p (MC.lst ds) := s.e.mu (p, MC.lst ds) List.mem_cons_self
  refine ⟨⟨by rw [List.length_set]; exact s.e.len, fun i d h => ?_, fun q hq => (s.e.mu q (List.mem_cons_of_mem _ hq)).mono hs fun _ h => h, s.e.dom⟩, (List.nodup_cons.mp (show (p :: μ.as).Nodup from s.nd)).2, s.frame, fun a ha => s.own a (List.mem_cons_of_mem _ ha), s.dom0, s.sep⟩
  by_cases hji : j = i
  · subst hji
    have hl : j < δ.length := (List.getElem?_eq_some_iff.mp hj).1
    rw [List.getElem?_set_self hl] at h
    cases h
    obtain ⟨v, h3, h4⟩ := s.e.sl j _ hj
    refine ⟨v, h3, rep_lst.mpr ⟨p, xs, rep_ptr.mp h4, ?_, Reps.mono hs _ _ h2⟩⟩
    rw [hid_ne fun z => (List.mem_append.mp z).elim hp hp0]
    exact h1
  · rw [List.getElem?_set_ne hji] at h
    obtain ⟨v, h3, h4⟩ := s.e.sl i d h
    exact ⟨v, h3, Rep.mono hs _ _ h4⟩
theorem SDs.freeze {p : Addr} (j : Nat) (hj : δ[j]? = some (some (.ptr p))) (h : SDs C (δ.set j (some (.lst ds))) μ sts E) : SDs C δ ((p, .lst ds) :: μ) sts E := fun X hX B σ H s => h X hX B σ H (s.freeze j hj)

/-! ### fields that change -/
theorem putF_new : ∀ {ns : List Str} {xs : List V} {f : Str} {y : V}, ns.length = xs.length → f ∉ ns → putF f y (ns.zip xs) = (ns ++ [f]).zip (xs ++ [y])
  | [], [], _, _, _, _ => rfl
  | [], _ :: _, _, _, h, _ => by simp at h
  | _ :: _, [], _, _, h, _ => by simp at h
  | n :: ns, z :: xs, f, y, hl, h => by
    have ne : ¬ n = f := fun z => h (by simp [z])
    show (if n = f then (n, y) :: ns.zip xs else (n, z) :: putF f y (ns.zip xs)) = _
    rw [if_neg ne, putF_new (by simpa using hl) fun z => h (List.mem_cons_of_mem _ z)]
    rfl
theorem putF_old : ∀ {ns : List Str} {xs : List V} {f : Str} {y : V} {i : Nat}, ns.length = xs.length → FirstAt ns f i → putF f y (ns.zip xs) = ns.zip (xs.set i y)
  | [], _, _, _, i, _, h => by have := h.1; simp at this
  | _ :: _, [], _, _, _, h, _ => by simp at h
  | n :: ns, z :: xs, f, y, 0, hl, h => by
    have e1 : n = f := by have := h.1; simpa using this
    show (if n = f then (n, y) :: ns.zip xs else (n, z) :: putF f y (ns.zip xs)) = _
    rw [if_pos e1]
    rfl
  | n :: ns, z :: xs, f, y, i + 1, hl, h => by
    have ne : ¬ n = f := fun z => h.2 0 (Nat.succ_pos _) (by simp [z])
    show (if n = f then (n, y) :: ns.zip xs else (n, z) :: putF f y (ns.zip xs)) = _
    rw [if_neg ne, putF_old (i := i) (by simpa using hl) ⟨by have := h.1; simpa using this, fun k hk => by have := h.2 (k + 1) (Nat.succ_lt_succ hk); simpa using this⟩]
    rfl
theorem SD.fldNew {Cl p : Addr} {ns : List Str} {f : Str} (k : Nat) (he : ED C δ μ e d) (ho : ED C δ μ o (.ptr p)) (hk : μ[k]? = some (p, .ins Cl ns ds)) (hc : Cls C.K Cl) (hn : NoAttr C.K Cl f) (hf : f ∉ ns) (hz : ns.length < 1000) (kk : E.nx δ (μ.set k (p, .ins Cl (ns ++ [f]) (ds ++ [d]))))
    (hs : ∀ env, swapsWith e (some (.Attribute o f pos')) pos.line env = pure false) : SD C δ μ (.Assign [.Attribute o f pos'] e pos) E := by
  intro X hX B σ H s
  refine of_ps (ps_fld (WE.pe X o) (WE.pe X e) (hs _)) ?_
  refine he X hX B.M0 σ H s.e _ fun v H1 e1 r1 => ?_
  refine ho X hX B.M0 σ H1 (s.e.mono e1) _ fun w H2 e2 r2 => ?_
  have s2 := s.mono (e1.trans e2)
  obtain ⟨dx, xs, h1, h2, h3⟩ : MAt C.K _ H2 p (MC.ins Cl ns ds) := s2.e.mu _ (List.mem_of_getElem? hk)
  rw [rep_ptr.mp r2, hX.K]
  have hl : ns.length = xs.length := h2.trans h3.len
  refine ⟨p, Cl, dx, ns.zip xs, rfl, h1, hc, hn, by rw [List.length_zip]; omega, ?_⟩
  rw [putF_new hl hf]
  exact ⟨δ, _, kk, s2.putM hk fun H' e' => ⟨dx, xs ++ [v], by rw [e']; exact upd_same, by simp [h2], h3.append (Reps.cons (Rep.mono (hid_same e2) _ _ r1) Reps.nil)⟩⟩
theorem SD.fldOld {Cl p : Addr} {ns : List Str} {f : Str} {i : Nat} (k : Nat) (he : ED C δ μ e d) (ho : ED C δ μ o (.ptr p)) (hk : μ[k]? = some (p, .ins Cl ns ds)) (hc : Cls C.K Cl) (hn : NoAttr C.K Cl f) (hf : FirstAt ns f i) (hz : ns.length < 1000) (kk : E.nx δ (μ.set k (p, .ins Cl ns (ds.set i d))))
    (hs : ∀ env, swapsWith e (some (.Attribute o f pos')) pos.line env = pure false) : SD C δ μ (.Assign [.Attribute o f pos'] e pos) E := by
  intro X hX B σ H s
  refine of_ps (ps_fld (WE.pe X o) (WE.pe X e) (hs _)) ?_
  refine he X hX B.M0 σ H s.e _ fun v H1 e1 r1 => ?_
  refine ho X hX B.M0 σ H1 (s.e.mono e1) _ fun w H2 e2 r2 => ?_
  have s2 := s.mono (e1.trans e2)
  obtain ⟨dx, xs, h1, h2, h3⟩ : MAt C.K _ H2 p (MC.ins Cl ns ds) := s2.e.mu _ (List.mem_of_getElem? hk)
  rw [rep_ptr.mp r2, hX.K]
  have hl : ns.length = xs.length := h2.trans h3.len
  refine ⟨p, Cl, dx, ns.zip xs, rfl, h1, hc, hn, by rw [List.length_zip]; omega, ?_⟩
  rw [putF_old hl hf]
  exact ⟨δ, _, kk, s2.putM hk fun H' e' => ⟨dx, xs.set i v, by rw [e']; exact upd_same, by simp [h2], h3.set (Rep.mono (hid_same e2) _ _ r1) i⟩⟩
theorem SD.fldAdd {Cl p : Addr} {ns : List Str} {f : Str} {i : Nat} {n m : Int} (k : Nat) (ho : ED C δ μ o (.ptr p)) (he : ED C δ μ e (.int m)) (hk : μ[k]? = some (p, .ins Cl ns ds)) (hd : ds[i]? = some (.int n)) (hc : Cls C.K Cl) (hn : NoAttr C.K Cl f) (hf : FirstAt ns f i) (hz : ns.length < 1000)
    (kk : E.nx δ (μ.set k (p, .ins Cl ns (ds.set i (.int (n + m)))))) : SD C δ μ (.AugAssign (.Attribute o f pos') .Add e pos) E := by
  intro X hX B σ H s
  refine of_ps (ps_fldaug (WE.pe X o) (WE.pe X e) in_add) ?_
  refine ho X hX B.M0 σ H s.e _ fun w H1 e1 r1 => ?_
  have s1 := s.mono e1
  obtain ⟨dx, xs, h1, h2, h3⟩ : MAt C.K _ H1 p (MC.ins Cl ns ds) := s1.e.mu _ (List.mem_of_getElem? hk)
  obtain ⟨v, hv, rv⟩ := h3.get hd
  rw [rep_ptr.mp r1, hX.K]
  refine ⟨p, Cl, dx, ns.zip xs, v, rfl, h1, hc, hn, zip_at hf hv, ?_⟩
  refine he X hX B.M0 σ H1 s1.e _ fun z H2 e2 r2 => ?_
  have s2 := s1.mono e2
  refine ⟨n, m, rep_int.mp rv, rep_int.mp r2, ?_⟩
  obtain ⟨dx2, ys, h4, h5, h6⟩ : MAt C.K _ H2 p (MC.ins Cl ns ds) := s2.e.mu _ (List.mem_of_getElem? hk)
  have hl : ns.length = ys.length := h5.trans h6.len
  refine ⟨dx2, ns.zip ys, h4, by rw [List.length_zip]; omega, ?_⟩
  rw [putF_old hl hf]
  exact ⟨δ, _, kk, s2.putM hk fun H' e' => ⟨dx2, ys.set i (.int (n + m)), by rw [e']; exact upd_same, by simp [h5], h6.set (rint _ _) i⟩⟩
end
end DL
namespace DL
open PySem L2

/-! ### expressions that change something -/
def EX (C : CxD) (δ : DS) (μ : Mu) (e : Expr) (P : D → Mu → Prop) : Prop := ∀ X, IsCx C X → ∀ B σ H, StS C.K B δ μ σ H → ∀ Q : VK, (∀ d μ' v H', P d μ' → StS C.K B δ μ' σ H' → Rep C.K (hid (μ'.as ++ B.M0) H') d v → Q v H') → WE X e σ H Q
def TX (C : CxD) (δ : DS) (μ : Mu) (e : Expr) (P : Bool → Mu → Prop) : Prop := ∀ X, IsCx C X → ∀ B σ H, StS C.K B δ μ σ H → ∀ Q : Bool → Hp → Prop, (∀ b μ' H', P b μ' → StS C.K B δ μ' σ H' → Q b H') → WT X e σ H Q
def BX (C : CxD) (δ : DS) (μ : Mu) (e : Expr) (P : Bool → Mu → Prop) : Prop := ∀ X, IsCx C X → ∀ B σ H, StS C.K B δ μ σ H → ∀ Q : Bool → Hp → Prop, (∀ b μ' H', P b μ' → StS C.K B δ μ' σ H' → Q b H') → WB X e σ H Q
/-- the place x of μ, for a callee -/
theorem hid_at {μ : Mu} {k : Nat} {p : Addr} {c : MC} {M0 : List Addr} {H : Hp} (h : μ[k]? = some (p, c)) : hid (p :: (Mu.as (μ.eraseIdx k) ++ M0)) H = hid (μ.as ++ M0) H := by
  have key : ∀ a, a ∈ p :: (Mu.as (μ.eraseIdx k) ++ M0) ↔ a ∈ μ.as ++ M0 := by
    intro a
    have hl : k < μ.length := (List.getElem?_eq_some_iff.mp h).1
    have e : μ[k] = (p, c) := (List.getElem?_eq_some_iff.mp h).2
    have m : ∀ b, b ∈ μ.as ↔ b = p ∨ b ∈ Mu.as (μ.eraseIdx k) := by
      intro b
      have hsplit : μ = μ.take k ++ (p, c) :: μ.drop (k + 1) := by
        rw [← e]
        exact (List.take_append_drop k μ).symm.trans (by rw [List.drop_eq_getElem_cons hl])
      have h2 : μ.eraseIdx k = μ.take k ++ μ.drop (k + 1) := List.eraseIdx_eq_take_drop_succ μ k
      rw [h2]
      conv => lhs; rw [hsplit]
      simp only [Mu.as, List.map_append, List.map_cons, List.mem_append, List.mem_cons]
      constructor
      · rintro (h | h | h)
        · exact .inr (.inl h)
        · exact .inl h
        · exact .inr (.inr h)
      · rintro (h | h | h)
        · exact .inr (.inl h)
        · exact .inl h
        · exact .inr (.inr h)
    rw [List.mem_cons, List.mem_append, List.mem_append, m]
    constructor
    · rintro (h | h | h)
      · exact .inl (.inl h)
      · exact .inl (.inr h)
      · exact .inr h
    · rintro ((h | h) | h)
      · exact .inl h
      · exact .inr (.inl h)
      · exact .inr (.inr h)
  funext a
  unfold hid
  simp only [key a]
theorem mem_erase {μ : Mu} {k : Nat} {a : Addr} (h : a ∈ Mu.as (μ.eraseIdx k)) : a ∈ μ.as := by
  obtain ⟨q, hq, rfl⟩ := List.mem_map.mp h
  exact List.mem_map.mpr ⟨q, List.mem_of_mem_eraseIdx hq, rfl⟩
theorem ni_erase {μ : Mu} {k : Nat} {p : Addr} {c : MC} (h : μ[k]? = some (p, c)) (nd : μ.as.Nodup) : p ∉ Mu.as (μ.eraseIdx k) := by
  intro hp
  have e : Mu.as (μ.eraseIdx k) = μ.as.eraseIdx k := by
    unfold Mu.as
    rw [List.eraseIdx_eq_take_drop_succ, List.eraseIdx_eq_take_drop_succ, List.map_append, List.map_take, List.map_drop]
  rw [e] at hp
  have hk : μ.as[k]? = some p := by
    show (μ.map (·.1))[k]? = some p
    rw [List.getElem?_map, h]
    rfl
  obtain ⟨j, hj⟩ := List.mem_iff_getElem?.mp hp
  rw [List.getElem?_eraseIdx] at hj
  split at hj
  · have := nd_ix nd hk hj
    omega
  · have := nd_ix nd hk hj
    omega
/-- a call that may change the object at place k -/
theorem StS.called {K : Fr} {B : Bse} {δ : DS} {μ : Mu} {σ : L2.St} {H : Hp} {p : Addr} {c c' : MC} {k : Nat} {ds : List D} {d : D} {ws : List V} {R : MC → List D → D → MC → Prop} {Q : VK} {E : XK} (s : StS K B δ μ σ H) (hk : μ[k]? = some (p, c)) (r : Reps K (hid (μ.as ++ B.M0) H) ds ws) (hR : R c ds d c')
    (q : ∀ v H', StS K B δ (μ.set k (p, c')) σ H' → Rep K (hid (Mu.as (μ.set k (p, c')) ++ B.M0) H') d v → Q v H') : spM K R (.ref p :: ws) H Q E := by
  have hm : (p, c) ∈ μ := List.mem_of_getElem? hk
  refine ⟨Mu.as (μ.eraseIdx k) ++ B.M0, p, c, ds, d, c', ws, rfl, fun m hm => ?_, fun z => ?_, by rw [hid_at hk]; exact s.e.mu _ hm, by rw [hid_at hk]; exact r, hR, fun v H' k1 k2 k3 => ?_⟩
  · exact s.e.domA m ((List.mem_append.mp hm).elim (fun z => List.mem_append_left _ (mem_erase z)) fun z => List.mem_append_right _ z)
  · rcases List.mem_append.mp z with z | z
    · exact ni_erase hk s.nd z
    · exact s.ni (mem_as hk) z
  · rw [hid_at hk] at k2 k3
    have hs : Same (hid (μ.as ++ B.M0) H) (hid (μ.as ++ B.M0) H') := fun b o hb => by
      obtain ⟨b1, b2⟩ := hid_some hb
      rw [hid_ne b1]
      exact k1 b o (fun z => b1 (List.mem_append_left _ (by rw [z]; exact mem_as hk))) b2
    refine q v H' ⟨⟨s.e.len, fun i d h => ?_, fun q hq => ?_, fun m hm => ?_⟩, by rw [as_set hk]; exact s.nd, fun b o h1 h2 => ?_, fun a ha => by rw [as_set hk] at ha; exact s.own a ha, s.dom0, s.sep⟩ (by rw [as_set hk]; exact k3)
    · rw [as_set hk]
      obtain ⟨v, h1, h2⟩ := s.e.sl i d h
      exact ⟨v, h1, Rep.mono hs _ _ h2⟩
    · rw [as_set hk]
      obtain ⟨j, hj⟩ := List.mem_iff_getElem?.mp hq
      by_cases hkj : k = j
      · subst hkj
        have hl : k < μ.length := (List.getElem?_eq_some_iff.mp hk).1
        rw [List.getElem?_set_self hl] at hj
        cases hj
        exact k2
      · rw [List.getElem?_set_ne hkj] at hj
        have ne : q.1 ≠ p := fun z => hkj (nd_ix s.nd (x := p) (i := k) (j := j) (by rw [List.getElem?_map, hk]; rfl) (by rw [List.getElem?_map, hj, ← z]; rfl))
        exact (s.e.mu q (List.mem_of_getElem? hj)).mono hs fun o ho => k1 _ _ ne ho
    · obtain ⟨o, ho⟩ := s.e.dom m hm
      exact ⟨o, k1 m o (fun z => s.ni (mem_as hk) (by rw [← z]; exact hm)) ho⟩
    · have ne : b ≠ p := fun z => by
        rw [z] at h1 h2
        rw [s.inW (mem_as hk) h1] at h2
        cases h2
      exact k1 b o ne (s.frame b o h1 h2)
section
variable {C : CxD} {δ δ' : DS} {μ : Mu} {e a b c o : Expr} {es rest : List Expr} {st : Stmt} {sts sts2 body : List Stmt} {d da db : D} {ds : List D} {pos pos' apos p : Pos} {E : EndsD} {x m : Str} {P : D → Mu → Prop} {j : Nat} {R : MC → List D → D → MC → Prop} {cm cm' : MC} {y : Addr}
theorem EX.of (h : ED C δ μ e d) (hp : P d μ) : EX C δ μ e P := fun X hX B σ H s Q q => h X hX B.M0 σ H s.e Q fun v H' e1 r1 => q d μ v H' hp (s.mono e1) r1
theorem EX.meth {Cl : Addr} {ns : List Str} {fs : List D} {pl : Env → Sem Bool} (k : Nat) (h1 : ED C δ μ o (.ptr y)) (hk : μ[k]? = some (y, .ins Cl ns fs)) (F : Mth C.g Cl m j (spM C.K R)) (ha : AD C δ μ (e :: es) ds) (hR : R (.ins Cl ns fs) ds d cm') (hp : P d (μ.set k (y, cm')))
    (hc : Cls C.K Cl) (hn : m ∉ ns) (hj : j ≤ C.k) (hs : Star e es) (hpl : NoStar es) (ht : MethHt o m (e :: es) apos pos pl) : EX C δ μ (.Call (.Attribute o m apos) (e :: es) [] pos) P := by
  intro X hX B σ H s Q q
  obtain ⟨f, fd, ps, F, f1, f2⟩ := F.ex
  refine of_pe (pe_meth (pl := pl X.env) (E := E0) (WE.pe X o) (by rw [hX.K]; exact hc) (by rw [hX.K]; exact f1) (hX.call (k := j) F) (hX.room.mono hj) (by rw [hX.K]; exact f2) .nil pass0 (WA.pa X _) (hs _) (hpl _ _) (ht _)) ?_
  refine h1 X hX B.M0 σ H s.e _ fun v H1 e1 r1 => ?_
  have s1 := s.mono e1
  obtain ⟨dx, xs, h2, h3, h4⟩ : MAt C.K _ H1 y (MC.ins Cl ns fs) := s1.e.mu _ (List.mem_of_getElem? hk)
  rw [rep_ptr.mp r1]
  refine ⟨y, dx, ns.zip xs, rfl, h2, zip_none hn, ?_⟩
  refine ha X hX B.M0 σ H1 s1.e _ fun vs H2 e2 r2 => ?_
  rw [List.append_nil]
  exact (s1.mono e2).called hk r2 hR fun v H' s3 r3 => q d _ v H' hp s3 r3
/-- f(x, ..), x an object that f may change -/
theorem EX.call (k : Nat) (hk : μ[k]? = some (y, cm)) (F : Cal C.g x j (spM C.K R)) (ha : AD C δ μ (e :: es) (.ptr y :: ds)) (hR : R cm ds d cm') (hp : P d (μ.set k (y, cm')))
    (hj : j ≤ C.k) (hg : GlD C x) (hdb : (x == ("__debug__" : Str)) = false) (hs : Star e es) (hpl : NoStar es) : EX C δ μ (.Call (.Name x p) (e :: es) [] pos) P := by
  intro X hX B σ H s Q q
  obtain ⟨f, fd, ps, F, f1, f2, f3⟩ := F.ex
  refine of_pe (pe_call (E := E0) (hX.call (k := j) F) (hX.room.mono hj) (by show X.env.scope.names.lookup x = _; rw [hX.sc]; exact hg) (by rw [hX.mg]; exact f1) (by rw [hX.K]; exact f2) (by rw [hX.K]; exact f3) .nil pass0 (WA.pa X _) hdb (hs _) (hpl _ _)) ?_
  refine ha X hX B.M0 σ H s.e _ fun vs H1 e1 r1 => ?_
  obtain ⟨v, ws, rfl, r2, r3⟩ := r1.uncons
  rw [List.append_nil, rep_ptr.mp r2]
  exact (s.mono e1).called hk r3 hR fun v H' s3 r4 => q d _ v H' hp s3 r4
/-- C(), an object that will change -/
theorem EX.make0 {Cl : Addr} {ns : List Str} {fs : List D} (F : Mak C.g x Cl j (spM C.K R)) (hR : R (.ins Cl [] []) [] .non (.ins Cl ns fs)) (hp : ∀ y, P (.ptr y) ((y, .ins Cl ns fs) :: μ)) (hj : j + 1 ≤ C.k) (hg : GlD C x) (hdb : (x == ("__debug__" : Str)) = false) : EX C δ μ (.Call (.Name x p) [] [] pos) P := by
  intro X hX B σ H s Q q
  obtain ⟨f, fd, ps, F, f1, f2, f3⟩ := F.ex
  refine of_pe (pe_make0 (E := E0) (by rw [hX.K]; exact f1) (hX.call (k := j) F) (hX.room.mono hj) (by show X.env.scope.names.lookup x = _; rw [hX.sc]; exact hg) (by rw [hX.mg]; exact f2) (by rw [hX.K]; exact f3) .nil pass0 hdb) ?_
  intro y dx ny ndx ne
  show spM C.K R (.ref y :: []) _ _ _
  have s1 : Same H (upd (upd H dx (.own y)) y (.ins Cl dx [])) := fun b u hb => by
    rw [upd_ne (ne_of_none hb ny), upd_ne (ne_of_none hb ndx)]
    exact hb
  have s2 : StS C.K B δ ((y, .ins Cl [] []) :: μ) σ (upd (upd H dx (.own y)) y (.ins Cl dx [])) := s.newM ny s1 ⟨dx, [], upd_same, rfl, Reps.nil⟩
  refine s2.called (k := 0) rfl (ds := []) (ws := []) Reps.nil hR fun v H' s3 r3 => ⟨rep_non.mp r3, ?_⟩
  exact q (.ptr y) _ _ H' (hp y) s3 (rep_ptr.mpr rfl)
theorem SD.setX (i : Nat) (h : EX C δ μ e (fun d μ' => E.nx (δ.set i (some d)) μ')) (nd : C.N.Nodup) (hi : C.N[i]? = some x) (hx : StoreOk C x) (hs : NoSwap C e (some (.Name x pos')) pos.line) : SD C δ μ (.Assign [.Name x pos'] e pos) E := by
  intro X hX B σ H s
  refine of_ps (ps_set (i := i) (by rw [hX.N]; exact nd) (by rw [hX.N]; exact hi) (hx.loc hX).1 (WE.pe X e) (hs _ hX.sc) (hx.loc hX).2) ?_
  exact h X hX B σ H s _ fun d μ' v H' k s' r => ⟨_, μ', k, s'.setE (s'.e.set i r)⟩
theorem SD.exprX (h : EX C δ μ e (fun _ μ' => E.nx δ μ')) (hs : ∀ env, swapsWith e none pos.line env = pure false) : SD C δ μ (.Expr e pos) E := by
  intro X hX B σ H s
  refine of_ps (ps_expr (WE.pe X e) (hs _)) ?_
  exact h X hX B σ H s _ fun d μ' v H' k s' r => ⟨_, μ', k, s'⟩
theorem SD.retX (h : EX C δ μ e (fun d μ' => E.rt d μ')) : SD C δ μ (.Return (some e) pos) E := by
  intro X hX B σ H s
  refine of_ps (ps_ret (WE.pe X e)) ?_
  exact h X hX B σ H s _ fun d μ' v H' k s' r => ⟨d, μ', δ, σ, k, s', r⟩
/-- o.f = a value that is got by an effect -/
theorem SD.fldX {Cl : Addr} {f : Str} {i : Nat} (k : Nat) (he : EX C δ μ e (fun d μ' => ∃ ns ds, μ'[k]? = some (y, .ins Cl ns ds) ∧ FirstAt ns f i ∧ ns.length < 1000 ∧ ED C δ μ' o (.ptr y) ∧ E.nx δ (μ'.set k (y, .ins Cl ns (ds.set i d))))) (hc : Cls C.K Cl) (hn : NoAttr C.K Cl f)
    (hs : ∀ env, swapsWith e (some (.Attribute o f pos')) pos.line env = pure false) : SD C δ μ (.Assign [.Attribute o f pos'] e pos) E := by
  intro X hX B σ H s
  refine of_ps (ps_fld (WE.pe X o) (WE.pe X e) (hs _)) ?_
  refine he X hX B σ H s _ fun d μ' v H1 hP s1 r1 => ?_
  obtain ⟨ns, ds, hk, hf, hz, ho, kk⟩ := hP
  refine ho X hX B.M0 σ H1 s1.e _ fun w H2 e2 r2 => ?_
  have s2 := s1.mono e2
  obtain ⟨dx, xs, h1, h2, h3⟩ : MAt C.K _ H2 y (MC.ins Cl ns ds) := s2.e.mu _ (List.mem_of_getElem? hk)
  rw [rep_ptr.mp r2, hX.K]
  have hl : ns.length = xs.length := h2.trans h3.len
  refine ⟨y, Cl, dx, ns.zip xs, rfl, h1, hc, hn, by rw [List.length_zip]; omega, ?_⟩
  rw [putF_old hl hf]
  exact ⟨δ, _, kk, s2.putM hk fun H' e' => ⟨dx, xs.set i v, by rw [e']; exact upd_same, by simp [h2], h3.set (Rep.mono (hid_same e2) _ _ r1) i⟩⟩
/-! tests -/
theorem TX.cmp {op : CmpOp} {PB : Bool → Mu → Prop} (ha : EX C δ μ a (fun d μ' => ∃ db k, ED C δ μ' b db ∧ CmpD C op d db (.bl k) ∧ PB k μ')) (hm : behindInMarks op b = false) (hop : ∃ r0 : R2, ∀ X, IsCx C X → OpR X (compareOp op) r0) : TX C δ μ (.Compare a [op] [b] pos) PB := by
  intro X hX B σ H s Q q
  -- the operator's reading, whatever the values
  let r : R2 := fun x y H Q => ∀ pins s1 v u, Inv X pins σ H s1 → RelV x v → RelV y u → wpAny (model X.prog X.w) X.A (compareOp op v u) (EP X pins σ Q) X.xe s1
  refine fun pins s1 I => ?_
  have go := ha X hX B σ H s (fun x H1 => WE X b σ H1 fun y H2 => r x y H2 fun z H3 => ∃ k, z = .bl k ∧ Q k H3) fun d μ' v H1 hP s2 r1 => ?_
  · refine wpAny_isTrue_Compare1 (thn (go pins s1 I) fun v s1 h1 => ?_) hm
    obtain ⟨x, H1, I1, rx, q1⟩ := h1
    refine thn (q1 pins s1 I1) fun u s2 h2 => ?_
    obtain ⟨y, H2, I2, ry, q2⟩ := h2
    refine thn (q2 pins s2 v u I2 rx ry) fun c s3 h3 => ?_
    obtain ⟨z, H3, I3, rz, k, e, q3⟩ := h3
    subst e
    cases rz
    exact wpAny_truthy_bool ⟨H3, I3, q3⟩
  · obtain ⟨db, k, hb, ⟨r0, o1, o2⟩, hPB⟩ := hP
    refine hb X hX B.M0 σ H1 s2.e _ fun y H2 e2 r2 => ?_
    have s3 := s2.mono e2
    intro pins s1 v u I1 rv ru
    refine o1 X hX pins s1 σ H2 _ y v u _ I1 rv ru ?_
    exact o2 _ H2 _ y s3.e.domA (Rep.mono (hid_same e2) _ _ r1) r2 _ fun w H3 e3 r3 => ⟨k, rep_bl.mp r3, q k μ' H3 hPB (s3.mono e3)⟩
theorem BX.td {PB : Bool → Mu → Prop} (h : BX C δ μ e PB) : TX C δ μ e PB := fun X hX B σ H s Q q pins st I => h X hX B σ H s Q q _ pins st I
theorem BX.or1 {PB : Bool → Mu → Prop} (h : TX C δ μ a PB) : BX C δ μ (.BoolOp .Or [a] pos) PB := fun X hX B σ H s Q q => of_pw (pw_or1 (WT.pt X a)) (h X hX B σ H s Q q)
theorem BX.or {PB : Bool → Mu → Prop} (h : TX C δ μ a (fun k μ' => (k = true → PB true μ') ∧ (k = false → BX C δ μ' (.BoolOp .Or (b :: rest) pos) PB))) : BX C δ μ (.BoolOp .Or (a :: b :: rest) pos) PB := by
  intro X hX B σ H s Q q
  refine of_pw (pw_or (WT.pt X a) (WB.pw X _)) ?_
  refine h X hX B σ H s _ fun k μ' H' ⟨h1, h2⟩ s' => ?_
  cases k with
  | true => exact iteT (q true μ' H' (h1 rfl) s')
  | false => exact iteF (h2 rfl X hX B σ H' s' _ q)
theorem SD.iteX (hc : TX C δ μ c (fun k μ' => (k = true → SDs C δ μ' sts E) ∧ (k = false → SDs C δ μ' sts2 E))) : SD C δ μ (.If c sts sts2 pos) E := by
  intro X hX B σ H s
  refine of_ps (ps_if (WT.pt X c) (WSs.pss X sts) (WSs.pss X sts2)) ?_
  refine hc X hX B σ H s _ fun k μ' H' ⟨h1, h2⟩ s' => ?_
  cases k with
  | true => exact iteT (h1 rfl X hX B σ H' s')
  | false => exact iteF (h2 rfl X hX B σ H' s')
/-! try, where nothing is raised -/
theorem SD.try_ {h0 : ExceptHandler} {hs : List ExceptHandler} {orelse : List Stmt} (h : SDs C δ μ body { E with nx := fun δ' μ' => SDs C δ' μ' orelse E }) : SD C δ μ (.Try body (h0 :: hs) orelse [] pos) E := by
  intro X hX B σ H s pins st I
  refine wpAny_Try_except ?_
  refine wpAny_mono (h X hX B σ H s pins st I) (fun f s1 hsp => ?_) (fun e s1 he => ?_)
  · cases f with
    | next =>
      obtain ⟨σ', H', I', δ', μ', k, s'⟩ := hsp
      exact k X hX B σ' H' s' pins s1 I'
    | ret u => exact hsp
    | brk => exact hsp
    | cont => exact hsp
  · rw [hX.xe] at he
    exact he.elim
/-! C.m(x, ..): a def of a class by the class's name -/
structure ClsFn (g : GE) (x : Str) (m : Str) (j : Nat) (sp : Sp) : Prop where
  ex : ∃ A mc f fd ps, FnOk g.P g.w g.K g.mg g.base CX0 j f fd ps sp ∧ g.mg x = some (.ref A) ∧ ClX.CRead g.K A mc ∧ ClX.CVal g.K A mc m (.ref f) (.ref f) ∧ PySem.W.keepIn g.K (.ref f) = true ∧ Binds g.K fd ps []
theorem EX.clsFn {pl : Env → Sem Bool} {px : Pos} (k : Nat) (hk : μ[k]? = some (y, cm)) (F : ClsFn C.g x m j (spM C.K R)) (ha : AD C δ μ (e :: es) (.ptr y :: ds)) (hR : R cm ds d cm') (hp : P d (μ.set k (y, cm')))
    (hj : j ≤ C.k) (hg : GlD C x) (hdb : (x == ("__debug__" : Str)) = false) (hs : Star e es) (hpl : NoStar es) (ht : MethHt (.Name x px) m (e :: es) apos pos pl) : EX C δ μ (.Call (.Attribute (.Name x px) m apos) (e :: es) [] pos) P := by
  intro X hX B σ H s Q q
  obtain ⟨A, mc, f, fd, ps, F, f1, f2, f3, f4, f5⟩ := F.ex
  intro pins st I
  have hgl : Gl X x := by show X.env.scope.names.lookup x = _; rw [hX.sc]; exact hg
  refine PySem.W.methodCall_KW (pl := pl X.env) (ld_glob I hgl (by rw [hX.mg]; exact f1) ?_ hdb) (ht _)
  refine PySem.W.method_cls I.kIn (by rw [hX.K]; exact f2.ga) (ClX.getcval_ok I (by rw [hX.K]; exact f2) (by rw [hX.K]; exact f3) fun s2 I2 => ?_)
  refine PySem.W.callWith_K (first := []) (h₀ := X.base) I.ok.mod.kin (by rw [hX.K]; exact f4) (thn (ha X hX B.M0 σ H s.e (fun vs H1 => spM C.K R vs H1 Q E0) (fun vs H1 e1 r1 => ?_) pos pins s2 I2) fun us s3 ⟨vs, H2, I3, rv, q2⟩ => ⟨I3.kIn, ?_⟩) (hs _) (hpl _ _)
  · obtain ⟨v, ws, rfl, r2, r3⟩ := r1.uncons
    rw [rep_ptr.mp r2]
    exact (s.mono e1).called hk r3 hR fun v H' s3 r4 => q d _ v H' hp s3 r4
  · exact run_fn (hX.call (k := j) F) (hX.room.mono hj) (by rw [hX.K]; exact f5) .nil pass0 I3 rv (by rw [List.append_nil]; exact q2)
end

/-! ### defs -/
def startD (N : List Str) (ds : List D) : DS := ds.map some ++ List.replicate (N.length - ds.length) none
theorem cx_of {g : GE} {N : List Str} {qual : Str} {sc : Scope} {f : Addr} {cdv : Value} {A : Around} {outer : List Env} {s : Shared} {H : Hp} {E : XK} {k : Nat} (hr : Room k (A.deeper (PyProof.Rows.envOfC qual sc s.heap.objs.size f cdv))) :
    IsCx ⟨g, N, sc, k, true⟩ (cxOf CX0 g.P g.w g.K g.mg g.base N qual sc f cdv A outer s H E).nox := ⟨rfl, rfl, rfl, rfl, rfl, rfl, rfl, rfl, hr, fun _ _ => rfl, rfl⟩
theorem ste_start {K : Fr} {M : List Addr} {μ : Mu} {H : Hp} {N : List Str} {ds : List D} {vs : List V} (r : Reps K (hid (μ.as ++ M) H) ds vs) (dm : Dom M H) (hm : ∀ q ∈ μ, MAt K (hid (μ.as ++ M) H) H q.1 q.2) : StE K M μ (startD N ds) (L2.start N vs) H := by
  refine ⟨?_, fun i d h => ?_, hm, dm⟩
  · unfold L2.start startD
    simp [r.len]
  · unfold startD at h
    unfold L2.start
    by_cases hi : i < ds.length
    · rw [List.getElem?_append_left (by simpa using hi), List.getElem?_map] at h
      cases h1 : ds[i]? with
      | none => rw [h1] at h; cases h
      | some d' =>
        rw [h1] at h
        have e : d' = d := by simpa using h
        subst e
        obtain ⟨v, h2, h3⟩ := r.get h1
        have hi' : i < vs.length := by rw [← r.len]; exact hi
        exact ⟨v, by rw [List.getElem?_append_left (by simpa using hi'), List.getElem?_map, h2]; rfl, h3⟩
    · rw [List.getElem?_append_right (by simpa using hi)] at h
      rw [List.getElem?_replicate] at h
      split at h
      · cases h
      · cases h
def retE (d : D) : EndsD := { nx := fun _ _ => d = .non, rt := fun d' _ => d' = d }
/-- a def that changes nothing that stood -/
theorem pure_def {g : GE} {x qual : Str} {st : Stmt} {f : Addr} {fd : FuncData} {N ps : List Str} {k : Nat} {R : List D → D → Prop} {dvs : List V} {kws : List (Str × V)} (F : FunD g.K x qual (defArgs st) (defBody st) (defScope st) dvs kws f fd) (S : FnScope N ps (defScope st)) (hl : ∀ ds d, R ds d → ds.length = ps.length)
    (body : ∀ ds d, R ds d → SDs ⟨g, N, defScope st, k, true⟩ (startD N ds) [] (defBody st) (retE d)) : FnOk g.P g.w g.K g.mg g.base CX0 (k + 1) f fd ps (spR g.K R) := by
  refine F.ok S (fun vs H Q E h => ?_) (fun cdv A outer s H vs Q E hr h => ?_)
  · obtain ⟨M, ds, d, _, h2, h3, _⟩ := h
    rw [← h2.len]
    exact hl _ _ h3
  · obtain ⟨M, ds, d, h1, h2, h3, h4⟩ := h
    refine ⟨_, PSs.nox (WSs.pss _ _), ?_⟩
    have s0 : StS g.K ⟨M, [], H⟩ (startD N ds) [] (L2.start N vs) H := ⟨ste_start (μ := []) h2 h1 (fun q hq => (by cases hq)), List.nodup_nil, fun _ _ _ h => h, fun a ha => (by cases ha), h1, fun a ha => (by cases ha)⟩
    refine WSs.imp ⟨fun σ' H' z => ?_, fun v H' z => ?_, fun _ _ z => ?_, fun _ _ z => ?_⟩ (body ds d h3 _ (cx_of hr) ⟨M, [], H⟩ _ H s0)
    · obtain ⟨δ', μ', k1, s'⟩ := z
      have k1 : d = .non := k1
      subst k1
      exact h4 _ H' (fun b o hb => s'.frame b o (fun z => by cases z) hb) (rep_non.mpr rfl)
    · obtain ⟨d', μ', δ', σ', k1, s', r⟩ := z
      have k1 : d' = d := k1
      subst k1
      exact h4 v H' (fun b o hb => s'.frame b o (fun z => by cases z) hb) (Rep.mono (hid_sub fun a ha => List.mem_append_right _ ha) _ _ r)
    · obtain ⟨_, _, k1, _⟩ := z
      exact k1.elim
    · obtain ⟨_, _, k1, _⟩ := z
      exact k1.elim
def retM (x : Addr) (d : D) (c' : MC) : EndsD := { nx := fun _ μ => d = .non ∧ (x, c') ∈ μ, rt := fun d' μ => d' = d ∧ (x, c') ∈ μ }
/-- a def whose first argument is an object that it may change -/
theorem mut_def {g : GE} {x qual : Str} {st : Stmt} {f : Addr} {fd : FuncData} {N ps : List Str} {k : Nat} {R : MC → List D → D → MC → Prop} {dvs : List V} {kws : List (Str × V)} (F : FunD g.K x qual (defArgs st) (defBody st) (defScope st) dvs kws f fd) (S : FnScope N ps (defScope st)) (hl : ∀ c ds d c', R c ds d c' → ds.length + 1 = ps.length)
    (body : ∀ y c ds d c', R c ds d c' → SDs ⟨g, N, defScope st, k, true⟩ (startD N (.ptr y :: ds)) [(y, c)] (defBody st) (retM y d c')) : FnOk g.P g.w g.K g.mg g.base CX0 (k + 1) f fd ps (spM g.K R) := by
  refine F.ok S (fun vs H Q E h => ?_) (fun cdv A outer s H vs Q E hr h => ?_)
  · obtain ⟨M, y, c, ds, d, c', ws, rfl, _, _, _, h2, h3, _⟩ := h
    rw [List.length_cons, ← h2.len]
    exact hl _ _ _ _ h3
  · obtain ⟨M, y, c, ds, d, c', ws, rfl, h1, hni, hat, h2, h3, h4⟩ := h
    refine ⟨_, PSs.nox (WSs.pss _ _), ?_⟩
    have s0 : StS g.K ⟨M, [y], H⟩ (startD N (.ptr y :: ds)) [(y, c)] (L2.start N (.ref y :: ws)) H := by
      refine ⟨ste_start (μ := [(y, c)]) (Reps.cons (rep_ptr.mpr rfl) h2) h1 (fun q hq => ?_), ?_, fun _ _ _ h => h, fun a ha => .inl ha, h1, fun a ha => ?_⟩
      · rw [List.mem_singleton.mp hq]
        exact hat
      · show ([y] : List Addr).Nodup
        exact List.nodup_cons.mpr ⟨by simp, List.nodup_nil⟩
      · rw [List.mem_singleton.mp ha]
        exact hni
    have fin : ∀ (δ' : DS) (μ' : Mu) σ' H' v (d' : D), StS g.K ⟨M, [y], H⟩ δ' μ' σ' H' → (y, c') ∈ μ' → Rep g.K (hid (μ'.as ++ M) H') d' v → d' = d → Q v H' := fun δ' μ' σ' H' v d' s' hm r e => by
      subst e
      have hy : y ∈ μ'.as := List.mem_map.mpr ⟨_, hm, rfl⟩
      have sub : Same (hid (μ'.as ++ M) H') (hid (y :: M) H') := hid_sub fun a ha => (List.mem_cons.mp ha).elim (fun z => List.mem_append_left _ (by rw [z]; exact hy)) fun z => List.mem_append_right _ z
      exact h4 v H' (fun b o hb ho => s'.frame b o (fun z => hb (List.mem_singleton.mp z)) ho) ((s'.e.mu _ hm).mono sub fun _ h => h) (Rep.mono sub _ _ r)
    refine WSs.imp ⟨fun σ' H' z => ?_, fun v H' z => ?_, fun _ _ z => ?_, fun _ _ z => ?_⟩ (body y c ds d c' h3 _ (cx_of hr) ⟨M, [y], H⟩ _ H s0)
    · obtain ⟨δ', μ', ⟨k1, k2⟩, s'⟩ := z
      exact fin δ' μ' σ' H' .non .non s' k2 (rep_non.mpr rfl) k1.symm
    · obtain ⟨d', μ', δ', σ', ⟨k1, k2⟩, s', r⟩ := z
      exact fin δ' μ' σ' H' v d' s' k2 r k1
    · obtain ⟨_, _, k1, _⟩ := z
      exact k1.elim
    · obtain ⟨_, _, k1, _⟩ := z
      exact k1.elim
end DL
/-! short words -/
namespace DL
open PySem L2
/-- a name that is seen as a slot -/
def visB (sc : Scope) (x : Str) : Bool := (match sc.names.lookup x with
  | some .local => true
  | some .cell => true
  | some .free => true
  | _ => false) && !(x == ("__debug__" : Str)) && !(x == ("__classdict__" : Str))
theorem visB_ok {sc : Scope} {x : Str} (h : visB sc x = true) : Vis sc x ∧ (x == ("__debug__" : Str)) = false ∧ (x == ("__classdict__" : Str)) = false := by
  unfold visB at h
  simp only [Bool.and_eq_true, Bool.not_eq_true'] at h
  obtain ⟨⟨h1, h2⟩, h3⟩ := h
  refine ⟨?_, h2, h3⟩
  unfold Vis
  split at h1 <;> simp_all
def glB (sc : Scope) (x : Str) : Bool := (match sc.names.lookup x with
  | some .globalImplicit => true
  | _ => false) && !(x == ("__debug__" : Str)) && !(x == ("__name__" : Str))
theorem glB_ok {sc : Scope} {x : Str} (h : glB sc x = true) : sc.names.lookup x = some .globalImplicit ∧ (x == ("__debug__" : Str)) = false ∧ x ≠ "__name__" := by
  unfold glB at h
  simp only [Bool.and_eq_true, Bool.not_eq_true'] at h
  obtain ⟨⟨h1, h2⟩, h3⟩ := h
  refine ⟨?_, h2, by simpa using h3⟩
  split at h1 <;> simp_all
def stoB (sc : Scope) (all : Bool) (x : Str) : Bool := match sc.names.lookup x with
  | some .local => true
  | some .cell => all
  | _ => false
theorem stoB_ok {C : CxD} {x : Str} (h : stoB C.sc C.all x = true) : StoreOk C x := by
  unfold stoB at h
  refine ⟨?_⟩
  split at h <;> simp_all
def locB (sc : Scope) (x : Str) : Bool := match sc.names.lookup x with
  | some .local => true
  | _ => false
theorem locB_ok {sc : Scope} {x : Str} (h : locB sc x = true) : sc.names.lookup x = some .local := by
  unfold locB at h
  split at h <;> simp_all
def cellB (sc : Scope) (x : Str) : Bool := match sc.names.lookup x with
  | some .cell => true
  | _ => false
theorem cellB_ok {sc : Scope} {x : Str} (h : cellB sc x = true) : sc.names.lookup x = some .cell := by
  unfold cellB at h
  split at h <;> simp_all
def ndB (N : List Str) : Bool := decide N.Nodup
theorem ndB_ok {N : List Str} (h : ndB N = true) : N.Nodup := of_decide_eq_true h
def firstB : List Str → Str → Nat → Bool
  | [], _, _ => false
  | n :: _, f, 0 => decide (n = f)
  | n :: ns, f, i + 1 => !decide (n = f) && firstB ns f i
theorem firstB_ok : ∀ {ns : List Str} {f : Str} {i : Nat}, firstB ns f i = true → FirstAt ns f i
  | [], _, _, h => by cases h
  | n :: ns, f, 0, h => ⟨by have : n = f := of_decide_eq_true h; simp [this], fun j hj => absurd hj (Nat.not_lt_zero j)⟩
  | n :: ns, f, i + 1, h => by
    have h2 : (!decide (n = f) && firstB ns f i) = true := h
    simp only [Bool.and_eq_true, Bool.not_eq_true', decide_eq_false_iff_not] at h2
    obtain ⟨h3, h4⟩ := h2
    obtain ⟨q1, q2⟩ := firstB_ok h4
    refine ⟨by simpa using q1, fun j hj => ?_⟩
    cases j with
    | zero => simpa using h3
    | succ j => simpa using q2 j (Nat.lt_of_succ_lt_succ hj)
def ninB (ns : List Str) (f : Str) : Bool := decide (f ∉ ns)
theorem ninB_ok {ns : List Str} {f : Str} (h : ninB ns f = true) : f ∉ ns := of_decide_eq_true h
/-! what an operator gives, found by the data's kinds -/
class BinI (op : Operator) (a b : D) (d : outParam D) : Prop where
  h : ∀ C, BinD C op a b d
instance {i j : Int} : BinI .Add (.int i) (.int j) (.int (i + j)) := ⟨fun _ => bAdd⟩
instance {i j : Int} : BinI .Sub (.int i) (.int j) (.int (i - j)) := ⟨fun _ => bSub⟩
class CmpI (op : CmpOp) (a b : D) (k : outParam Bool) : Prop where
  h : ∀ C, CmpD C op a b (.bl k)
instance {i j : Int} : CmpI .Eq (.int i) (.int j) (decide (i = j)) := ⟨fun _ => cEqI⟩
instance {i j : Int} : CmpI .NotEq (.int i) (.int j) (!decide (i = j)) := ⟨fun _ => cNeI⟩
instance {i j : Int} : CmpI .Lt (.int i) (.int j) (decide (i < j)) := ⟨fun _ => cLt⟩
instance {i j : Int} : CmpI .LtE (.int i) (.int j) (decide (i ≤ j)) := ⟨fun _ => cLe⟩
instance {i j : Int} : CmpI .Gt (.int i) (.int j) (decide (j < i)) := ⟨fun _ => cGt⟩
instance {i j : Int} : CmpI .GtE (.int i) (.int j) (decide (j ≤ i)) := ⟨fun _ => cGe⟩
instance {i j : Str} : CmpI .Eq (.str i) (.str j) (decide (i = j)) := ⟨fun _ => cEqS⟩
instance {i j : Str} : CmpI .NotEq (.str i) (.str j) (!decide (i = j)) := ⟨fun _ => cNeS⟩
class SeqC (d : D) (ds : outParam (List D)) : Prop where
  h : SeqD d ds
instance {ds : List D} : SeqC (.tup ds) ds := ⟨SeqD.t⟩
instance {ds : List D} : SeqC (.lst ds) ds := ⟨SeqD.l⟩
instance {ds : List D} : SeqC (.lsr ds) ds := ⟨SeqD.r⟩
class LstC (d : D) (ds : outParam (List D)) : Prop where
  h : LstD d ds
instance {ds : List D} : LstC (.lst ds) ds := ⟨LstD.mk⟩
instance {ds : List D} : LstC (.lsr ds) ds := ⟨LstD.rd⟩
section
variable {C : CxD} {δ : DS} {μ : Mu} {a b c e e1 e2 o : Expr} {es : List Expr} {d da db dc : D} {ds : List D} {pos p apos : Pos} {x m : Str}
theorem kLn [s : SeqC da ds] : CallD C (.builtin "len") [da] (.int ds.length) := kLen s.h
theorem kLs [s : SeqC da ds] : CallD C (.type "list") [da] (.lst ds) := kList s.h
theorem kTp [s : LstC da ds] : CallD C (.type "tuple") [da] (.tup ds) := kTup s.h
theorem ev (i : Nat) (hN : C.N[i]? = some x) (hδ : δ[i]? = some (some d)) (hv : visB C.sc x = true := by kernel_rfl) : ED C δ μ (.Name x pos) d := by
  obtain ⟨h1, h2, h3⟩ := visB_ok hv
  exact ED.var i hN h1 hδ h2 h3
theorem eg {v : V} {u : Value} (hm : C.g.mg x = some u) (r : RelV v u) (hr : ∀ H, Rep C.K H d v) (hg : glB C.sc x = true := by kernel_rfl) : ED C δ μ (.Name x pos) d := ED.glob (glB_ok hg).1 hm r hr (glB_ok hg).2.1
theorem egi {i : Int} (hm : ∃ t, C.g.mg x = some (.int i t)) (hg : glB C.sc x = true := by kernel_rfl) : ED C δ μ (.Name x pos) (.int i) := by
  obtain ⟨t, h⟩ := hm
  exact eg h (v := .int i) ⟨t, rfl⟩ (rint _) hg
theorem egs {i : Str} (hm : ∃ t, C.g.mg x = some (.str i t)) (hg : glB C.sc x = true := by kernel_rfl) : ED C δ μ (.Name x pos) (.str i) := by
  obtain ⟨t, h⟩ := hm
  exact eg h (v := .str i) ⟨t, rfl⟩ (rstr _) hg
/-- a built-in class as a value -/
theorem ety {n : String} (hm : C.g.mg x = none) (hv : bootBuiltins x = some (.type n)) (hg : glB C.sc x = true := by kernel_rfl) : ED C δ μ (.Name x pos) (.ty n) :=
  ED.blt (v := .ty n) (glB_ok hg).1 hm hv rfl (fun _ => rep_ty.mpr rfl) (glB_ok hg).2.2 (glB_ok hg).2.1
theorem ei {i : Int} {j} : ED C δ μ (.Constant (.int i) j pos) (.int i) := ED.int
theorem es_ {i : Str} {j} : ED C δ μ (.Constant (.str i) j pos) (.str i) := ED.str
theorem eb {op : Operator} (ha : ED C δ μ a da) (hb : ED C δ μ b db) [ho : BinI op da db d] : ED C δ μ (.BinOp a op b pos) d := ED.bin ha hb (ho.h _)
theorem ebx {op : Operator} (ha : ED C δ μ a da) (hb : ED C δ μ b db) (ho : BinD C op da db d) : ED C δ μ (.BinOp a op b pos) d := ED.bin ha hb ho
theorem em {i j : Int} (ha : ED C δ μ a (.int i)) (hb : ED C δ μ b (.int j)) (h : CMul i j) : ED C δ μ (.BinOp a .Mult b pos) (.int (i * j)) := ED.bin ha hb (bMul h)
theorem ed {i j : Int} (ha : ED C δ μ a (.int i)) (hb : ED C δ μ b (.int j)) (h : 0 < j ∧ j < 1073741824) : ED C δ μ (.BinOp a .FloorDiv b pos) (.int (i / j)) := ED.bin ha hb (bDiv h)
theorem er {i j : Int} (ha : ED C δ μ a (.int i)) (hb : ED C δ μ b (.int j)) (h : 0 < j) : ED C δ μ (.BinOp a .Mod b pos) (.int (i % j)) := ED.bin ha hb (bMod h)
theorem ec {op : CmpOp} {k : Bool} (ha : ED C δ μ a da) (hb : ED C δ μ b db) [ho : CmpI op da db k] (hm : behindInMarks op b = false := by rfl) : ED C δ μ (.Compare a [op] [b] pos) (.bl k) := ED.cmp ha hb (ho.h _) hm
theorem ecx {op : CmpOp} (ha : ED C δ μ a da) (hb : ED C δ μ b db) (ho : CmpD C op da db d) (hm : behindInMarks op b = false := by rfl) : ED C δ μ (.Compare a [op] [b] pos) d := ED.cmp ha hb ho hm
theorem tc {op : CmpOp} {k k' : Bool} (ha : ED C δ μ a da) (hb : ED C δ μ b db) [ho : CmpI op da db k] (hk : k = k') (hm : behindInMarks op b = false := by rfl) : TD C δ μ (.Compare a [op] [b] pos) k' := hk ▸ TD.cmp ha hb (ho.h _) hm
theorem tcx {op : CmpOp} {k k' : Bool} (ha : ED C δ μ a da) (hb : ED C δ μ b db) (ho : CmpD C op da db (.bl k)) (hk : k = k') (hm : behindInMarks op b = false := by rfl) : TD C δ μ (.Compare a [op] [b] pos) k' := hk ▸ TD.cmp ha hb ho hm
theorem tv {k k' : Bool} (he : ED C δ μ e (.bl k)) (hk : k = k') (hw : ∀ env whole, isTrue e env whole = (do let v ← whole; standAt e.pos; holding [v] (truthy v)) := by intro _ _; rfl) : TD C δ μ e k' := hk ▸ TD.val he hw
theorem TD.to {k k' : Bool} (h : TD C δ μ e k) (hk : k = k') : TD C δ μ e k' := hk ▸ h
theorem ED.to {d d' : D} (h : ED C δ μ e d) (hk : d = d') : ED C δ μ e d' := hk ▸ h
theorem tn {k k' : Bool} (h1 : TD C δ μ a k) (hk : (!k) = k') : TD C δ μ (.UnaryOp .Not a pos) k' := hk ▸ TD.not h1
theorem an : AD C δ μ [] [] := AD.nil
theorem ac (h1 : ED C δ μ e d) (h2 : AD C δ μ es ds) (hs : Star e es := by intro _; rfl) : AD C δ μ (e :: es) (d :: ds) := AD.cons h1 h2 hs
theorem et {x1} (h1 : AD C δ μ es ds) (hl : ds.length ≤ sizeLine := by exact Nat.le_of_ble_eq_true rfl) : ED C δ μ (.Tuple es x1 pos) (.tup ds) := ED.tup h1 hl
theorem el (h1 : AD C δ μ es ds) (hl : ds.length ≤ sizeLine := by exact Nat.le_of_ble_eq_true rfl) : ED C δ μ (.List es pos) (.lst ds) := ED.lst h1 hl
theorem ix {i : Int} (j : Nat) (h1 : ED C δ μ a da) (h2 : ED C δ μ b (.int i)) [hs : SeqC da ds] (hj : i = (j : Int)) (hd : ds[j]? = some d) (hp : PlainIx b := by intro _ _; rfl) : ED C δ μ (.Subscript a b pos) d := ED.ix h1 h2 hs.h hj hd hp
theorem ixM {i : Int} {y : Addr} (j : Nat) (k : Nat) (h1 : ED C δ μ a (.ptr y)) (h2 : ED C δ μ b (.int i)) (hm : μ[k]? = some (y, MC.lst ds)) (hj : i = (j : Int)) (hd : ds[j]? = some d) (hp : PlainIx b := by intro _ _; rfl) : ED C δ μ (.Subscript a b pos) d := ED.ixM h1 h2 (List.mem_of_getElem? hm) hj hd hp
/-- calls of defs -/
theorem cl {R : List D → D → Prop} {j : Nat} (F : Cal C.g x j (spR C.K R)) (ha : AD C δ μ (e :: es) ds) (hR : R ds d) (hj : j ≤ C.k := by exact Nat.le_of_ble_eq_true rfl) (hg : glB C.sc x = true := by kernel_rfl) (hs : Star e es := by intro _; rfl) (hpl : NoStar es := by intro _ _; rfl) : ED C δ μ (.Call (.Name x p) (e :: es) [] pos) d := ED.call F ha hR hj (glB_ok hg).1 (glB_ok hg).2.1 hs hpl
theorem cb {id : String} (ha : AD C δ μ (e :: es) ds) (hc : CallD C (.builtin id) ds d) (hm : C.g.mg x = none) (hv : bootBuiltins x = some (.builtin id) := by kernel_rfl) (hg : glB C.sc x = true := by kernel_rfl) (hs : Star e es := by intro _; rfl) (hpl : ∀ env, (backTo pos (starEach es env)).any (·.1) = false := by intro _; rfl) : ED C δ μ (.Call (.Name x p) (e :: es) [] pos) d := ED.callB hc ha (glB_ok hg).1 hm hv (glB_ok hg).2.2 (glB_ok hg).2.1 hs hpl
theorem ct {id : String} (ha : AD C δ μ (e :: es) ds) (hc : CallD C (.type id) ds d) (hm : C.g.mg x = none) (hv : bootBuiltins x = some (.type id) := by kernel_rfl) (hg : glB C.sc x = true := by kernel_rfl) (hs : Star e es := by intro _; rfl) (hpl : ∀ env, (backTo pos (starEach es env)).any (·.1) = false := by intro _; rfl) : ED C δ μ (.Call (.Name x p) (e :: es) [] pos) d := ED.callT hc ha (glB_ok hg).1 hm hv (glB_ok hg).2.2 (glB_ok hg).2.1 hs hpl
/-- slices -/
theorem p0 : PD C δ μ none none := PD.none
theorem p1 {i : Int} (h1 : ED C δ μ e (.int i)) : PD C δ μ (some e) (some i) := PD.some h1
variable {lo hi : Option Expr} {l u : Option Int} {p2 : Pos}
theorem slL (h1 : ED C δ μ a da) (hl : PD C δ μ lo l) (hu : PD C δ μ hi u) [hs : LstC da ds] : ED C δ μ (.Subscript a (.Slice lo hi none p2) pos) (.lst (cutD ds l u)) := ED.slL h1 hs.h hl hu
theorem slT (h1 : ED C δ μ a (.tup ds)) (hl : PD C δ μ lo l) (hu : PD C δ μ hi u) : ED C δ μ (.Subscript a (.Slice lo hi none p2) pos) (.tup (cutD ds l u)) := ED.slT h1 hl hu
/-- fields, methods -/
theorem fl {Cl : Addr} {ns : List Str} {f : Str} (i : Nat) (h1 : ED C δ μ e (.obj Cl ns ds)) (hc : Cls C.K Cl) (hn : NoAttr C.K Cl f) (hd : ds[i]? = some d) (hf : firstB ns f i = true := by kernel_rfl) (hb : ∀ env, attributeBase e f env (eval e env) = eval e env := by intro _; rfl) : ED C δ μ (.Attribute e f pos) d := ED.fld h1 hc hn (firstB_ok hf) hd hb
theorem flM {Cl y : Addr} {ns : List Str} {f : Str} (k i : Nat) (h1 : ED C δ μ e (.ptr y)) (hm : μ[k]? = some (y, MC.ins Cl ns ds)) (hc : Cls C.K Cl) (hn : NoAttr C.K Cl f) (hd : ds[i]? = some d) (hf : firstB ns f i = true := by kernel_rfl) (hb : ∀ env, attributeBase e f env (eval e env) = eval e env := by intro _; rfl) : ED C δ μ (.Attribute e f pos) d := ED.fldM h1 (List.mem_of_getElem? hm) hc hn (firstB_ok hf) hd hb
theorem m0 {Cl : Addr} {ns : List Str} {R : List D → D → Prop} {j : Nat} {pl : Env → Sem Bool} (h1 : ED C δ μ o (.obj Cl ns ds)) (F : Mth C.g Cl m j (spR C.K R)) (hR : R [.obj Cl ns ds] d) (hc : Cls C.K Cl) (hn : ninB ns m = true := by kernel_rfl) (hj : j ≤ C.k := by exact Nat.le_of_ble_eq_true rfl) (ht : MethHt o m [] apos pos pl := by intro _; rfl) : ED C δ μ (.Call (.Attribute o m apos) [] [] pos) d := ED.meth0 h1 F hR hc (ninB_ok hn) hj ht
theorem mk {Cl : Addr} {ns : List Str} {fs : List D} {R : MC → List D → D → MC → Prop} {j : Nat} (F : Mak C.g x Cl j (spM C.K R)) (ha : AD C δ μ (e :: es) ds) (hR : R (.ins Cl [] []) ds .non (.ins Cl ns fs)) (hj : j + 1 ≤ C.k := by exact Nat.le_of_ble_eq_true rfl) (hg : glB C.sc x = true := by kernel_rfl) (hs : Star e es := by intro _; rfl) (hpl : NoStar es := by intro _ _; rfl) : ED C δ μ (.Call (.Name x p) (e :: es) [] pos) (.obj Cl ns fs) := ED.make F ha hR hj (glB_ok hg).1 (glB_ok hg).2.1 hs hpl
/-- texts -/
theorem sp {x y : Str} (ho : ED C δ μ o (.str x)) (he : ED C δ μ e (.str y)) (hx : x.length + 2 ≤ sizeLine) (hy : (y.length == 0) = false := by decide) (hs : ∀ env, starEach [e] env = [(false, eval e env)] := by intro _; rfl) (hb : AttrB o "split" := by intro _; rfl) (hl : (apos.endLine == pos.line) = true := by rfl) : ED C δ μ (.Call (.Attribute o "split" apos) [e] [] pos) (.lst ((Txt.split x y).map D.str)) := ED.split ho he hy hx hs hb hl
theorem prt {x y : Str} (ho : ED C δ μ o (.str x)) (he : ED C δ μ e (.str y)) (hx : x.length ≤ sizeLine) (hy : (y.length == 0) = false := by decide) (hs : ∀ env, starEach [e] env = [(false, eval e env)] := by intro _; rfl) (hb : AttrB o "partition" := by intro _; rfl) (hl : (apos.endLine == pos.line) = true := by rfl) : ED C δ μ (.Call (.Attribute o "partition" apos) [e] [] pos) (.tup [.str (Txt.partition x y).1, .str (Txt.partition x y).2.1, .str (Txt.partition x y).2.2]) := ED.partition ho he hy hx hs hb hl
theorem jn {x : Str} {ys : List Str} (ho : ED C δ μ o (.str x)) (he : ED C δ μ e (.lst (ys.map D.str))) (hz : (ys.map (·.length)).sum + ys.length * x.length ≤ 16777216) (hs : ∀ env, starEach [e] env = [(false, eval e env)] := by intro _; rfl) (hb : AttrB o "join" := by intro _; rfl) (hll : (apos.endLine == pos.line) = true := by rfl) : ED C δ μ (.Call (.Attribute o "join" apos) [e] [] pos) (.str (Txt.join x ys)) := ED.join ho he LstD.mk hz hs hb hll
theorem stw {x y : Str} (ho : ED C δ μ o (.str x)) (he : ED C δ μ e (.str y)) (hs : ∀ env, starEach [e] env = [(false, eval e env)] := by intro _; rfl) (hb : AttrB o "startswith" := by intro _; rfl) (hl : (apos.endLine == pos.line) = true := by rfl) : ED C δ μ (.Call (.Attribute o "startswith" apos) [e] [] pos) (.bl (Txt.startswith x y)) := ED.startswith ho he hs hb hl
/-- targets -/
theorem gn (i : Nat) (hi : C.N[i]? = some x := by rfl) (hx : stoB C.sc C.all x = true := by kernel_rfl) (nd : ndB C.N = true := by kernel_rfl) : TGD C (.Name x pos) d [i] δ (δ.set i (some d)) := TGD.name i (ndB_ok nd) hi (stoB_ok hx)
variable {ts : List Expr} {tg iter : Expr} {δ' δ2 : DS} {is js : List Nat}
theorem gs0 : TGsD C [] [] [] δ δ := TGsD.nil
theorem gs (h1 : TGD C tg d is δ δ') (h2 : TGsD C ts ds js δ' δ2) (hs : ∀ env, (assignEach (tg :: ts) env).map (·.2) = assign tg env :: (assignEach ts env).map (·.2) := by intro _; rfl) : TGsD C (tg :: ts) (d :: ds) (is ++ js) δ δ2 := TGsD.cons h1 h2 hs
theorem gt {k n : Nat} (h1 : TGsD C ts ds is δ δ') (hl : ds.length = n := by rfl) (hn : ∀ env, (assignEach ts env).length = n := by intro _; rfl) (hst : ∀ env, (assignEach ts env).findIdx? (·.1) = none := by intro _; rfl) : TGD C (.Tuple ts k pos) (.tup ds) is δ δ' := TGD.tup h1 hl hn hst
theorem gl {k n : Nat} (h1 : TGsD C ts ds is δ δ') [hs : LstC da ds] (hl : ds.length = n := by rfl) (hn : ∀ env, (assignEach ts env).length = n := by intro _; rfl) (hst : ∀ env, (assignEach ts env).findIdx? (·.1) = none := by intro _; rfl) : TGD C (.Tuple ts k pos) da is δ δ' := TGD.lst hs.h h1 hl hn hst
/-- comprehensions -/
def blkB (N : List Str) (sc scope : Scope) (own : List (Str × Nat)) : Bool := blkC N sc scope own
variable {elt : Expr} {scope : Scope}
theorem lc (own : List (Str × Nat)) (es : List D) (hi : ID C δ μ tg iter ds) (hle : es.length = ds.length) (ht : ∀ (i : Nat) (d e : D), ds[i]? = some d → es[i]? = some e → TurnE C scope own tg elt δ μ d e) (hl : ds.length < sizeLine) (ok : blkC C.N C.sc scope own = true := by kernel_rfl) (nd : ndB C.N = true := by kernel_rfl) (hs : NoFold iter := by intro _ _; rfl) :
    ED C δ μ (.ListComp elt [⟨tg, iter, [], 0⟩] scope pos) (.lst es) := ED.lc hi es hle ht hl (ndB_ok nd) (blkOk_by ok) hs
theorem inB {is vs : List Nat} (h : (is.all fun i => decide (i ∈ vs)) = true) : ∀ i ∈ is, i ∈ vs := fun i hi => of_decide_eq_true (List.all_eq_true.mp h i hi)
theorem te {own : List (Str × Nat)} {y : D} (g : TGD (C.blk scope) tg d is (wipeD δ (own.map (·.2))) δ') (h : ∀ p, ED (C.blk scope) δ' (p :: μ) elt y) (hs : (is.all fun i => decide (i ∈ own.map (·.2))) = true := by rfl) : TurnE C scope own tg elt δ μ d y := ⟨is, δ', g, inB hs, h⟩
theorem tte {own : List (Str × Nat)} {ifs : List Expr} {y : D} {b : Bool} (g : TGD (C.blk scope) tg d is (wipeD δ (own.map (·.2))) δ') (ht : ∀ p, TsD (C.blk scope) δ' (p :: μ) ifs b) (h : b = true → ∀ p, ED (C.blk scope) δ' (p :: μ) elt y) (hs : (is.all fun i => decide (i ∈ own.map (·.2))) = true := by rfl) : TurnD C scope own tg elt ifs δ μ d (if b then some y else none) :=
  ⟨is, δ', b, g, inB hs, ht, fun hb => by rw [hb]; rfl, fun hb => ⟨y, by rw [hb]; rfl, h hb⟩⟩
theorem idl (h1 : ED C δ μ iter da) [hs : LstC da ds] : ID C δ μ tg iter ds := ID.list h1 hs.h
theorem idt (h1 : ED C δ μ iter (.tup ds)) : ID C δ μ tg iter ds := ID.tup h1
theorem idr {n : Int} (h1 : ED C δ μ e (.int n)) (hn : n < 2 ^ 62 ∧ -(2 ^ 62) ≤ n) (hm : C.g.mg "range" = none) (hg : glB C.sc "range" = true := by kernel_rfl) (hs : ∀ env, starEach [e] env = [(false, eval e env)] := by intro _; rfl) : ID C δ μ tg (.Call (.Name "range" p) [e] [] pos) (rangeD n.toNat) := ID.range h1 hn.1 hn.2 (glB_ok hg).1 hm hs
theorem idzL {elts : List Expr} {kk : Nat} {ws : List D} {tpos : Pos} (h1 : ED C δ μ e (.lst ds)) (h2 : ED C δ μ e2 (.lst ws)) (hm : C.g.mg "zip" = none) (hg : glB C.sc "zip" = true := by kernel_rfl)
    (hst : Star e [e2] := by intro _; rfl) (hst2 : Star e2 [] := by intro _; rfl) (hpl : NoStar [e2] := by intro _ _; rfl) : ID C δ μ (.Tuple elts kk tpos) (.Call (.Name "zip" p) [e, e2] [] pos) (zipD ds ws) := ID.zip h1 h2 (.inl ⟨LstD.mk, LstD.mk⟩) (glB_ok hg).1 hm hst hst2 hpl
theorem idzT {elts : List Expr} {kk : Nat} {ws : List D} {tpos : Pos} (h1 : ED C δ μ e (.tup ds)) (h2 : ED C δ μ e2 (.tup ws)) (hm : C.g.mg "zip" = none) (hg : glB C.sc "zip" = true := by kernel_rfl)
    (hst : Star e [e2] := by intro _; rfl) (hst2 : Star e2 [] := by intro _; rfl) (hpl : NoStar [e2] := by intro _ _; rfl) : ID C δ μ (.Tuple elts kk tpos) (.Call (.Name "zip" p) [e, e2] [] pos) (zipD ds ws) := ID.zip h1 h2 (.inr ⟨rfl, rfl⟩) (glB_ok hg).1 hm hst hst2 hpl
theorem ide {elts : List Expr} {kk : Nat} {tpos : Pos} (h1 : ED C δ μ e (.lst ds)) (hm : C.g.mg "enumerate" = none) (hg : glB C.sc "enumerate" = true := by kernel_rfl) (hst : ∀ env, starEach [e] env = [(false, eval e env)] := by intro _; rfl) : ID C δ μ (.Tuple elts kk tpos) (.Call (.Name "enumerate" p) [e] [] pos) (enumD ds) := ID.enum h1 LstD.mk (glB_ok hg).1 hm hst
end
/-! statements -/
section
variable {C : CxD} {δ δ' : DS} {μ : Mu} {a b c e o i_ tg iter : Expr} {es : List Expr} {sts sts2 rest body : List Stmt} {d da : D} {ds : List D} {pos pos' apos p : Pos} {E : EndsD} {x : Str} {is : List Nat}
theorem s0 (h : E.nx δ μ) : SDs C δ μ [] E := SDs.nil h
theorem sset (i : Nat) (h : ED C δ μ e d) (k : SDs C (δ.set i (some d)) μ rest E) (hi : C.N[i]? = some x := by rfl) (hs : NoSwap C e (some (.Name x pos')) pos.line := by intro _ _; rfl) (hx : stoB C.sc C.all x = true := by kernel_rfl) (nd : ndB C.N = true := by kernel_rfl) : SDs C δ μ (.Assign [.Name x pos'] e pos :: rest) E :=
  SDs.cons (SD.set i h k (ndB_ok nd) hi (stoB_ok hx) hs)
/-- a comprehension to a name that is a cell -/
theorem ssetC (i : Nat) (h : ED C δ μ e d) (k : SDs C (δ.set i (some d)) μ rest E) (hi : C.N[i]? = some x := by rfl) (hc : cellB C.sc x = true := by kernel_rfl) (hx : stoB C.sc C.all x = true := by kernel_rfl) (nd : ndB C.N = true := by kernel_rfl) : SDs C δ μ (.Assign [.Name x pos'] e pos :: rest) E :=
  SDs.cons (SD.set i h k (ndB_ok nd) hi (stoB_ok hx) (noswap_cell (cellB_ok hc)))
theorem sasg (h : ED C δ μ e d) (hg : TGD C tg d is δ δ') (k : SDs C δ' μ rest E) (hs : ∀ env, swapsWithSole [tg] e pos.line env = pure false := by intro _; rfl) (hw : ∀ env, swappedStores [tg] e env = pure none := by intro _; rfl) (h1 : ∀ env, (assignEach [tg] env).map (·.2) = [assign tg env] := by intro _; rfl) : SDs C δ μ (.Assign [tg] e pos :: rest) E :=
  SDs.cons (SD.asg h hg k hs hw h1)
theorem sif {k : Bool} (hc : TD C δ μ c k) (h1 : k = true → SDs C δ μ sts { E with nx := fun δ' μ' => SDs C δ' μ' rest E }) (h2 : k = false → SDs C δ μ sts2 { E with nx := fun δ' μ' => SDs C δ' μ' rest E }) : SDs C δ μ (.If c sts sts2 pos :: rest) E := SDs.cons (SD.ite hc h1 h2)
theorem sifT (hc : TD C δ μ c true) (h1 : SDs C δ μ sts { E with nx := fun δ' μ' => SDs C δ' μ' rest E }) : SDs C δ μ (.If c sts sts2 pos :: rest) E := SDs.cons (SD.ifT hc h1)
theorem sifF (hc : TD C δ μ c false) (h1 : SDs C δ μ sts2 { E with nx := fun δ' μ' => SDs C δ' μ' rest E }) : SDs C δ μ (.If c sts sts2 pos :: rest) E := SDs.cons (SD.ifF hc h1)
/-- an if that is not taken, without else -/
theorem sifN (hc : TD C δ μ c false) (h1 : SDs C δ μ rest E) : SDs C δ μ (.If c sts [] pos :: rest) E := SDs.cons (SD.ifF hc (SDs.nil h1))
theorem sret (h : ED C δ μ e d) (k : E.rt d μ) : SDs C δ μ (.Return (some e) pos :: rest) E := SDs.cons (SD.ret h k)
theorem sex (h : ED C δ μ e d) (k : SDs C δ μ rest E) (hs : ∀ env, swapsWith e none pos.line env = pure false := by intro _; rfl) : SDs C δ μ (.Expr e pos :: rest) E := SDs.cons (SD.expr h k hs)
theorem slc {elt : Expr} {scope : Scope} {pos2 : Pos} (i : Nat) (own : List (Str × Nat)) (es : List D) (hi : ID C δ μ tg iter ds) (hle : es.length = ds.length) (ht : ∀ (i : Nat) (d e : D), ds[i]? = some d → es[i]? = some e → TurnE C scope own tg elt δ μ d e) (hl : ds.length < sizeLine) (k : SDs C (δ.set i (some (.lst es))) μ rest E)
    (hn : C.N[i]? = some x := by rfl) (ok : blkC C.N C.sc scope own = true := by kernel_rfl) (nd : ndB C.N = true := by kernel_rfl) (hs : NoFold iter := by intro _ _; rfl) (hx : locB C.sc x = true := by kernel_rfl) (hline : (pos'.line == pos2.line) = true := by rfl) (ha : (scope.names.any fun (n, k) => n == x && (k == .local || k == .cell)) = false := by kernel_rfl) (hk : C.sc.kind = .function := by rfl) :
    SDs C δ μ (.Assign [.Name x pos'] (.ListComp elt [⟨tg, iter, [], 0⟩] scope pos2) pos :: rest) E := SDs.cons (SD.setLc i hi es hle ht k hl (ndB_ok nd) (blkOk_by ok) hs hn (locB_ok hx) hline ha hk)
theorem slcIf {elt : Expr} {ifs : List Expr} {scope : Scope} {pos2 : Pos} {g : Nat → Option D} (i : Nat) (own : List (Str × Nat)) (hi : ID C δ μ tg iter ds) (ht : ∀ (i : Nat) (d : D), ds[i]? = some d → TurnD C scope own tg elt ifs δ μ d (g i)) (hl : ds.length < sizeLine) (k : SDs C (δ.set i (some (.lst ((List.range ds.length).filterMap g)))) μ rest E)
    (hn : C.N[i]? = some x := by rfl) (ok : blkC C.N C.sc scope own = true := by kernel_rfl) (nd : ndB C.N = true := by kernel_rfl) (hs : NoFold iter := by intro _ _; rfl) (hx : locB C.sc x = true := by kernel_rfl) (hline : (pos'.line == pos2.line) = true := by rfl) (ha : (scope.names.any fun (n, k) => n == x && (k == .local || k == .cell)) = false := by kernel_rfl) (hk : C.sc.kind = .function := by rfl) :
    SDs C δ μ (.Assign [.Name x pos'] (.ListComp elt [⟨tg, iter, ifs, 0⟩] scope pos2) pos :: rest) E := SDs.cons (SD.setLcIf i hi ht k hl (ndB_ok nd) (blkOk_by ok) hs hn (locB_ok hx) hline ha hk)
theorem sfor (W : Nat → DS → Mu → Prop) (hi : ID C δ μ tg iter ds) (h0 : W 0 δ μ) (hs : ∀ (i : Nat) (d : D) (δ1 : DS) (μ1 : Mu), ds[i]? = some d → W i δ1 μ1 → ∃ is δ2, TGD C tg d is δ1 δ2 ∧ SDs C δ2 μ1 body { E with nx := W (i + 1), ct := W (i + 1), bk := fun δ' μ' => SDs C δ' μ' rest E })
    (hd : ∀ δ1 μ1, W ds.length δ1 μ1 → SDs C δ1 μ1 rest E) (hf : NoFold iter := by intro _ _; rfl) : SDs C δ μ (.For tg iter body [] pos :: rest) E := SDs.cons (SD.for_ W hi h0 hs hd hf)
theorem swhile (W : Nat → DS → Mu → Prop) (m0 : Nat) (h0 : W m0 δ μ)
    (hs : ∀ m δ1 μ1, W m δ1 μ1 → ∃ b, TD C δ1 μ1 c b ∧ (b = true → SDs C δ1 μ1 body { E with nx := fun δ' μ' => ∃ m', m' < m ∧ W m' δ' μ', ct := fun δ' μ' => ∃ m', m' < m ∧ W m' δ' μ', bk := fun δ' μ' => SDs C δ' μ' rest E }) ∧ (b = false → SDs C δ1 μ1 rest E)) :
    SDs C δ μ (.While c body [] pos :: rest) E := SDs.cons (SD.while_ (E := { E with nx := fun δ' μ' => SDs C δ' μ' rest E }) W m0 h0 hs)
theorem spar {y : Str} {px py pt pt2 : Pos} {k1 k2} {d2 : D} (i j : Nat) (h1 : ED C δ μ a d) (h2 : ED C δ μ b d2) (k : SDs C ((δ.set i (some d)).set j (some d2)) μ rest E)
    (hw : ∀ env, env.scope = C.sc → swappedStores [.Tuple [.Name x px, .Name y py] k1 pt] (.Tuple [a, b] k2 pt2) env = pure (some [x, y])) (hi : C.N[i]? = some x := by rfl) (hj : C.N[j]? = some y := by rfl) (hij : i ≠ j := by decide) (hx : locB C.sc x = true := by kernel_rfl) (hy : locB C.sc y = true := by kernel_rfl) (nd : ndB C.N = true := by kernel_rfl)
    (sa : Star a [b] := by intro _; rfl) (sb : Star b [] := by intro _; rfl) (hs : ∀ env, swapsWithSole [.Tuple [.Name x px, .Name y py] k1 pt] (.Tuple [a, b] k2 pt2) pos.line env = pure false := by intro _; rfl) :
    SDs C δ μ (.Assign [.Tuple [.Name x px, .Name y py] k1 pt] (.Tuple [a, b] k2 pt2) pos :: rest) E := SDs.cons (SD.par i j h1 h2 k (ndB_ok nd) hi hj hij (locB_ok hx) (locB_ok hy) sa sb hw hs)
theorem snewL (i : Nat) {lp : Pos} (h : AD C δ μ es ds) (k : ∀ p, SDs C (δ.set i (some (.ptr p))) ((p, .lst ds) :: μ) rest E) (hl : ds.length ≤ sizeLine := by exact Nat.le_of_ble_eq_true rfl) (hi : C.N[i]? = some x := by rfl) (hs : NoSwap C (.List es lp) (some (.Name x pos')) pos.line := by intro _ _; rfl) (hx : stoB C.sc C.all x = true := by kernel_rfl) (nd : ndB C.N = true := by kernel_rfl) : SDs C δ μ (.Assign [.Name x pos'] (.List es lp) pos :: rest) E :=
  SDs.cons (SD.newL i h hl k (ndB_ok nd) hi (stoB_ok hx) hs)
theorem sapp {q : Addr} {cpos : Pos} (k : Nat) (ho : ED C δ μ o (.ptr q)) (he : ED C δ μ e d) (hz : ds.length < sizeLine) (kk : SDs C δ (μ.set k (q, .lst (ds ++ [d]))) rest E) (hk : μ[k]? = some (q, .lst ds) := by rfl)
    (hb : AttrB o "append" := by intro _; rfl) (hfew : ∀ cpos env, ((backTo cpos (starEach [e] env)).all (fun x => !x.1) && (backToKw cpos (keywordEach [] env)).all (fun x => x.1.isSome) && decide ([e].length + ([] : List Keyword).length + (if ([] : List Keyword).isEmpty then 0 else 1) < 30)) = true := by intro _ _; rfl)
    (hline : (apos.endLine == cpos.line) = true := by rfl) (hst : Star e [] := by intro _; rfl) (hsw : ∀ env, swapsWith (.Call (.Attribute o "append" apos) [e] [] cpos) none pos.line env = pure false := by intro _; rfl) :
    SDs C δ μ (.Expr (.Call (.Attribute o "append" apos) [e] [] cpos) pos :: rest) E := SDs.cons (SD.append k ho he hk hz kk hb hfew hline hst hsw)
theorem ssetIx {q : Addr} {n : Int} (k j : Nat) (he : ED C δ μ e d) (ho : ED C δ μ o (.ptr q)) (hi : ED C δ μ i_ (.int n)) (kk : SDs C δ (μ.set k (q, .lst (ds.set j d))) rest E) (hj : j < ds.length := by exact Nat.lt_of_lt_of_le (Nat.lt_succ_self _) (Nat.le_of_ble_eq_true rfl)) (hn : n = (j : Int) := by rfl) (hk : μ[k]? = some (q, .lst ds) := by rfl)
    (ha : ∀ env v, assign (.Subscript o i_ pos') env v = (do
      let ov ← holding [v] (eval o env)
      let iv ← holding [v, ov] (eval i_ env)
      standAt pos'
      holding [v, ov, iv] (setItem ov iv v)
      release [v, ov, iv] []) := by intro _ _; rfl)
    (hs : ∀ env, swapsWithSole [.Subscript o i_ pos'] e pos.line env = pure false := by intro _; rfl) (hw : ∀ env, swappedStores [.Subscript o i_ pos'] e env = pure none := by intro _; rfl) (h1 : ∀ env, (assignEach [.Subscript o i_ pos'] env).map (·.2) = [assign (.Subscript o i_ pos') env] := by intro _; rfl) :
    SDs C δ μ (.Assign [.Subscript o i_ pos'] e pos :: rest) E := SDs.cons (SD.setIx k he ho hi hk hn hj kk ha hs hw h1)
theorem sfldN {Cl q : Addr} {ns : List Str} {f : Str} (k : Nat) (he : ED C δ μ e d) (ho : ED C δ μ o (.ptr q)) (hc : Cls C.K Cl) (hn : NoAttr C.K Cl f) (kk : SDs C δ (μ.set k (q, .ins Cl (ns ++ [f]) (ds ++ [d]))) rest E) (hk : μ[k]? = some (q, .ins Cl ns ds) := by rfl) (hf : ninB ns f = true := by kernel_rfl) (hz : ns.length < 1000 := by decide)
    (hs : ∀ env, swapsWith e (some (.Attribute o f pos')) pos.line env = pure false := by intro _; rfl) : SDs C δ μ (.Assign [.Attribute o f pos'] e pos :: rest) E := SDs.cons (SD.fldNew k he ho hk hc hn (ninB_ok hf) hz kk hs)
theorem sfldA {Cl q : Addr} {ns : List Str} {f : Str} {n m : Int} (k i : Nat) (ho : ED C δ μ o (.ptr q)) (he : ED C δ μ e (.int m)) (hc : Cls C.K Cl) (hn : NoAttr C.K Cl f) (kk : SDs C δ (μ.set k (q, .ins Cl ns (ds.set i (.int (n + m))))) rest E) (hk : μ[k]? = some (q, .ins Cl ns ds) := by rfl) (hd : ds[i]? = some (.int n) := by rfl) (hf : firstB ns f i = true := by kernel_rfl) (hz : ns.length < 1000 := by decide) :
    SDs C δ μ (.AugAssign (.Attribute o f pos') .Add e pos :: rest) E := SDs.cons (SD.fldAdd k ho he hk hd hc hn (firstB_ok hf) hz kk)
theorem ssetX (i : Nat) (h : EX C δ μ e (fun d μ' => SDs C (δ.set i (some d)) μ' rest E)) (hi : C.N[i]? = some x := by rfl) (hs : NoSwap C e (some (.Name x pos')) pos.line := by intro _ _; rfl) (hx : stoB C.sc C.all x = true := by kernel_rfl) (nd : ndB C.N = true := by kernel_rfl) : SDs C δ μ (.Assign [.Name x pos'] e pos :: rest) E := SDs.cons (SD.setX i h (ndB_ok nd) hi (stoB_ok hx) hs)
theorem sexX (h : EX C δ μ e (fun _ μ' => SDs C δ μ' rest E)) (hs : ∀ env, swapsWith e none pos.line env = pure false := by intro _; rfl) : SDs C δ μ (.Expr e pos :: rest) E := SDs.cons (SD.exprX h hs)
theorem sretX (h : EX C δ μ e (fun d μ' => E.rt d μ')) : SDs C δ μ (.Return (some e) pos :: rest) E := SDs.cons (SD.retX h)
theorem sifX (hc : TX C δ μ c (fun k μ' => (k = true → SDs C δ μ' sts { E with nx := fun δ' μ' => SDs C δ' μ' rest E }) ∧ (k = false → SDs C δ μ' sts2 { E with nx := fun δ' μ' => SDs C δ' μ' rest E }))) : SDs C δ μ (.If c sts sts2 pos :: rest) E := SDs.cons (SD.iteX hc)
variable {m : Str} {P : D → Mu → Prop} {j : Nat} {R : MC → List D → D → MC → Prop} {cm cm' : MC} {y : Addr}
theorem xm {Cl : Addr} {ns : List Str} {fs : List D} {pl : Env → Sem Bool} (k : Nat) (h1 : ED C δ μ o (.ptr y)) (F : Mth C.g Cl m j (spM C.K R)) (ha : AD C δ μ (e :: es) ds) (hR : R (.ins Cl ns fs) ds d cm') (hp : P d (μ.set k (y, cm'))) (hc : Cls C.K Cl) (hk : μ[k]? = some (y, .ins Cl ns fs) := by rfl) (hn : ninB ns m = true := by kernel_rfl) (hj : j ≤ C.k := by exact Nat.le_of_ble_eq_true rfl)
    (hs : Star e es := by intro _; rfl) (hpl : NoStar es := by intro _ _; rfl) (ht : MethHt o m (e :: es) apos pos pl := by intro _; rfl) : EX C δ μ (.Call (.Attribute o m apos) (e :: es) [] pos) P := EX.meth k h1 hk F ha hR hp hc (ninB_ok hn) hj hs hpl ht
theorem xc (k : Nat) (F : Cal C.g x j (spM C.K R)) (ha : AD C δ μ (e :: es) (.ptr y :: ds)) (hR : R cm ds d cm') (hp : P d (μ.set k (y, cm'))) (hk : μ[k]? = some (y, cm) := by rfl) (hj : j ≤ C.k := by exact Nat.le_of_ble_eq_true rfl) (hg : glB C.sc x = true := by kernel_rfl) (hs : Star e es := by intro _; rfl) (hpl : NoStar es := by intro _ _; rfl) : EX C δ μ (.Call (.Name x p) (e :: es) [] pos) P := EX.call k hk F ha hR hp hj (glB_ok hg).1 (glB_ok hg).2.1 hs hpl
theorem xk {pl : Env → Sem Bool} {px : Pos} (k : Nat) (F : ClsFn C.g x m j (spM C.K R)) (ha : AD C δ μ (e :: es) (.ptr y :: ds)) (hR : R cm ds d cm') (hp : P d (μ.set k (y, cm'))) (hk : μ[k]? = some (y, cm) := by rfl) (hj : j ≤ C.k := by exact Nat.le_of_ble_eq_true rfl) (hg : glB C.sc x = true := by kernel_rfl) (hs : Star e es := by intro _; rfl) (hpl : NoStar es := by intro _ _; rfl)
    (ht : MethHt (.Name x px) m (e :: es) apos pos pl := by intro _; rfl) : EX C δ μ (.Call (.Attribute (.Name x px) m apos) (e :: es) [] pos) P := EX.clsFn k hk F ha hR hp hj (glB_ok hg).1 (glB_ok hg).2.1 hs hpl ht
theorem xn {Cl : Addr} {ns : List Str} {fs : List D} (F : Mak C.g x Cl j (spM C.K R)) (hR : R (.ins Cl [] []) [] .non (.ins Cl ns fs)) (hp : ∀ y, P (.ptr y) ((y, .ins Cl ns fs) :: μ)) (hj : j + 1 ≤ C.k := by exact Nat.le_of_ble_eq_true rfl) (hg : glB C.sc x = true := by kernel_rfl) : EX C δ μ (.Call (.Name x p) [] [] pos) P := EX.make0 F hR hp hj (glB_ok hg).1 (glB_ok hg).2.1
end
end DL
/-! isinstance, len(set(..)), a list against [] -/
namespace DL
open PySem L2
section
variable {C : CxD} {δ : DS} {μ : Mu} {a e : Expr} {d da : D} {ds : List D} {pos p p2 q : Pos}
def tyN : D → Option String
  | .int _ => some "int"
  | .bl _ => some "bool"
  | .str _ => some "str"
  | .tup _ => some "tuple"
  | .lst _ => some "list"
  | _ => none
theorem tyx_of {K : Fr} {H : Hp} {d : D} {v : V} {T : String} (h : tyN d = some T) (r : Rep K H d v) : TyX K H v (.type T) := by
  cases d with
  | int i => cases h; rw [rep_int.mp r]; exact .base (.int i)
  | bl i => cases h; rw [rep_bl.mp r]; exact .base (.bl i)
  | str i => cases h; rw [rep_str.mp r]; exact .base (.str i)
  | tup ds =>
    cases h
    obtain ⟨a, xs, rfl, h1, _⟩ := rep_tup.mp r
    rcases h1 with (h1 | ⟨o, h1⟩) | ⟨o, its, n, h1, h2, _⟩
    · exact .base (.tup h1)
    · exact .fTuple h1
    · exact .kTuple h1 h2
  | lst ds =>
    cases h
    obtain ⟨a, xs, rfl, h1, _⟩ := rep_lst.mp r
    exact .base (.lst h1)
  | _ => cases h
theorem kIsi {n T : String} {b : Bool} (hT : tyN d = some T) (hb : kitB T n = some b) : CallD C (.builtin "isinstance") [d, .ty n] (.bl b) := ⟨_, fun X h => (by have := @call_isi X; rw [h.K] at this; exact this), fun M H xs dm r Q q => by
  obtain ⟨v, w, rfl, r1, r2⟩ := reps2 r
  rw [rep_ty.mp r2]
  exact ⟨v, .ty n, .type T, .type n, b, rfl, .ty n, tyx_of hT (Rep.mono hid_le _ _ r1), kit_ty hb, q.at_ (rbl _ _)⟩⟩
/-- len(set(xs)), ints -/
def setLen (ns : List Int) : Nat := (PyProof.Rows.firstMet (fun i => ns.getD i 0) ns.length).length
theorem ED.lenSetI {ns : List Int} (ha : ED C δ μ a da) (hs : LstD da (ns.map D.int)) (hl : ns.length ≤ 4000) (hm : C.g.mg "len" = none) (hm2 : C.g.mg "set" = none) (hg : GlD C "len") (hg2 : GlD C "set") (na : Star a []) :
    ED C δ μ (.Call (.Name "len" p) [.Call (.Name "set" p2) [a] [] q] [] pos) (.int (setLen ns)) := by
  intro X h M0 σ H s Q qq
  intro pins st I
  have g1 : Gl X "len" := by show X.env.scope.names.lookup ("len" : Str) = _; rw [h.sc]; exact hg
  have g2 : Gl X "set" := by show X.env.scope.names.lookup ("set" : Str) = _; rw [h.sc]; exact hg2
  refine PyProof.Rows.Call_ (ld_blt I g1 (by rw [h.mg]; exact hm) boot_len ?_)
  refine PyProof.Rows.callWith_builtin1 (PyProof.Rows.args_cons ?_ rfl) rfl rfl
  refine PyProof.Rows.Call_ (ld_blt I g2 (by rw [h.mg]; exact hm2) (show bootBuiltins "set" = some (.type "set") by kernel_rfl) ?_)
  refine PyProof.Rows.callWith_type1 (PyProof.Rows.args_cons (thn (ha X h M0 σ H s (fun v H1 => Same H H1 ∧ Rep C.K (hid (μ.as ++ M0) H1) da v) (fun v H' e r => ⟨e, r⟩) pins st I) fun v s1 ⟨x, H1, I1, r1, e1, rx⟩ => PyProof.Rows.args_nil ?_) (na _)) (na _) rfl
  obtain ⟨l, xs, rfl, rr, sq⟩ := hs.sq rx
  rw [reps_ints_eq rr] at sq
  cases r1
  obtain ⟨its, r, pl, hz⟩ := I1.list (by rw [h.K]; exact Same.seq hid_le sq)
  have hlen : its.toArray.size = ns.length := by rw [List.size_toArray, ← r.length, List.length_map]
  refine call_set_list (I1.ok.hd h.calm) pl.isList (by simpa using RZ.intsAre_vals r) (by rw [hlen]; unfold scanBound; omega) fun h' tk hS hk => ?_
  refine PyProof.Rows.args_nil ?_
  rw [hlen] at hS
  obtain ⟨o, es, ep, t, ho, hex, hd, _, _, _, hf, hn⟩ := hS
  have I2 : Inv X pins σ H1 { s1 with heap := h', toks := tk } := I1.kept fun b o e => hk b o (Heap.lt_size e) e
  have hle : es.size = setLen ns := hn
  have hb : setLen ns ≤ ns.length := PyProof.Rows.firstMet_length_le _ _
  exact call_len_set ho hex hd hf (by rw [hle] <;> omega) ⟨.int (setLen ns), H1, I2.tok _, ⟨_, by rw [hle]⟩, qq _ H1 e1 (rint _ _)⟩
/-- len(set(xs)), unlike pairs of ints -/
theorem ED.lenSetP {xs : List (Int × Int)} (ha : ED C δ μ a da) (hs : LstD da (xs.map fun z => D.tup [.int z.1, .int z.2])) (hl : xs.length < 64) (hnd : xs.Nodup) (hm : C.g.mg "len" = none) (hm2 : C.g.mg "set" = none) (hg : GlD C "len") (hg2 : GlD C "set") (na : Star a []) :
    ED C δ μ (.Call (.Name "len" p) [.Call (.Name "set" p2) [a] [] q] [] pos) (.int xs.length) := by
  intro X h M0 σ H s Q qq
  intro pins st I
  have g1 : Gl X "len" := by show X.env.scope.names.lookup ("len" : Str) = _; rw [h.sc]; exact hg
  have g2 : Gl X "set" := by show X.env.scope.names.lookup ("set" : Str) = _; rw [h.sc]; exact hg2
  refine PyProof.Rows.Call_ (ld_blt I g1 (by rw [h.mg]; exact hm) boot_len ?_)
  refine PyProof.Rows.callWith_builtin1 (PyProof.Rows.args_cons ?_ rfl) rfl rfl
  refine PyProof.Rows.Call_ (ld_blt I g2 (by rw [h.mg]; exact hm2) (show bootBuiltins "set" = some (.type "set") by kernel_rfl) ?_)
  refine PyProof.Rows.callWith_type1 (PyProof.Rows.args_cons (thn (ha X h M0 σ H s (fun v H1 => Same H H1 ∧ Rep C.K (hid (μ.as ++ M0) H1) da v) (fun v H' e r => ⟨e, r⟩) pins st I) fun v s1 ⟨x, H1, I1, r1, e1, rx⟩ => PyProof.Rows.args_nil ?_) (na _)) (na _) rfl
  obtain ⟨l, vs, rfl, rr, sq⟩ := hs.sq rx
  cases r1
  -- the addresses of the pairs
  have key : ∀ (xs : List (Int × Int)) (vs : List V), Reps C.K (hid (μ.as ++ M0) H1) (xs.map fun z => D.tup [.int z.1, .int z.2]) vs → ∃ ks : List (Addr × List Int), vs = ks.map (fun p => V.ref p.1) ∧ ks.map (·.2) = xs.map (fun z => [z.1, z.2]) ∧ ∀ p ∈ ks, SqT X.K H1 p.1 (p.2.map V.int) := by
    intro xs
    induction xs with
    | nil =>
      intro vs r
      exact ⟨[], by rw [r.unnil]; rfl, rfl, fun _ hp => by cases hp⟩
    | cons z xs ih =>
      intro vs r
      obtain ⟨v, ws, rfl, r1, r2⟩ := Reps.uncons (d := D.tup [.int z.1, .int z.2]) (ds := xs.map fun z => D.tup [.int z.1, .int z.2]) r
      obtain ⟨ks, h1, h2, h3⟩ := ih ws r2
      obtain ⟨b, ys, rfl, h4, h5⟩ := rep_tup.mp r1
      have h5 : Reps C.K (hid (μ.as ++ M0) H1) ([z.1, z.2].map D.int) ys := h5
      rw [reps_ints_eq h5] at h4
      refine ⟨(b, [z.1, z.2]) :: ks, by rw [h1]; rfl, by rw [List.map_cons, h2]; rfl, fun p hp => ?_⟩
      rcases List.mem_cons.mp hp with rfl | hp
      · rw [h.K]; exact SqT.same hid_le h4
      · exact h3 p hp
  obtain ⟨ks, hk1, hk2, hk3⟩ := key xs vs rr
  rw [hk1] at sq
  have hkl : ks.length = xs.length := by
    have := congrArg List.length hk2
    simpa using this
  obtain ⟨its, r, pl, hz⟩ := I1.list (by rw [h.K]; exact Same.seq hid_le sq)
  have hu : X.A.units + 3 < cLine := by have := h.room.un; omega
  refine call_set_tups (P := X.prog) (w := X.w) ks (I1.ok.hd h.calm) pl.isList (by simpa using refs_of_vals r) (fun p hp => I1.isT (hk3 p hp)) (by omega) hu fun h' tk L es ep t R g k => ?_
  refine PyProof.Rows.args_nil ?_
  have hsize : es.size = xs.length := by
    have e1 : L.length ≤ ks.length := g.len
    have nd : (ks.map (·.2)).Nodup := by
      rw [hk2]
      refine List.Pairwise.map _ (fun a b hab z => hab ?_) hnd
      have z1 : a.1 = b.1 := (List.cons.inj z).1
      have z2 : a.2 = b.2 := (List.cons.inj (List.cons.inj z).2).1
      exact Prod.ext z1 z2
    have e2 : (ks.map (·.2)).length ≤ (L.map (·.2)).length := List.Nodup.length_le_of_subset nd fun x hx => by
      obtain ⟨p, hp, rfl⟩ := List.mem_map.mp hx
      exact g.all p (by rw [List.take_length]; exact hp)
    rw [List.length_map, List.length_map] at e2
    rw [SetTR.size (s := { s1 with heap := h' }) R]
    omega
  obtain ⟨o, ho, hex, hd⟩ := R.ob
  have I2 : Inv X pins σ H1 { s1 with heap := h', toks := tk } := I1.kept fun b o e => k b o e
  exact call_len_set ho hex hd (SetTR.fits (s := { s1 with heap := h' }) R) (by rw [hsize] <;> omega) ⟨.int (xs.length : Nat), H1, I2.tok _, ⟨_, by rw [hsize]⟩, qq _ H1 e1 (rint _ _)⟩
/-- xs != [] -/
def rNeNil (K : Fr) : R2 := fun x y H Q => ∃ a b xs, x = .ref a ∧ y = .ref b ∧ SqL K H a xs ∧ SqL K H b [] ∧ Q (.bl (!xs.isEmpty)) H
theorem op_neNil {X : Cx} (hu : X.A.units < cLine) : OpR X (compareOp .NotEq) (rNeNil X.K) := by
  intro pins s σ H x y v u Q I rx ry h
  obtain ⟨a, b, xs, rfl, rfl, h1, h2, q⟩ := h
  cases rx
  cases ry
  obtain ⟨its, r1, pl1, _⟩ := I.list h1
  obtain ⟨its2, r2, pl2, _⟩ := I.list h2
  have e2 : its2 = [] := List.length_eq_zero_iff.mp r2.length.symm
  subst e2
  cases xs with
  | nil =>
    have e1 : its = [] := List.length_eq_zero_iff.mp r1.length.symm
    subst e1
    exact SeqAt.RcNeAt.lists (e := fun _ => true) pl1.isList pl2.isList rfl hu (fun j h1 _ => absurd h1 (Nat.not_lt_zero j)) _ _ _ _ ⟨.bl false, H, I, rfl, q⟩
  | cons z zs =>
    have hl : its.length = zs.length + 1 := by rw [← r1.length]; rfl
    exact SeqAt.RcNeAt.lists_lengths pl1.isList pl2.isList (by simp [hl]) hu _ _ _ _ ⟨.bl true, H, I, rfl, q⟩
theorem cNeNil : CmpD C .NotEq (.lst ds) (.lst []) (.bl (!ds.isEmpty)) := ⟨_, fun X h => (by have := @op_neNil X h.room.units0; rw [h.K] at this; exact this), fun M H x y dm ra rb Q q => by
  obtain ⟨a, xs, rfl, h1, h2⟩ := rep_lst.mp ra
  obtain ⟨b, ys, rfl, h3, h4⟩ := rep_lst.mp rb
  rw [h4.unnil] at h3
  refine ⟨a, b, xs, rfl, rfl, Same.seq hid_le (SqL.of h1), Same.seq hid_le (SqL.of h3), q.at_ ?_⟩
  have e : xs.isEmpty = ds.isEmpty := by
    cases ds with
    | nil => rw [h2.unnil]; rfl
    | cons d ds =>
      obtain ⟨v, r, rfl, _, _⟩ := h2.uncons
      rfl
  rw [e]
  exact rbl _ _⟩
end
end DL
/-! the text by places -/
namespace Lk
open PySem L2 DL
def topS (i : Nat) : Stmt := PySem.Challenge.pw_sampleyard_k86_desk_told.main.body.getD i (.Pass ⟨0, 0, 0, 0⟩)
abbrev s_divisor : Stmt := topS 8
abbrev s_ratio : Stmt := topS 9
abbrev s_under : Stmt := topS 13
abbrev s_is_whole : Stmt := topS 18
abbrev s_is_corner : Stmt := topS 19
abbrev s_check_triangle : Stmt := topS 20
abbrev s_numbers_of : Stmt := topS 21
abbrev s_mixed : Stmt := topS 22
abbrev s_check_ahead : Stmt := topS 28
abbrev s_is_part : Stmt := topS 55
abbrev s_check_pattern : Stmt := topS 56
abbrev s_is_fraction : Stmt := topS 59
abbrev s_refuse_thing : Stmt := topS 60
abbrev s_fraction_word : Stmt := topS 72
abbrev s_number_in : Stmt := topS 73
abbrev s_fraction_in : Stmt := topS 74
abbrev s_pattern_word : Stmt := topS 75
abbrev s_pattern_in : Stmt := topS 76
abbrev s_corner_words : Stmt := topS 77
abbrev s_corner_in : Stmt := topS 78
abbrev s_head_of : Stmt := topS 79
abbrev s_thing_text : Stmt := topS 80
abbrev s_thing_of : Stmt := topS 81
abbrev s_spots_words : Stmt := topS 82
abbrev s_scene_text : Stmt := topS 83
abbrev s_floor_in : Stmt := topS 84
abbrev s_spots_in : Stmt := topS 85
abbrev s_ground_in : Stmt := topS 86
abbrev s_form : Stmt := topS 97
abbrev s_turned_to : Stmt := topS 98
abbrev s_cut : Stmt := topS 99
abbrev s_refuse_if : Stmt := topS 104
abbrev s_bounded : Stmt := topS 105
abbrev s_like_it : Stmt := topS 106
abbrev s_law_cell_at : Stmt := topS 111
abbrev s_law_mixed : Stmt := topS 112
abbrev s_law_draws : Stmt := topS 113
abbrev s_law_corner : Stmt := topS 114
abbrev s_law_triangles : Stmt := topS 115
abbrev s_law_pattern : Stmt := topS 116
abbrev s_law_thing : Stmt := topS 117
abbrev s_law_things : Stmt := topS 118
abbrev s_law_spots : Stmt := topS 119
abbrev s_law_word : Stmt := topS 120
abbrev s_law_like : Stmt := topS 121
abbrev s_law_told : Stmt := topS 122
abbrev s_law : Stmt := topS 123
abbrev s_Thing_init : Stmt := inClass (topS 61) 0
abbrev s_Coloured_init : Stmt := inClass (topS 62) 0
abbrev s_Plain_word : Stmt := inClass (topS 63) 0
abbrev s_Shaded_init : Stmt := inClass (topS 64) 0
abbrev s_Shaded_word : Stmt := inClass (topS 64) 1
abbrev s_Patterned_init : Stmt := inClass (topS 65) 0
abbrev s_Patterned_word : Stmt := inClass (topS 65) 1
abbrev s_Glass_init : Stmt := inClass (topS 66) 0
abbrev s_Glass_word : Stmt := inClass (topS 66) 1
abbrev s_Desk_init : Stmt := inClass (topS 109) 0
abbrev s_Desk_say : Stmt := inClass (topS 109) 1
abbrev s_Desk_answer : Stmt := inClass (topS 109) 2
abbrev s_Desk_changed : Stmt := inClass (topS 109) 3
abbrev s_Desk_cut_near : Stmt := inClass (topS 109) 4
abbrev s_Desk_word_asked : Stmt := inClass (topS 109) 6
/-- a def of the text -/
abbrev FnP (g : GE) (x : Str) (st : Stmt) (f : Addr) (fd : FuncData) : Prop := FunD g.K x x (defArgs st) (defBody st) (defScope st) [] [] f fd
abbrev FnQ (g : GE) (x q : Str) (st : Stmt) (f : Addr) (fd : FuncData) : Prop := FunD g.K x q (defArgs st) (defBody st) (defScope st) [] [] f fd
/-- the built-in names that the program leaves as they are -/
structure Bl (g : GE) : Prop where
  abs : g.mg "abs" = none
  len : g.mg "len" = none
  int : g.mg "int" = none
  str : g.mg "str" = none
  tuple : g.mg "tuple" = none
  list : g.mg "list" = none
  sum : g.mg "sum" = none
  zip : g.mg "zip" = none
  range : g.mg "range" = none
  all : g.mg "all" = none
  isinstance : g.mg "isinstance" = none
  bool : g.mg "bool" = none
  min : g.mg "min" = none
  max : g.mg "max" = none
  set : g.mg "set" = none
  enumerate : g.mg "enumerate" = none
/-- a comprehension over data that a plain list gives -/
theorem lcx {α : Type} {C : CxD} {δ : DS} {μ : Mu} {elt tg iter : Expr} {ds es : List D} {pos : Pos} {scope : Scope} (own : List (Str × Nat)) (xs : List α) (g h : α → D) (he : xs.map h = es) (hi : ID C δ μ tg iter ds) (hds : ds = xs.map g) (ht : ∀ x ∈ xs, TurnE C scope own tg elt δ μ (g x) (h x)) (hl : xs.length < sizeLine) (ok : blkC C.N C.sc scope own = true := by kernel_rfl) (nd : ndB C.N = true := by kernel_rfl) (hs : NoFold iter := by intro _ _; rfl) :
    ED C δ μ (.ListComp elt [⟨tg, iter, [], 0⟩] scope pos) (.lst es) := by
  subst hds
  subst he
  refine lc own (xs.map h) hi (by simp) (fun i d e h1 h2 => ?_) (by simpa using hl) ok nd hs
  rw [List.getElem?_map] at h1 h2
  cases hx : xs[i]? with
  | none => rw [hx] at h1; cases h1
  | some x =>
    rw [hx] at h1 h2
    cases h1
    cases h2
    exact ht x (List.mem_of_getElem? hx)
theorem slx {α : Type} {C : CxD} {δ : DS} {μ : Mu} {elt tg iter : Expr} {ds : List D} {pos pos' pos2 : Pos} {scope : Scope} {x : Str} {rest : List Stmt} {E : EndsD} (i : Nat) (own : List (Str × Nat)) (xs : List α) (g h : α → D) (hi : ID C δ μ tg iter ds) (hds : ds = xs.map g) (ht : ∀ x ∈ xs, TurnE C scope own tg elt δ μ (g x) (h x)) (hl : xs.length < sizeLine) (k : SDs C (δ.set i (some (.lst (xs.map h)))) μ rest E)
    (hn : C.N[i]? = some x := by rfl) (ok : blkC C.N C.sc scope own = true := by kernel_rfl) (nd : ndB C.N = true := by kernel_rfl) (hs : NoFold iter := by intro _ _; rfl) (hx : locB C.sc x = true := by kernel_rfl) (hline : (pos'.line == pos2.line) = true := by rfl) (ha : (scope.names.any fun (n, k) => n == x && (k == .local || k == .cell)) = false := by kernel_rfl) (hk : C.sc.kind = .function := by rfl) :
    SDs C δ μ (.Assign [.Name x pos'] (.ListComp elt [⟨tg, iter, [], 0⟩] scope pos2) pos :: rest) E := by
  subst hds
  refine slc i own (xs.map h) hi (by simp) (fun i d e h1 h2 => ?_) (by simpa using hl) k hn ok nd hs hx hline ha hk
  rw [List.getElem?_map] at h1 h2
  cases hx : xs[i]? with
  | none => rw [hx] at h1; cases h1
  | some x =>
    rw [hx] at h1 h2
    cases h1
    cases h2
    exact ht x (List.mem_of_getElem? hx)
theorem small_size {n : Nat} (h : n ≤ 1000000) : n < sizeLine := Nat.lt_of_le_of_lt h (by decide)
theorem tiny_size {n : Nat} (h : Nat.ble n 1000000 = true) : n < sizeLine := small_size (Nat.le_of_ble_eq_true h)
end Lk
set_option maxHeartbeats 0
/-! the head -/
namespace Lk
open PySem L2 DL
def d_divisor : He.DefD := ⟨("divisor", none), "divisor", "divisor", defArgs s_divisor, defBody s_divisor, defScope s_divisor, [], []⟩
def d_ratio : He.DefD := ⟨("ratio", none), "ratio", "ratio", defArgs s_ratio, defBody s_ratio, defScope s_ratio, [], []⟩
def d_under : He.DefD := ⟨("under", none), "under", "under", defArgs s_under, defBody s_under, defScope s_under, [], []⟩
def d_is_whole : He.DefD := ⟨("is_whole", none), "is_whole", "is_whole", defArgs s_is_whole, defBody s_is_whole, defScope s_is_whole, [], []⟩
def d_is_corner : He.DefD := ⟨("is_corner", none), "is_corner", "is_corner", defArgs s_is_corner, defBody s_is_corner, defScope s_is_corner, [], []⟩
def d_check_triangle : He.DefD := ⟨("check_triangle", none), "check_triangle", "check_triangle", defArgs s_check_triangle, defBody s_check_triangle, defScope s_check_triangle, [], []⟩
def d_numbers_of : He.DefD := ⟨("numbers_of", none), "numbers_of", "numbers_of", defArgs s_numbers_of, defBody s_numbers_of, defScope s_numbers_of, [], []⟩
def d_mixed : He.DefD := ⟨("mixed", none), "mixed", "mixed", defArgs s_mixed, defBody s_mixed, defScope s_mixed, [], []⟩
def d_check_ahead : He.DefD := ⟨("check_ahead", none), "check_ahead", "check_ahead", defArgs s_check_ahead, defBody s_check_ahead, defScope s_check_ahead, [], []⟩
def d_is_part : He.DefD := ⟨("is_part", none), "is_part", "is_part", defArgs s_is_part, defBody s_is_part, defScope s_is_part, [], []⟩
def d_check_pattern : He.DefD := ⟨("check_pattern", none), "check_pattern", "check_pattern", defArgs s_check_pattern, defBody s_check_pattern, defScope s_check_pattern, [], []⟩
def d_is_fraction : He.DefD := ⟨("is_fraction", none), "is_fraction", "is_fraction", defArgs s_is_fraction, defBody s_is_fraction, defScope s_is_fraction, [], []⟩
def d_refuse_thing : He.DefD := ⟨("refuse_thing", none), "refuse_thing", "refuse_thing", defArgs s_refuse_thing, defBody s_refuse_thing, defScope s_refuse_thing, [], []⟩
def d_fraction_word : He.DefD := ⟨("fraction_word", none), "fraction_word", "fraction_word", defArgs s_fraction_word, defBody s_fraction_word, defScope s_fraction_word, [], []⟩
def d_number_in : He.DefD := ⟨("number_in", none), "number_in", "number_in", defArgs s_number_in, defBody s_number_in, defScope s_number_in, [], []⟩
def d_fraction_in : He.DefD := ⟨("fraction_in", none), "fraction_in", "fraction_in", defArgs s_fraction_in, defBody s_fraction_in, defScope s_fraction_in, [], []⟩
def d_pattern_word : He.DefD := ⟨("pattern_word", none), "pattern_word", "pattern_word", defArgs s_pattern_word, defBody s_pattern_word, defScope s_pattern_word, [], []⟩
def d_pattern_in : He.DefD := ⟨("pattern_in", none), "pattern_in", "pattern_in", defArgs s_pattern_in, defBody s_pattern_in, defScope s_pattern_in, [], []⟩
def d_corner_words : He.DefD := ⟨("corner_words", none), "corner_words", "corner_words", defArgs s_corner_words, defBody s_corner_words, defScope s_corner_words, [], []⟩
def d_corner_in : He.DefD := ⟨("corner_in", none), "corner_in", "corner_in", defArgs s_corner_in, defBody s_corner_in, defScope s_corner_in, [], []⟩
def d_head_of : He.DefD := ⟨("head_of", none), "head_of", "head_of", defArgs s_head_of, defBody s_head_of, defScope s_head_of, [], []⟩
def d_thing_text : He.DefD := ⟨("thing_text", none), "thing_text", "thing_text", defArgs s_thing_text, defBody s_thing_text, defScope s_thing_text, [], []⟩
def d_thing_of : He.DefD := ⟨("thing_of", none), "thing_of", "thing_of", defArgs s_thing_of, defBody s_thing_of, defScope s_thing_of, [], []⟩
def d_spots_words : He.DefD := ⟨("spots_words", none), "spots_words", "spots_words", defArgs s_spots_words, defBody s_spots_words, defScope s_spots_words, [], []⟩
def d_scene_text : He.DefD := ⟨("scene_text", none), "scene_text", "scene_text", defArgs s_scene_text, defBody s_scene_text, defScope s_scene_text, [], []⟩
def d_floor_in : He.DefD := ⟨("floor_in", none), "floor_in", "floor_in", defArgs s_floor_in, defBody s_floor_in, defScope s_floor_in, [], []⟩
def d_spots_in : He.DefD := ⟨("spots_in", none), "spots_in", "spots_in", defArgs s_spots_in, defBody s_spots_in, defScope s_spots_in, [], []⟩
def d_ground_in : He.DefD := ⟨("ground_in", none), "ground_in", "ground_in", defArgs s_ground_in, defBody s_ground_in, defScope s_ground_in, [], []⟩
def d_form : He.DefD := ⟨("form", none), "form", "form", defArgs s_form, defBody s_form, defScope s_form, [], []⟩
def d_turned_to : He.DefD := ⟨("turned_to", none), "turned_to", "turned_to", defArgs s_turned_to, defBody s_turned_to, defScope s_turned_to, [], []⟩
def d_cut : He.DefD := ⟨("cut", none), "cut", "cut", defArgs s_cut, defBody s_cut, defScope s_cut, [], []⟩
def d_refuse_if : He.DefD := ⟨("refuse_if", none), "refuse_if", "refuse_if", defArgs s_refuse_if, defBody s_refuse_if, defScope s_refuse_if, [], []⟩
def d_bounded : He.DefD := ⟨("bounded", none), "bounded", "bounded", defArgs s_bounded, defBody s_bounded, defScope s_bounded, [], []⟩
def d_like_it : He.DefD := ⟨("like_it", none), "like_it", "like_it", defArgs s_like_it, defBody s_like_it, defScope s_like_it, [], []⟩
def d_law_cell_at : He.DefD := ⟨("_law_cell_at", none), "_law_cell_at", "_law_cell_at", defArgs s_law_cell_at, defBody s_law_cell_at, defScope s_law_cell_at, [], []⟩
def d_law_mixed : He.DefD := ⟨("_law_mixed", none), "_law_mixed", "_law_mixed", defArgs s_law_mixed, defBody s_law_mixed, defScope s_law_mixed, [], []⟩
def d_law_draws : He.DefD := ⟨("_law_draws", none), "_law_draws", "_law_draws", defArgs s_law_draws, defBody s_law_draws, defScope s_law_draws, [], []⟩
def d_law_corner : He.DefD := ⟨("_law_corner", none), "_law_corner", "_law_corner", defArgs s_law_corner, defBody s_law_corner, defScope s_law_corner, [], []⟩
def d_law_triangles : He.DefD := ⟨("_law_triangles", none), "_law_triangles", "_law_triangles", defArgs s_law_triangles, defBody s_law_triangles, defScope s_law_triangles, [], []⟩
def d_law_pattern : He.DefD := ⟨("_law_pattern", none), "_law_pattern", "_law_pattern", defArgs s_law_pattern, defBody s_law_pattern, defScope s_law_pattern, [], []⟩
def d_law_thing : He.DefD := ⟨("_law_thing", none), "_law_thing", "_law_thing", defArgs s_law_thing, defBody s_law_thing, defScope s_law_thing, [], []⟩
def d_law_things : He.DefD := ⟨("_law_things", none), "_law_things", "_law_things", defArgs s_law_things, defBody s_law_things, defScope s_law_things, [], []⟩
def d_law_spots : He.DefD := ⟨("_law_spots", none), "_law_spots", "_law_spots", defArgs s_law_spots, defBody s_law_spots, defScope s_law_spots, [], []⟩
def d_law_word : He.DefD := ⟨("_law_word", none), "_law_word", "_law_word", defArgs s_law_word, defBody s_law_word, defScope s_law_word, [], []⟩
def d_law_like : He.DefD := ⟨("_law_like", none), "_law_like", "_law_like", defArgs s_law_like, defBody s_law_like, defScope s_law_like, [], []⟩
def d_law_told : He.DefD := ⟨("_law_told", none), "_law_told", "_law_told", defArgs s_law_told, defBody s_law_told, defScope s_law_told, [], []⟩
def d_law : He.DefD := ⟨("law", none), "law", "law", defArgs s_law, defBody s_law, defScope s_law, [], []⟩
def d_Thing_init : He.DefD := ⟨("Thing", some "__init__"), "__init__", "Thing.__init__", defArgs s_Thing_init, defBody s_Thing_init, defScope s_Thing_init, [], []⟩
def d_Coloured_init : He.DefD := ⟨("Coloured", some "__init__"), "__init__", "Coloured.__init__", defArgs s_Coloured_init, defBody s_Coloured_init, defScope s_Coloured_init, [], []⟩
def d_Plain_word : He.DefD := ⟨("Plain", some "word"), "word", "Plain.word", defArgs s_Plain_word, defBody s_Plain_word, defScope s_Plain_word, [], []⟩
def d_Shaded_init : He.DefD := ⟨("Shaded", some "__init__"), "__init__", "Shaded.__init__", defArgs s_Shaded_init, defBody s_Shaded_init, defScope s_Shaded_init, [], []⟩
def d_Shaded_word : He.DefD := ⟨("Shaded", some "word"), "word", "Shaded.word", defArgs s_Shaded_word, defBody s_Shaded_word, defScope s_Shaded_word, [], []⟩
def d_Patterned_init : He.DefD := ⟨("Patterned", some "__init__"), "__init__", "Patterned.__init__", defArgs s_Patterned_init, defBody s_Patterned_init, defScope s_Patterned_init, [], []⟩
def d_Patterned_word : He.DefD := ⟨("Patterned", some "word"), "word", "Patterned.word", defArgs s_Patterned_word, defBody s_Patterned_word, defScope s_Patterned_word, [], []⟩
def d_Glass_init : He.DefD := ⟨("Glass", some "__init__"), "__init__", "Glass.__init__", defArgs s_Glass_init, defBody s_Glass_init, defScope s_Glass_init, [], []⟩
def d_Glass_word : He.DefD := ⟨("Glass", some "word"), "word", "Glass.word", defArgs s_Glass_word, defBody s_Glass_word, defScope s_Glass_word, [], []⟩
def d_Desk_init : He.DefD := ⟨("Desk", some "__init__"), "__init__", "Desk.__init__", defArgs s_Desk_init, defBody s_Desk_init, defScope s_Desk_init, [], []⟩
def d_Desk_say : He.DefD := ⟨("Desk", some "say"), "say", "Desk.say", defArgs s_Desk_say, defBody s_Desk_say, defScope s_Desk_say, [], []⟩
def d_Desk_answer : He.DefD := ⟨("Desk", some "answer"), "answer", "Desk.answer", defArgs s_Desk_answer, defBody s_Desk_answer, defScope s_Desk_answer, [], []⟩
def d_Desk_changed : He.DefD := ⟨("Desk", some "changed"), "changed", "Desk.changed", defArgs s_Desk_changed, defBody s_Desk_changed, defScope s_Desk_changed, [], []⟩
def d_Desk_cut_near : He.DefD := ⟨("Desk", some "cut_near"), "cut_near", "Desk.cut_near", defArgs s_Desk_cut_near, defBody s_Desk_cut_near, defScope s_Desk_cut_near, [], []⟩
def d_Desk_word_asked : He.DefD := ⟨("Desk", some "word_asked"), "word_asked", "Desk.word_asked", defArgs s_Desk_word_asked, defBody s_Desk_word_asked, defScope s_Desk_word_asked, [], []⟩
def d_Plain_init : He.DefD := ⟨("Plain", some "__init__"), "__init__", "Coloured.__init__", defArgs s_Coloured_init, defBody s_Coloured_init, defScope s_Coloured_init, [], []⟩
def fn : List He.DefD := [d_divisor, d_ratio, d_under, d_is_whole, d_is_corner, d_check_triangle, d_numbers_of, d_mixed, d_check_ahead, d_is_part, d_check_pattern, d_is_fraction, d_refuse_thing, d_fraction_word, d_number_in, d_fraction_in, d_pattern_word, d_pattern_in, d_corner_words, d_corner_in, d_head_of, d_thing_text, d_thing_of, d_spots_words, d_scene_text, d_floor_in, d_spots_in, d_ground_in, d_form, d_turned_to, d_cut, d_refuse_if, d_bounded, d_like_it, d_law_cell_at, d_law_mixed, d_law_draws, d_law_corner, d_law_triangles, d_law_pattern, d_law_thing, d_law_things, d_law_spots, d_law_word, d_law_like, d_law_told, d_law, d_Thing_init, d_Coloured_init, d_Plain_word, d_Shaded_init, d_Shaded_word, d_Patterned_init, d_Patterned_word, d_Glass_init, d_Glass_word, d_Desk_init, d_Desk_say, d_Desk_answer, d_Desk_changed, d_Desk_cut_near, d_Desk_word_asked, d_Plain_init]
def fa : List He.Fa := [.free "len", .free "abs", .free "int", .free "str", .free "tuple", .free "list", .free "sum", .free "zip", .free "range", .free "all", .free "isinstance", .free "bool", .free "min", .free "max", .free "set", .free "enumerate", .glo "divisor", .glo "ratio", .glo "under", .glo "is_whole", .glo "is_corner", .glo "check_triangle", .glo "numbers_of", .glo "mixed", .glo "check_ahead", .glo "is_part", .glo "check_pattern", .glo "is_fraction", .glo "refuse_thing", .glo "fraction_word", .glo "number_in", .glo "fraction_in", .glo "pattern_word", .glo "pattern_in", .glo "corner_words", .glo "corner_in", .glo "head_of", .glo "thing_text", .glo "thing_of", .glo "spots_words", .glo "scene_text", .glo "floor_in", .glo "spots_in", .glo "ground_in", .glo "form", .glo "turned_to", .glo "cut", .glo "refuse_if", .glo "bounded", .glo "like_it", .glo "_law_cell_at", .glo "_law_mixed", .glo "_law_draws", .glo "_law_corner", .glo "_law_triangles", .glo "_law_pattern", .glo "_law_thing", .glo "_law_things", .glo "_law_spots", .glo "_law_word", .glo "_law_like", .glo "_law_told", .glo "law", .cls "Plain", .glo "Plain", .mkr "Plain", .cls "Shaded", .glo "Shaded", .mkr "Shaded", .cls "Patterned", .glo "Patterned", .mkr "Patterned", .cls "Glass", .glo "Glass", .mkr "Glass", .cls "Desk", .glo "Desk", .mkr "Desk", .noat "Plain" "triangle", .noat "Plain" "colour", .noat "Plain" "pattern", .noat "Plain" "part", .noat "Shaded" "triangle", .noat "Shaded" "colour", .noat "Shaded" "pattern", .noat "Shaded" "part", .noat "Patterned" "triangle", .noat "Patterned" "colour", .noat "Patterned" "pattern", .noat "Patterned" "part", .noat "Glass" "triangle", .noat "Glass" "colour", .noat "Glass" "pattern", .noat "Glass" "part", .noat "Desk" "taken", .noat "Desk" "scene", .noat "Desk" "old", .meth "Plain" "word", .meth "Shaded" "word", .meth "Patterned" "word", .meth "Glass" "word", .meth "Desk" "say", .meth "Desk" "answer", .meth "Desk" "changed", .meth "Desk" "cut_near", .meth "Desk" "word_asked", .int "MOST_VALUES" 3, .int "MOST_FIGURES" 30, .int "MOST_SIDE" 64, .int "MOST_SPOTS_texts" 16, .int "MOST_PART" 1000000, .str "FIGURES" "0123456789", .glo "SIDES", .glo "KINDS", .glo "MIDDLE", .glo "Thing", .glo "Coloured"]
def loose : List PySem.Str := (["__name__", "YardError", "BadTriangle", "BadThing", "BadFloor", "BadPattern", "NoRow", "divisor", "ratio", "plus", "minus", "product", "under", "down", "mean_of", "MOST_VALUES", "is_whole", "is_corner", "check_triangle", "numbers_of", "mixed", "normal", "along", "side", "edges_of"] : List PySem.Str) ++ (["check_ahead", "had", "weights", "mixed_values", "seen_at", "EIGHTHS", "spot_at", "MOST_CELLS", "MOST_SPOTS_paint", "MIDDLE", "DARK", "refuse_floor", "is_spot", "spots_of", "Sight", "sights", "nearest_solid", "laid_over", "colour_seen", "paint", "is_doubtful", "doubtful", "SIDES", "is_part", "check_pattern"] : List PySem.Str) ++ (["laid_at", "is_fraction", "refuse_thing", "Thing", "Coloured", "Plain", "Shaded", "Patterned", "Glass", "FIGURES", "MOST_FIGURES", "MOST_SIDE", "MOST_SPOTS_texts", "fraction_word", "number_in", "fraction_in", "pattern_word", "pattern_in", "corner_words", "corner_in", "head_of", "thing_text", "thing_of", "spots_words", "scene_text"] : List PySem.Str) ++ (["floor_in", "spots_in", "ground_in", "picture_text", "tiles_across", "tile_cells", "near_depth", "greatest_solid", "tile_seen", "order_of", "paint_tiles", "form", "turned_to", "cut", "KINDS", "MOST_PART", "MOST_POINT", "refuse_if", "bounded", "like_it", "joined_or", "cell_words", "Desk", "_law_cell_at", "_law_mixed"] : List PySem.Str) ++ (["_law_draws", "_law_corner", "_law_triangles", "_law_pattern", "_law_thing", "_law_things", "_law_spots", "_law_word", "_law_like", "_law_told"] : List PySem.Str)
abbrev R : PySem.W.OpenRow := PySem.W.OpenLaw.row PySem.Challenge.rw_sampleyard_k86_desk_told
/-! what is looked at besides -/
def tupAt (K : PySem.W.Frag) (a : Addr) (vs : List He.Dv) : Bool := match K.lookup a with
  | some ⟨.type c, _, .seq its _, _⟩ => decide (c = "tuple") && (decide (its.size ≤ sizeLine) && He.relAll (vs.map (He.Dv.v K)) its.toList)
  | _ => false
def midT (K : PySem.W.Frag) : Addr := match K.lookup (He.ga K "MIDDLE") with
  | some ⟨_, _, .seq its _, _⟩ => (match (its.toList.head? : Option Value) with
    | some (Value.ref a) => a
    | _ => 0)
  | _ => 0
def clsB (K : PySem.W.Frag) (x : Str) : Bool := PySem.W.readsIn K (He.ga K x) (.type "type") && (He.eqO (PySem.W.specialIn K (.ref (He.ga K x)) "__getattribute__") (some (some (.builtin "type.__getattribute__"))) && (match PySem.W.findCls K (.ref (He.ga K x)) (.type "type") "__init__" with
  | some (.val (.ref a)) => decide (a = He.ma K (He.ga K x) "__init__")
  | _ => false))
def exB (K : PySem.W.Frag) : Bool := He.tupB K "SIDES" [.int 1, .int 2, .int 4, .int 8, .int 16] && (He.tupB K "KINDS" [.str "plain", .str "shaded", .str "patterned", .str "glass"] && (He.lstB K "MIDDLE" [.adr midT] && (tupAt K (midT K) [.int 4, .int 4] && (clsB K "Thing" && clsB K "Coloured"))))
/-! what the module's names reach -/
def reachA (g : Addr → Option Obj) (a : Addr) : List Addr := match g a with
  | some ⟨_, _, .func fd, _⟩ => He.refV fd.code
  | some ⟨_, _, .cls cd, _⟩ => [cd.ns]
  | some ⟨_, _, .seq its _, _⟩ => its.toList.flatMap He.refV
  | _ => []
def reachD (g : Addr → Option Obj) (a : Addr) : List Addr := match g a with
  | some ⟨_, _, .dict es _, _⟩ => es.toList.flatMap fun e => He.refV e.val
  | _ => []
def reach1 (g : Addr → Option Obj) : List Addr := reachD g mainGlobals
def reach2 (g : Addr → Option Obj) : List Addr := (reach1 g).flatMap (reachA g)
def reach3 (g : Addr → Option Obj) : List Addr := (reach2 g).flatMap (reachD g)
def reach4 (g : Addr → Option Obj) : List Addr := (reach3 g).flatMap (reachA g)
def reach (g : Addr → Option Obj) : List Addr := mainGlobals :: PySem.cStatics :: (reach1 g ++ (reach2 g ++ (reach3 g ++ reach4 g)))
def KT (g : Addr → Option Obj) : PySem.W.Frag := He.frG g (reach g)
abbrev AlB : Type := Bool × Bool × Bool × List He.FnW
def obsB (K : PySem.W.Frag) : AlB := (fa.all fun f => f.ok K, fn.all fun d => d.ok K, exB K, fn.map fun d => He.fnW K d.at_)
def valB : AlB := (true, true, true, fn.map He.DefD.val)
/-- what the head tells of the part K of the heap -/
def SaysB (K : PySem.W.Frag) : Prop := obsB K = valB
def hk : PySem.W.Hook where
  α := AlB
  obs := fun s => obsB (KT s.heap.get?)
  val := fun _ => valB
  says := fun _ h => ∃ K : PySem.W.Frag, K.In h ∧ SaysB K
  of := fun _ _ e => ⟨_, He.frG_in, e⟩
  keeps := fun _ _ _ ⟨K, hK, c⟩ k => ⟨K, PySem.W.Frag.In.keeps hK k, c⟩
def ob (s : PySem.W.SharedT) : AlB := obsB (KT (HandSHeadRun.getT s))
theorem ob_eq (s : PySem.W.SharedT) : ob s = hk.obs s.abs := by
  have e : HandSHeadRun.getT s = s.abs.heap.get? := funext (HandSHeadRun.getT_eq s)
  unfold ob
  rw [e]
  rfl
/-- the program as the law's walk sees it -/
def qv : Program := PySem.W.view R.prog [123]
end Lk
/-! the top's run: the looks -/
namespace Lk
open PySem L2 DL HandSHeadRun PySem.W
theorem run1 (w : World) (os : OsState) : (endF (stepQ (denQ tabQ) R.prog w) 20000 R.prog w os).map (fun s => (looksF R.prog (boot_heap w.params) s.abs, seenQ qv loose (importedModules R.prog.main.body) (fun s => xlAt qv [] s && recOk R.toRowW.records s) s.abs)) = some (true, openGood qv loose) := by kernel_rfl
end Lk
/-! the top's run: the facts -/
namespace Lk
open PySem L2 DL HandSHeadRun PySem.W
theorem run2 (w : World) (os : OsState) : (endF (stepQ (denQ tabQ) R.prog w) 20000 R.prog w os).map (fun s => (fa.all (fun f => f.ok (KT (getT s))), fn.all (fun d => d.ok (KT (getT s))), exB (KT (getT s)), fn.map (fun d => He.fnW (KT (getT s)) d.at_))) = some (true, true, true, fn.map He.DefD.val) := by kernel_rfl
end Lk
/-! data of the program -/
namespace Lk
open PySem L2 DL
abbrev F2 := Int × Int
abbrev dF (f : F2) : D := .tup [.int f.1, .int f.2]
structure Corner where
  x : Int
  y : Int
  w : Int
  h : Int
  vs : List Int
abbrev dC (c : Corner) : D := .tup [.int c.x, .int c.y, .int c.w, .int c.h, .tup (c.vs.map D.int)]
structure Tri where
  a : Corner
  b : Corner
  c : Corner
abbrev Tri.cs (t : Tri) : List Corner := [t.a, t.b, t.c]
abbrev dT (t : Tri) : D := .tup (t.cs.map dC)
abbrev Pat := List (List F2)
abbrev dRow (r : List F2) : D := .lst (r.map dF)
abbrev dP (p : Pat) : D := .lst (p.map dRow)
inductive Kind where
  | plain (col : F2)
  | shaded
  | patterned (p : Pat)
  | glass (col part : F2)
structure Thing where
  k : Kind
  t : Tri
/-- the classes' addresses -/
structure CA where
  plain : Addr
  shaded : Addr
  patterned : Addr
  glass : Addr
def dTh (A : CA) (z : Thing) : D := match z.k with
  | .plain col => .obj A.plain ["triangle", "colour"] [dT z.t, dF col]
  | .shaded => .obj A.shaded ["triangle"] [dT z.t]
  | .patterned p => .obj A.patterned ["triangle", "pattern"] [dT z.t, dP p]
  | .glass col part => .obj A.glass ["triangle", "colour", "part"] [dT z.t, dF col, dF part]
structure OkF (f : F2) : Prop where
  pos : 0 < f.2
  low : Int.gcd f.1 f.2 = 1
  top : f.1.natAbs < 10 ^ 30
  bot : f.2.natAbs < 10 ^ 30
structure OkC (c : Corner) : Prop where
  h : 1 ≤ c.h
  w : 0 < c.w
  vs : c.vs.length ≤ 3
structure OkT (t : Tri) : Prop where
  a : OkC t.a
  b : OkC t.b
  c : OkC t.c
  ab : t.b.vs.length = t.a.vs.length
  ac : t.c.vs.length = t.a.vs.length
theorem OkT.all {t : Tri} (h : OkT t) : ∀ c ∈ t.cs, OkC c ∧ c.vs.length = t.a.vs.length := by
  intro c hc
  simp only [Tri.cs, List.mem_cons, List.not_mem_nil, or_false] at hc
  rcases hc with rfl | rfl | rfl
  · exact ⟨h.a, rfl⟩
  · exact ⟨h.b, h.ab⟩
  · exact ⟨h.c, h.ac⟩
def sides : List Int := [1, 2, 4, 8, 16]
structure OkP (p : Pat) : Prop where
  rows : (p.length : Int) ∈ sides
  cols : ∀ r ∈ p, (r.length : Int) ∈ sides ∧ r.length = (p.headD []).length
  fs : ∀ r ∈ p, ∀ f ∈ r, OkF f
def OkK (n : Nat) : Kind → Prop
  | .plain col => OkF col
  | .shaded => 1 ≤ n
  | .patterned p => 2 ≤ n ∧ OkP p
  | .glass col part => OkF col ∧ OkF part ∧ 0 ≤ part.1 ∧ part.1 ≤ part.2
structure OkTh (z : Thing) : Prop where
  t : OkT z.t
  k : OkK z.t.a.vs.length z.k
end Lk
namespace Lk
open PySem L2 DL
/-! ### fractions -/
theorem gcd_fmod (a b : Int) (hb : b ≠ 0) : Int.gcd b (a.fmod b) = Int.gcd a b := by
  have h : a.fmod b = a - b * a.fdiv b := by have := Int.mul_fdiv_add_fmod a b; omega
  rw [h, Int.gcd_sub_mul_left_right]
  exact Int.gcd_comm b a
theorem fmod_small (a b : Int) (hb : b ≠ 0) : (a.fmod b).natAbs < b.natAbs := by
  rcases Int.lt_or_gt_of_ne hb with h | h
  · have h3 : (-a).fmod (-b) = -a.fmod b := Int.neg_fmod_neg a b
    have h1 := Int.fmod_nonneg_of_pos (-a) (b := -b) (by omega)
    have h2 := Int.fmod_lt_of_pos (-a) (b := -b) (by omega)
    rw [h3] at h1 h2
    omega
  · have h1 := Int.fmod_nonneg_of_pos a h
    have h2 := Int.fmod_lt_of_pos a h
    omega
section
variable {g : GE} {f : Addr} {fd : FuncData}
def Rdivisor : List D → D → Prop := fun ds d => ∃ a b : Int, ds = [.int a, .int b] ∧ d = .int (Int.gcd a b)
theorem sc_divisor : FnScope ["one", "other"] ["one", "other"] (defScope s_divisor) := ⟨rfl, rfl, rfl, by decide +kernel, rfl, by decide +kernel, by decide +kernel⟩
theorem ok_divisor (F : FnP g "divisor" s_divisor f fd) (B : Bl g) : FnOk g.P g.w g.K g.mg g.base CX0 1 f fd ["one", "other"] (spR g.K Rdivisor) := by
  refine pure_def F sc_divisor (fun ds d ⟨a, b, h1, h2⟩ => by rw [h1]; rfl) ?_
  rintro ds d ⟨a, b, rfl, rfl⟩
  refine swhile (fun m δ μ => ∃ a' b' : Int, δ = [some (.int a'), some (.int b')] ∧ μ = [] ∧ Int.gcd a' b' = Int.gcd a b ∧ m = b'.natAbs) b.natAbs ⟨a, b, rfl, rfl, rfl, rfl⟩ ?_
  rintro m δ μ ⟨a', b', rfl, rfl, h1, rfl⟩
  refine ⟨_, tc (ev 1 rfl rfl) ei rfl, fun hb => ?_, fun hb => ?_⟩
  · have hb' : b' ≠ 0 := by simpa using hb
    refine spar 0 1 (ev 1 rfl rfl) (ebx (ev 0 rfl rfl) (ev 1 rfl rfl) (bModN hb')) (s0 ?_) ?_
    · exact ⟨(a'.fmod b').natAbs, fmod_small a' b' hb', b', a'.fmod b', rfl, rfl, by rw [gcd_fmod a' b' hb', h1], rfl⟩
    · intro env he
      cases env
      subst he
      kernel_rfl
  · have hb' : b' = 0 := by simpa using hb
    refine sret (cb (ac (ev 0 rfl rfl) an) kAbs B.abs) ?_
    show D.int (a'.natAbs : Int) = .int (Int.gcd a b)
    rw [← h1, hb', Int.gcd_zero_right]
def rat (t b : Int) : F2 := (t / (Int.gcd t b : Int), b / (Int.gcd t b : Int))
def Rratio : List D → D → Prop := fun ds d => ∃ t b : Int, ds = [.int t, .int b] ∧ 0 < b ∧ b.natAbs.log2 < 9000 ∧ d = dF (rat t b)
theorem sc_ratio : FnScope ["top", "bottom", "part"] ["top", "bottom"] (defScope s_ratio) := ⟨rfl, rfl, rfl, by decide +kernel, rfl, by decide +kernel, by decide +kernel⟩
theorem log2_mono {a b : Nat} (h : a ≤ b) : a.log2 ≤ b.log2 := by
  by_cases h0 : a = 0
  · subst h0; simp
  · exact (Nat.le_log2 (by omega)).mpr (Nat.le_trans (Nat.log2_self_le h0) h)
theorem ok_ratio (F : FnP g "ratio" s_ratio f fd) (c1 : Cal g "divisor" 1 (spR g.K Rdivisor)) : FnOk g.P g.w g.K g.mg g.base CX0 2 f fd ["top", "bottom"] (spR g.K Rratio) := by
  refine pure_def F sc_ratio (fun ds d ⟨a, b, h1, h2⟩ => by rw [h1]; rfl) ?_
  rintro ds d ⟨t, b, rfl, hb, hz, rfl⟩
  have hg0 : 0 < Int.gcd t b := Int.gcd_pos_of_ne_zero_right t (by omega)
  have hgl : Int.gcd t b ≤ b.natAbs := Int.gcd_le_natAbs_right t (by omega)
  have hW : ∀ i : Int, CDivW i (Int.gcd t b : Int) := fun i => ⟨by omega, by rw [Int.natAbs_natCast]; exact Nat.lt_of_le_of_lt (log2_mono hgl) hz⟩
  refine sset 2 (cl c1 (ac (ev 0 rfl rfl) (ac (ev 1 rfl rfl) an)) ⟨t, b, rfl, rfl⟩) ?_
  refine sifN (tc (ev 1 rfl rfl) ei (decide_eq_false (by omega))) ?_
  exact sret (et (ac (ebx (ev 0 rfl rfl) (ev 2 rfl rfl) (bDivW (hW _))) (ac (ebx (ev 1 rfl rfl) (ev 2 rfl rfl) (bDivW (hW _))) an))) rfl
def Runder : List D → D → Prop := fun ds d => ∃ a b : F2, ds = [dF a, dF b] ∧ CMul a.1 b.2 ∧ CMul b.1 a.2 ∧ d = .bl (decide (a.1 * b.2 < b.1 * a.2))
theorem sc_under : FnScope ["one", "other"] ["one", "other"] (defScope s_under) := ⟨rfl, rfl, rfl, by decide +kernel, rfl, by decide +kernel, by decide +kernel⟩
theorem ok_under (F : FnP g "under" s_under f fd) : FnOk g.P g.w g.K g.mg g.base CX0 1 f fd ["one", "other"] (spR g.K Runder) := by
  refine pure_def F sc_under (fun ds d ⟨a, b, h1, h2⟩ => by rw [h1]; rfl) ?_
  rintro ds d ⟨a, b, rfl, h1, h2, rfl⟩
  exact sret (ec (em (ix 0 (ev 0 rfl rfl) ei rfl rfl) (ix 1 (ev 1 rfl rfl) ei rfl rfl) h1) (em (ix 0 (ev 1 rfl rfl) ei rfl rfl) (ix 1 (ev 0 rfl rfl) ei rfl rfl) h2)) rfl
/-! ### corners -/
def Ris_whole : List D → D → Prop := fun ds d => ∃ i : Int, ds = [.int i] ∧ d = .bl true
theorem sc_is_whole : FnScope ["thing"] ["thing"] (defScope s_is_whole) := ⟨rfl, rfl, rfl, by decide +kernel, rfl, by decide +kernel, by decide +kernel⟩
theorem k_ii : kitB "int" "int" = some true := by kernel_rfl
theorem k_ib : kitB "int" "bool" = some false := by kernel_rfl
theorem k_tt : kitB "tuple" "tuple" = some true := by kernel_rfl
theorem k_ll : kitB "list" "list" = some true := by kernel_rfl
theorem k_ss : kitB "str" "str" = some true := by kernel_rfl
theorem bt_int : bootBuiltins "int" = some (.type "int") := by kernel_rfl
theorem bt_bool : bootBuiltins "bool" = some (.type "bool") := by kernel_rfl
theorem bt_tuple : bootBuiltins "tuple" = some (.type "tuple") := by kernel_rfl
theorem bt_list : bootBuiltins "list" = some (.type "list") := by kernel_rfl
theorem bt_str : bootBuiltins "str" = some (.type "str") := by kernel_rfl
theorem ok_is_whole (F : FnP g "is_whole" s_is_whole f fd) (B : Bl g) : FnOk g.P g.w g.K g.mg g.base CX0 1 f fd ["thing"] (spR g.K Ris_whole) := by
  refine pure_def F sc_is_whole (fun ds d ⟨a, h1, h2⟩ => by rw [h1]; rfl) ?_
  rintro ds d ⟨i, rfl, rfl⟩
  exact sret (ED.and (cb (ac (ev 0 rfl rfl) (ac (ety B.int bt_int) an)) (kIsi rfl k_ii) B.isinstance) fun _ => ED.one (ED.not (cb (ac (ev 0 rfl rfl) (ac (ety B.bool bt_bool) an)) (kIsi rfl k_ib) B.isinstance))) rfl
def Ris_corner : List D → D → Prop := fun ds d => ∃ c : Corner, ds = [dC c] ∧ OkC c ∧ d = .bl true
theorem sc_is_corner : FnScope ["thing", "values", "one"] ["thing"] (defScope s_is_corner) := ⟨rfl, rfl, rfl, by decide +kernel, rfl, by decide +kernel, by decide +kernel⟩
theorem all_true (n : Nat) : (List.replicate n true).all id = true := by simp
theorem kAllT {C : CxD} (n : Nat) : CallD C (.builtin "all") [.lst (List.replicate n (.bl true))] (.bl true) := by
  have h := kAll (C := C) (da := .lst (List.replicate n (.bl true))) (bs := List.replicate n true) (.inl (by simp))
  rw [all_true] at h
  exact h
theorem kAllM {α : Type} {C : CxD} (xs : List α) : CallD C (.builtin "all") [.lst (xs.map fun _ => .bl true)] (.bl true) := by
  have h := kAllT (C := C) xs.length
  have e : xs.map (fun _ => D.bl true) = List.replicate xs.length (.bl true) := List.map_const' ..
  rw [e]
  exact h
theorem ok_is_corner (F : FnP g "is_corner" s_is_corner f fd) (B : Bl g) (mV : ∃ t, g.mg "MOST_VALUES" = some (.int 3 t)) (c1 : Cal g "is_whole" 1 (spR g.K Ris_whole)) : FnOk g.P g.w g.K g.mg g.base CX0 2 f fd ["thing"] (spR g.K Ris_corner) := by
  refine pure_def F sc_is_corner (fun ds d ⟨a, h1, h2⟩ => by rw [h1]; rfl) ?_
  rintro ds d ⟨c, rfl, ok, rfl⟩
  refine sifN (BD.td (BD.orF (tn (tv (cb (ac (ev 0 rfl rfl) (ac (ety B.tuple bt_tuple) an)) (kIsi rfl k_tt) B.isinstance) rfl) rfl)
    (BD.orF (tc (cb (ac (ev 0 rfl rfl) an) kLn B.len) ei rfl)
    (BD.or1 (tn (tv (cb (ac (lcx [("one", 2)] [c.x, c.y, c.w, c.h] D.int (fun _ => .bl true) rfl (idt (slT (ev 0 rfl rfl) p0 (p1 ei))) rfl (fun x _ => te (gn 2) fun _ => cl c1 (ac (ev 2 rfl rfl) an) ⟨x, rfl, rfl⟩) (tiny_size rfl)) an) (kAllM _) B.all) rfl) rfl))))) ?_
  refine sset 1 (ix 4 (ev 0 rfl rfl) ei rfl rfl) ?_
  refine sifN (BD.td (BD.orF (tn (tv (cb (ac (ev 1 rfl rfl) (ac (ety B.tuple bt_tuple) an)) (kIsi rfl k_tt) B.isinstance) rfl) rfl)
    (BD.or1 (tc (cb (ac (ev 1 rfl rfl) an) kLn B.len) (egi mV) (decide_eq_false (by have := ok.vs; simp; omega)))))) ?_
  refine sret (ED.to (ED.and (ec (ix 3 (ev 0 rfl rfl) ei rfl rfl) ei) fun _ => ED.one (cb (ac (lcx [("one", 2)] c.vs D.int (fun _ => .bl true) rfl (idt (ev 1 rfl rfl)) rfl (fun x _ => te (gn 2) fun _ => cl c1 (ac (ev 2 rfl rfl) an) ⟨x, rfl, rfl⟩) (small_size (by have := ok.vs; omega))) an) (kAllM _) B.all)) ?_) rfl
  rw [decide_eq_true ok.h]
  rfl
end
end Lk
namespace Lk
open PySem L2 DL
theorem lnI {C : CxD} {δ : DS} {μ : Mu} {a : Expr} {pos p p2 q : Pos} {x y : Str} (ns : List Int) (ha : ED C δ μ a (.lst (ns.map D.int))) (hl : ns.length ≤ 4000) (hm : C.g.mg "len" = none) (hm2 : C.g.mg "set" = none) {k : Int} (hk : (setLen ns : Int) = k) (hx : x = "len" := by kernel_rfl) (hy : y = "set" := by kernel_rfl) (hg : glB C.sc "len" = true := by kernel_rfl) (hg2 : glB C.sc "set" = true := by kernel_rfl) (na : Star a [] := by intro _; rfl) :
    ED C δ μ (.Call (.Name x p) [.Call (.Name y p2) [a] [] q] [] pos) (.int k) := by
  subst hx hy
  exact hk ▸ ED.lenSetI ha LstD.mk hl hm hm2 (glB_ok hg).1 (glB_ok hg2).1 na
theorem setLen3 (n : Int) : (setLen [n, n, n] : Int) = 1 := by
  unfold setLen
  simp [PyProof.Rows.firstMet, PyProof.Rows.step_dedup, List.range_succ]
section
variable {g : GE} {f : Addr} {fd : FuncData}
def Rcheck_triangle : List D → D → Prop := fun ds d => ∃ t : Tri, ds = [dT t] ∧ OkT t ∧ d = .non
theorem sc_check_triangle : FnScope ["triangle", "corner"] ["triangle"] (defScope s_check_triangle) := ⟨rfl, rfl, rfl, by decide +kernel, rfl, by decide +kernel, by decide +kernel⟩
theorem ok_check_triangle (F : FnP g "check_triangle" s_check_triangle f fd) (B : Bl g) (c1 : Cal g "is_corner" 2 (spR g.K Ris_corner)) : FnOk g.P g.w g.K g.mg g.base CX0 3 f fd ["triangle"] (spR g.K Rcheck_triangle) := by
  refine pure_def F sc_check_triangle (fun ds d ⟨a, h1, h2⟩ => by rw [h1]; rfl) ?_
  rintro ds d ⟨t, rfl, ok, rfl⟩
  refine sifN (BD.td (BD.orF (tn (tv (cb (ac (ev 0 rfl rfl) (ac (ety B.tuple bt_tuple) an)) (kIsi rfl k_tt) B.isinstance) rfl) rfl) (BD.or1 (tc (cb (ac (ev 0 rfl rfl) an) kLn B.len) ei rfl)))) ?_
  refine sifN (tn (tv (cb (ac (lcx [("corner", 1)] t.cs dC (fun _ => .bl true) rfl (idt (ev 0 rfl rfl)) rfl (fun c hc => te (gn 1) fun _ => cl c1 (ac (ev 1 rfl rfl) an) ⟨c, rfl, (ok.all c hc).1, rfl⟩) (tiny_size rfl)) an) (kAllM _) B.all) rfl) rfl) ?_
  refine sifN (tc (lnI [(t.a.vs.length : Int), t.a.vs.length, t.a.vs.length] ?_ (Nat.le_of_ble_eq_true rfl) B.len B.set (setLen3 _)) ei rfl) ?_
  · exact (lcx [("corner", 1)] t.cs dC (fun _ => .int t.a.vs.length) rfl (idt (ev 0 rfl rfl)) rfl (fun c hc => te (gn 1) fun _ => ED.to (cb (ac (ix 4 (ev 1 rfl rfl) ei rfl rfl) an) kLn B.len) (by rw [List.length_map, (ok.all c hc).2])) (tiny_size rfl))
  exact s0 rfl
def nums (c : Corner) : List Int := [c.x, c.y, c.w, c.h] ++ c.vs
def Rnumbers_of : List D → D → Prop := fun ds d => ∃ c : Corner, ds = [dC c] ∧ c.vs.length ≤ 1000 ∧ d = .lst ((nums c).map D.int)
theorem sc_numbers_of : FnScope ["corner"] ["corner"] (defScope s_numbers_of) := ⟨rfl, rfl, rfl, by decide +kernel, rfl, by decide +kernel, by decide +kernel⟩
theorem ok_numbers_of (F : FnP g "numbers_of" s_numbers_of f fd) (B : Bl g) : FnOk g.P g.w g.K g.mg g.base CX0 1 f fd ["corner"] (spR g.K Rnumbers_of) := by
  refine pure_def F sc_numbers_of (fun ds d ⟨a, h1, h2⟩ => by rw [h1]; rfl) ?_
  rintro ds d ⟨c, rfl, hl, rfl⟩
  exact sret (ebx (ct (ac (slT (ev 0 rfl rfl) p0 (p1 ei)) an) kLs B.list) (ct (ac (ix 4 (ev 0 rfl rfl) ei rfl rfl) an) kLs B.list) (bCat (by
    show 4 + (c.vs.map D.int).length ≤ sizeLine
    rw [List.length_map]
    exact Nat.le_of_lt (small_size (by omega))))) rfl
def Rcheck_ahead : List D → D → Prop := fun ds d => ∃ t : Tri, ds = [dT t] ∧ OkT t ∧ d = .non
theorem sc_check_ahead : FnScope ["triangle", "corner"] ["triangle"] (defScope s_check_ahead) := ⟨rfl, rfl, rfl, by decide +kernel, rfl, by decide +kernel, by decide +kernel⟩
theorem ok_check_ahead (F : FnP g "check_ahead" s_check_ahead f fd) (B : Bl g) : FnOk g.P g.w g.K g.mg g.base CX0 1 f fd ["triangle"] (spR g.K Rcheck_ahead) := by
  refine pure_def F sc_check_ahead (fun ds d ⟨a, h1, h2⟩ => by rw [h1]; rfl) ?_
  rintro ds d ⟨t, rfl, ok, rfl⟩
  refine sfor (fun i δ μ => (∃ o, δ = [some (dT t), o]) ∧ μ = []) (idt (ev 0 rfl rfl)) ⟨⟨_, rfl⟩, rfl⟩ ?_ ?_
  · rintro i d δ μ hd ⟨⟨o, rfl⟩, rfl⟩
    obtain ⟨c, hc, rfl⟩ := List.mem_map.mp (List.mem_of_getElem? hd)
    refine ⟨_, _, gn 1, ?_⟩
    refine sifN (tc (ix 2 (ev 1 rfl rfl) ei rfl rfl) ei (decide_eq_false (by have := (ok.all c hc).1.w; omega))) ?_
    exact s0 ⟨⟨_, rfl⟩, rfl⟩
  · rintro δ μ ⟨⟨o, rfl⟩, rfl⟩
    exact s0 rfl
/-! ### corners mixed -/
def mixL (c1 c2 : Corner) (a b : Int) : List Int := (List.zip (nums c1) (nums c2)).map fun z => a * z.1 + b * z.2
def gcdL (l : List Int) : Int := l.foldl (fun p n => (Int.gcd p n : Int)) 0
def mixP (c1 c2 : Corner) (a b : Int) : Int := gcdL (mixL c1 c2 a b)
def mixM (c1 c2 : Corner) (a b : Int) : Corner := ⟨(a * c1.x + b * c2.x) / mixP c1 c2 a b, (a * c1.y + b * c2.y) / mixP c1 c2 a b, (a * c1.w + b * c2.w) / mixP c1 c2 a b, (a * c1.h + b * c2.h) / mixP c1 c2 a b, ((List.zip c1.vs c2.vs).map fun z => a * z.1 + b * z.2).map (· / mixP c1 c2 a b)⟩
theorem mix_nums (c1 c2 : Corner) (a b : Int) : (mixL c1 c2 a b).map (· / mixP c1 c2 a b) = nums (mixM c1 c2 a b) := rfl
theorem zipD_map {α β : Type} (xs : List α) (ys : List β) (f : α → D) (h : β → D) : zipD (xs.map f) (ys.map h) = (List.zip xs ys).map fun z => D.tup [f z.1, h z.2] := by
  unfold zipD
  rw [List.zipWith_map, List.zip_eq_zipWith, List.map_zipWith]
structure OkMix (c1 c2 : Corner) (a b : Int) : Prop where
  l1 : c1.vs.length ≤ 1000
  l2 : c2.vs.length ≤ 1000
  a0 : 0 ≤ a
  a1 : a < 2 ^ 64
  b0 : 0 ≤ b
  b1 : b < 2 ^ 64
  pos : 0 < mixP c1 c2 a b
  sm : (mixP c1 c2 a b).natAbs.log2 < 9000
def Rmixed : List D → D → Prop := fun ds d => ∃ (c1 c2 : Corner) (a b : Int), ds = [dC c1, dC c2, .int a, .int b] ∧ OkMix c1 c2 a b ∧ d = dC (mixM c1 c2 a b)
abbrev nMixed : List Str := ["one", "other", "first", "second", "found", "part", "number", "values", "here", "there"]
theorem sc_mixed : FnScope nMixed ["one", "other", "first", "second"] (defScope s_mixed) := ⟨rfl, rfl, rfl, by decide +kernel, rfl, by decide +kernel, by decide +kernel⟩
theorem ok_mixed (F : FnP g "mixed" s_mixed f fd) (B : Bl g) (c1 : Cal g "numbers_of" 1 (spR g.K Rnumbers_of)) (c2 : Cal g "divisor" 1 (spR g.K Rdivisor)) : FnOk g.P g.w g.K g.mg g.base CX0 2 f fd ["one", "other", "first", "second"] (spR g.K Rmixed) := by
  refine pure_def F sc_mixed (fun ds d ⟨a, _, _, _, h1, h2⟩ => by rw [h1]; rfl) ?_
  rintro ds d ⟨p, q, a, b, rfl, ok, rfl⟩
  have hlen : (List.zip (nums p) (nums q)).length ≤ 1004 := by
    rw [List.length_zip]
    have h1 : (nums p).length = p.vs.length + 4 := by simp [nums]
    have := ok.l1
    omega
  refine slx 4 [("here", 8), ("there", 9)] (List.zip (nums p) (nums q)) (fun z => .tup [.int z.1, .int z.2]) (fun z => .int (a * z.1 + b * z.2))
    (idzL (cl c1 (ac (ev 0 rfl rfl) an) ⟨p, rfl, ok.l1, rfl⟩) (cl c1 (ac (ev 1 rfl rfl) an) ⟨q, rfl, ok.l2, rfl⟩) B.zip) (zipD_map _ _ _ _)
    (fun z _ => te (gt (gs (gn 8) (gs (gn 9) gs0))) fun _ => eb (em (ev 2 rfl rfl) (ev 8 rfl rfl) (.inl ⟨by have := ok.a0; omega, ok.a1⟩)) (em (ev 3 rfl rfl) (ev 9 rfl rfl) (.inl ⟨by have := ok.b0; omega, ok.b1⟩))) (small_size (by omega)) ?_
  refine sset 5 ei ?_
  have hm : (List.zip (nums p) (nums q)).map (fun z => D.int (a * z.1 + b * z.2)) = (mixL p q a b).map D.int := by
    unfold mixL
    rw [List.map_map]
    rfl
  rw [hm]
  refine sfor (fun i δ μ => (∃ o, δ = [some (dC p), some (dC q), some (.int a), some (.int b), some (.lst ((mixL p q a b).map D.int)), some (.int (gcdL ((mixL p q a b).take i))), o, none, none, none]) ∧ μ = []) (idl (ev 4 rfl rfl)) ⟨⟨_, rfl⟩, rfl⟩ ?_ ?_
  · rintro i d δ μ hd ⟨⟨o, rfl⟩, rfl⟩
    rw [List.getElem?_map] at hd
    obtain ⟨n, hn, rfl⟩ := Option.map_eq_some_iff.mp hd
    refine ⟨_, _, gn 6, ?_⟩
    refine sset 5 (cl c2 (ac (ev 5 rfl rfl) (ac (ev 6 rfl rfl) an)) ⟨_, _, rfl, rfl⟩) ?_
    refine s0 ⟨⟨some (.int n), ?_⟩, rfl⟩
    have e : gcdL ((mixL p q a b).take (i + 1)) = (Int.gcd (gcdL ((mixL p q a b).take i)) n : Int) := by
      unfold gcdL
      rw [List.take_add_one, hn, List.foldl_append]
      rfl
    rw [e]
    rfl
  · rintro δ μ ⟨⟨o, rfl⟩, rfl⟩
    rw [List.length_map, List.take_length]
    refine slx 4 [("number", 6)] (mixL p q a b) D.int (fun n => .int (n / mixP p q a b)) (idl (ev 4 rfl rfl)) rfl (fun n _ => te (gn 6) fun _ => ebx (ev 6 rfl rfl) (ev 5 rfl rfl) (bDivW ⟨ok.pos, ok.sm⟩)) (small_size (by unfold mixL; rw [List.length_map]; omega)) ?_
    have e : (mixL p q a b).map (fun n => D.int (n / mixP p q a b)) = (nums (mixM p q a b)).map D.int := by
      rw [← mix_nums, List.map_map]
      rfl
    rw [e]
    refine sset 7 (ct (ac (slL (ev 4 rfl rfl) (p1 ei) p0) an) kTp B.tuple) ?_
    refine sret (et (ac (ix 0 (ev 4 rfl rfl) ei rfl rfl) (ac (ix 1 (ev 4 rfl rfl) ei rfl rfl) (ac (ix 2 (ev 4 rfl rfl) ei rfl rfl) (ac (ix 3 (ev 4 rfl rfl) ei rfl rfl) (ac (ev 7 rfl rfl) an)))))) ?_
    show D.tup [_, _, _, _, .tup (cutD ((nums (mixM p q a b)).map D.int) (some 4) none)] = dC (mixM p q a b)
    have e2 : cutD ((nums (mixM p q a b)).map D.int) (some 4) none = (mixM p q a b).vs.map D.int := by
      unfold cutD nums
      have h4 : HT.sIx ((([(mixM p q a b).x, (mixM p q a b).y, (mixM p q a b).w, (mixM p q a b).h] ++ (mixM p q a b).vs).map D.int).length) 0 (some 4) = 4 := by
        show HT.sIx _ 0 (some ((4 : Nat) : Int)) = 4
        rw [HT.sIx_nat]
        simp
      rw [h4, HT.sIx_none]
      show List.take _ ((mixM p q a b).vs.map D.int) = _
      apply List.take_of_length_le
      simp
    rw [e2]
end
end Lk
/-! the defs' names by slots -/
namespace Lk
open PySem L2 DL
abbrev OkD (g : GE) (k : Nat) (f : Addr) (fd : FuncData) (ps : List Str) (R : List D → D → Prop) : Prop := FnOk g.P g.w g.K g.mg g.base CX0 k f fd ps (spR g.K R)
abbrev OkM (g : GE) (k : Nat) (f : Addr) (fd : FuncData) (ps : List Str) (R : MC → List D → D → MC → Prop) : Prop := FnOk g.P g.w g.K g.mg g.base CX0 k f fd ps (spM g.K R)
abbrev n_is_part : List Str := ["thing", "one"]
abbrev p_is_part : List Str := ["thing"]
theorem sc_is_part : FnScope n_is_part p_is_part (defScope s_is_part) := ⟨rfl, rfl, rfl, by decide +kernel, rfl, by decide +kernel, by decide +kernel⟩
abbrev n_check_pattern : List Str := ["pattern", "line", "one"]
abbrev p_check_pattern : List Str := ["pattern"]
theorem sc_check_pattern : FnScope n_check_pattern p_check_pattern (defScope s_check_pattern) := ⟨rfl, rfl, rfl, by decide +kernel, rfl, by decide +kernel, by decide +kernel⟩
abbrev n_is_fraction : List Str := ["thing"]
abbrev p_is_fraction : List Str := ["thing"]
theorem sc_is_fraction : FnScope n_is_fraction p_is_fraction (defScope s_is_fraction) := ⟨rfl, rfl, rfl, by decide +kernel, rfl, by decide +kernel, by decide +kernel⟩
abbrev n_refuse_thing : List Str := ["bad"]
abbrev p_refuse_thing : List Str := ["bad"]
theorem sc_refuse_thing : FnScope n_refuse_thing p_refuse_thing (defScope s_refuse_thing) := ⟨rfl, rfl, rfl, by decide +kernel, rfl, by decide +kernel, by decide +kernel⟩
abbrev n_fraction_word : List Str := ["fraction"]
abbrev p_fraction_word : List Str := ["fraction"]
theorem sc_fraction_word : FnScope n_fraction_word p_fraction_word (defScope s_fraction_word) := ⟨rfl, rfl, rfl, by decide +kernel, rfl, by decide +kernel, by decide +kernel⟩
abbrev n_number_in : List Str := ["word", "at", "figures", "sign"]
abbrev p_number_in : List Str := ["word", "at"]
theorem sc_number_in : FnScope n_number_in p_number_in (defScope s_number_in) := ⟨rfl, rfl, rfl, by decide +kernel, rfl, by decide +kernel, by decide +kernel⟩
abbrev n_fraction_in : List Str := ["word", "at", "top", "gap", "bottom", "found"]
abbrev p_fraction_in : List Str := ["word", "at"]
theorem sc_fraction_in : FnScope n_fraction_in p_fraction_in (defScope s_fraction_in) := ⟨rfl, rfl, rfl, by decide +kernel, rfl, by decide +kernel, by decide +kernel⟩
abbrev n_pattern_word : List Str := ["pattern", "one", "line"]
abbrev p_pattern_word : List Str := ["pattern"]
theorem sc_pattern_word : FnScope n_pattern_word p_pattern_word (defScope s_pattern_word) := ⟨rfl, rfl, rfl, by decide +kernel, rfl, by decide +kernel, by decide +kernel⟩
abbrev n_pattern_in : List Str := ["word", "at", "one", "line"]
abbrev p_pattern_in : List Str := ["word", "at"]
theorem sc_pattern_in : FnScope n_pattern_in p_pattern_in (defScope s_pattern_in) := ⟨rfl, rfl, rfl, by decide +kernel, rfl, by decide +kernel, by decide +kernel⟩
abbrev n_corner_words : List Str := ["corner", "number"]
abbrev p_corner_words : List Str := ["corner"]
theorem sc_corner_words : FnScope n_corner_words p_corner_words (defScope s_corner_words) := ⟨rfl, rfl, rfl, by decide +kernel, rfl, by decide +kernel, by decide +kernel⟩
abbrev n_corner_in : List Str := ["words", "at", "numbers", "values", "word"]
abbrev p_corner_in : List Str := ["words", "at"]
theorem sc_corner_in : FnScope n_corner_in p_corner_in (defScope s_corner_in) := ⟨rfl, rfl, rfl, by decide +kernel, rfl, by decide +kernel, by decide +kernel⟩
abbrev n_head_of : List Str := ["thing", "word"]
abbrev p_head_of : List Str := ["thing"]
theorem sc_head_of : FnScope n_head_of p_head_of (defScope s_head_of) := ⟨rfl, rfl, rfl, by decide +kernel, rfl, by decide +kernel, by decide +kernel⟩
abbrev n_thing_text : List Str := ["thing", "corner"]
abbrev p_thing_text : List Str := ["thing"]
theorem sc_thing_text : FnScope n_thing_text p_thing_text (defScope s_thing_text) := ⟨rfl, rfl, rfl, by decide +kernel, rfl, by decide +kernel, by decide +kernel⟩
abbrev n_thing_of : List Str := ["row", "at", "parts", "head", "triangle"]
abbrev p_thing_of : List Str := ["row", "at"]
theorem sc_thing_of : FnScope n_thing_of p_thing_of (defScope s_thing_of) := ⟨rfl, rfl, rfl, by decide +kernel, rfl, by decide +kernel, by decide +kernel⟩
abbrev n_spots_words : List Str := ["spots", "spot"]
abbrev p_spots_words : List Str := ["spots"]
theorem sc_spots_words : FnScope n_spots_words p_spots_words (defScope s_spots_words) := ⟨rfl, rfl, rfl, by decide +kernel, rfl, by decide +kernel, by decide +kernel⟩
abbrev n_scene_text : List Str := ["scene", "width", "height", "ground", "spots", "things", "rows", "thing"]
abbrev p_scene_text : List Str := ["scene"]
theorem sc_scene_text : FnScope n_scene_text p_scene_text (defScope s_scene_text) := ⟨rfl, rfl, rfl, by decide +kernel, rfl, by decide +kernel, by decide +kernel⟩
abbrev n_floor_in : List Str := ["words", "at", "sides", "word"]
abbrev p_floor_in : List Str := ["words", "at"]
theorem sc_floor_in : FnScope n_floor_in p_floor_in (defScope s_floor_in) := ⟨rfl, rfl, rfl, by decide +kernel, rfl, by decide +kernel, by decide +kernel⟩
abbrev n_spots_in : List Str := ["words", "at", "found", "word", "numbers", "one"]
abbrev p_spots_in : List Str := ["words", "at"]
theorem sc_spots_in : FnScope n_spots_in p_spots_in (defScope s_spots_in) := ⟨rfl, rfl, rfl, by decide +kernel, rfl, by decide +kernel, by decide +kernel⟩
abbrev n_ground_in : List Str := ["words", "at"]
abbrev p_ground_in : List Str := ["words", "at"]
theorem sc_ground_in : FnScope n_ground_in p_ground_in (defScope s_ground_in) := ⟨rfl, rfl, rfl, by decide +kernel, rfl, by decide +kernel, by decide +kernel⟩
abbrev n_form : List Str := ["wall", "corner", "number", "part"]
abbrev p_form : List Str := ["wall", "corner"]
theorem sc_form : FnScope n_form p_form (defScope s_form) := ⟨rfl, rfl, rfl, by decide +kernel, rfl, by decide +kernel, by decide +kernel⟩
abbrev n_turned_to : List Str := ["triangle", "first"]
abbrev p_turned_to : List Str := ["triangle", "first"]
theorem sc_turned_to : FnScope n_turned_to p_turned_to (defScope s_turned_to) := ⟨rfl, rfl, rfl, by decide +kernel, rfl, by decide +kernel, by decide +kernel⟩
abbrev n_cut : List Str := ["triangle", "wall", "forms", "inside", "alone", "first", "second", "third", "ahead", "behind", "tip", "rest", "corner", "k"]
abbrev p_cut : List Str := ["triangle", "wall"]
theorem sc_cut : FnScope n_cut p_cut (defScope s_cut) := ⟨rfl, rfl, rfl, by decide +kernel, rfl, by decide +kernel, by decide +kernel⟩
abbrev n_refuse_if : List Str := ["bad"]
abbrev p_refuse_if : List Str := ["bad"]
theorem sc_refuse_if : FnScope n_refuse_if p_refuse_if (defScope s_refuse_if) := ⟨rfl, rfl, rfl, by decide +kernel, rfl, by decide +kernel, by decide +kernel⟩
abbrev n_bounded : List Str := ["word", "low", "high", "number"]
abbrev p_bounded : List Str := ["word", "low", "high"]
theorem sc_bounded : FnScope n_bounded p_bounded (defScope s_bounded) := ⟨rfl, rfl, rfl, by decide +kernel, rfl, by decide +kernel, by decide +kernel⟩
abbrev n_like_it : List Str := ["thing", "triangle"]
abbrev p_like_it : List Str := ["thing", "triangle"]
theorem sc_like_it : FnScope n_like_it p_like_it (defScope s_like_it) := ⟨rfl, rfl, rfl, by decide +kernel, rfl, by decide +kernel, by decide +kernel⟩
abbrev n_law_cell_at : List Str := ["_law_script", "_law_k"]
abbrev p_law_cell_at : List Str := ["_law_script", "_law_k"]
theorem sc_law_cell_at : FnScope n_law_cell_at p_law_cell_at (defScope s_law_cell_at) := ⟨rfl, rfl, rfl, by decide +kernel, rfl, by decide +kernel, by decide +kernel⟩
abbrev n_law_mixed : List Str := ["_law_cell", "_law_k", "_law_number"]
abbrev p_law_mixed : List Str := ["_law_cell", "_law_k"]
theorem sc_law_mixed : FnScope n_law_mixed p_law_mixed (defScope s_law_mixed) := ⟨rfl, rfl, rfl, by decide +kernel, rfl, by decide +kernel, by decide +kernel⟩
abbrev n_law_draws : List Str := ["_law_cell", "_law_many", "_law_k"]
abbrev p_law_draws : List Str := ["_law_cell", "_law_many"]
theorem sc_law_draws : FnScope n_law_draws p_law_draws (defScope s_law_draws) := ⟨rfl, rfl, rfl, by decide +kernel, rfl, by decide +kernel, by decide +kernel⟩
abbrev n_law_corner : List Str := ["_law_draws_here", "_law_many", "_law_number", "_law_more", "_law_scale", "_law_times", "_law_x", "_law_y", "_law_w", "_law_h", "_law_values", "_law_j"]
abbrev p_law_corner : List Str := ["_law_draws_here", "_law_many"]
theorem sc_law_corner : FnScope n_law_corner p_law_corner (defScope s_law_corner) := ⟨rfl, rfl, rfl, by decide +kernel, rfl, by decide +kernel, by decide +kernel⟩
abbrev n_law_triangles : List Str := ["_law_script", "_law_first", "_law_most", "_law_many", "_law_size", "_law_rows", "_law_pool", "_law_draws_here", "_law_found", "_law_k", "_law_number", "_law_one", "_law_row", "_law_j"]
abbrev p_law_triangles : List Str := ["_law_script", "_law_first", "_law_most", "_law_many"]
theorem sc_law_triangles : FnScope n_law_triangles p_law_triangles (defScope s_law_triangles) := ⟨rfl, rfl, rfl, by decide +kernel, rfl, by decide +kernel, by decide +kernel⟩
abbrev n_law_pattern : List Str := ["_law_number", "_law_more", "_law_rows", "_law_columns", "_law_found", "_law_r", "_law_line", "_law_c", "_law_one"]
abbrev p_law_pattern : List Str := ["_law_number", "_law_more"]
theorem sc_law_pattern : FnScope n_law_pattern p_law_pattern (defScope s_law_pattern) := ⟨rfl, rfl, rfl, by decide +kernel, rfl, by decide +kernel, by decide +kernel⟩
abbrev n_law_thing : List Str := ["_law_draws_here", "_law_triangle", "_law_number", "_law_top", "_law_bottom", "_law_more", "_law_colour", "_law_way", "_law_few", "_law_part", "_law_corner_here"]
abbrev p_law_thing : List Str := ["_law_draws_here", "_law_triangle"]
theorem sc_law_thing : FnScope n_law_thing p_law_thing (defScope s_law_thing) := ⟨rfl, rfl, rfl, by decide +kernel, rfl, by decide +kernel, by decide +kernel⟩
abbrev n_law_things : List Str := ["_law_script", "_law_first", "_law_most", "_law_draws_here", "_law_found", "_law_many", "_law_k", "_law_triangle"]
abbrev p_law_things : List Str := ["_law_script", "_law_first", "_law_most"]
theorem sc_law_things : FnScope n_law_things p_law_things (defScope s_law_things) := ⟨rfl, rfl, rfl, by decide +kernel, rfl, by decide +kernel, by decide +kernel⟩
abbrev n_law_spots : List Str := ["_law_cell", "_law_draws_here", "_law_found", "_law_more", "_law_spot"]
abbrev p_law_spots : List Str := ["_law_cell"]
theorem sc_law_spots : FnScope n_law_spots p_law_spots (defScope s_law_spots) := ⟨rfl, rfl, rfl, by decide +kernel, rfl, by decide +kernel, by decide +kernel⟩
abbrev n_law_word : List Str := ["_law_fraction"]
abbrev p_law_word : List Str := ["_law_fraction"]
theorem sc_law_word : FnScope n_law_word p_law_word (defScope s_law_word) := ⟨rfl, rfl, rfl, by decide +kernel, rfl, by decide +kernel, by decide +kernel⟩
abbrev n_law_like : List Str := ["_law_thing_here", "_law_triangle"]
abbrev p_law_like : List Str := ["_law_thing_here", "_law_triangle"]
theorem sc_law_like : FnScope n_law_like p_law_like (defScope s_law_like) := ⟨rfl, rfl, rfl, by decide +kernel, rfl, by decide +kernel, by decide +kernel⟩
abbrev n_law_told : List Str := ["_law_state", "_law_way", "_law_number", "_law_thing_here", "_law_width", "_law_height", "_law_ground", "_law_spots_here", "_law_things_here", "_law_cuts", "_law_at", "_law_top", "_law_bottom", "_law_found", "_law_one", "_law_dx", "_law_dy", "_law_piece"]
abbrev p_law_told : List Str := ["_law_state", "_law_way", "_law_number", "_law_thing_here"]
theorem sc_law_told : FnScope n_law_told p_law_told (defScope s_law_told) := ⟨rfl, rfl, rfl, by decide +kernel, rfl, by decide +kernel, by decide +kernel⟩
abbrev n_law : List Str := ["_law_script", "_law_desk", "_law_beside", "_law_first", "_law_some", "_law_state", "_law_k", "_law_way", "_law_number", "_law_row"]
abbrev p_law : List Str := ["_law_script"]
theorem sc_law : FnScope n_law p_law (defScope s_law) := ⟨rfl, rfl, rfl, by decide +kernel, rfl, by decide +kernel, by decide +kernel⟩
abbrev n_Thing_init : List Str := ["self", "triangle", "least"]
abbrev p_Thing_init : List Str := ["self", "triangle", "least"]
theorem sc_Thing_init : FnScope n_Thing_init p_Thing_init (defScope s_Thing_init) := ⟨rfl, rfl, rfl, by decide +kernel, rfl, by decide +kernel, by decide +kernel⟩
abbrev n_Coloured_init : List Str := ["self", "triangle", "colour"]
abbrev p_Coloured_init : List Str := ["self", "triangle", "colour"]
theorem sc_Coloured_init : FnScope n_Coloured_init p_Coloured_init (defScope s_Coloured_init) := ⟨rfl, rfl, rfl, by decide +kernel, rfl, by decide +kernel, by decide +kernel⟩
abbrev n_Plain_word : List Str := ["self"]
abbrev p_Plain_word : List Str := ["self"]
theorem sc_Plain_word : FnScope n_Plain_word p_Plain_word (defScope s_Plain_word) := ⟨rfl, rfl, rfl, by decide +kernel, rfl, by decide +kernel, by decide +kernel⟩
abbrev n_Shaded_init : List Str := ["self", "triangle"]
abbrev p_Shaded_init : List Str := ["self", "triangle"]
theorem sc_Shaded_init : FnScope n_Shaded_init p_Shaded_init (defScope s_Shaded_init) := ⟨rfl, rfl, rfl, by decide +kernel, rfl, by decide +kernel, by decide +kernel⟩
abbrev n_Shaded_word : List Str := ["self"]
abbrev p_Shaded_word : List Str := ["self"]
theorem sc_Shaded_word : FnScope n_Shaded_word p_Shaded_word (defScope s_Shaded_word) := ⟨rfl, rfl, rfl, by decide +kernel, rfl, by decide +kernel, by decide +kernel⟩
abbrev n_Patterned_init : List Str := ["self", "triangle", "pattern", "row"]
abbrev p_Patterned_init : List Str := ["self", "triangle", "pattern"]
theorem sc_Patterned_init : FnScope n_Patterned_init p_Patterned_init (defScope s_Patterned_init) := ⟨rfl, rfl, rfl, by decide +kernel, rfl, by decide +kernel, by decide +kernel⟩
abbrev n_Patterned_word : List Str := ["self"]
abbrev p_Patterned_word : List Str := ["self"]
theorem sc_Patterned_word : FnScope n_Patterned_word p_Patterned_word (defScope s_Patterned_word) := ⟨rfl, rfl, rfl, by decide +kernel, rfl, by decide +kernel, by decide +kernel⟩
abbrev n_Glass_init : List Str := ["self", "triangle", "colour", "part"]
abbrev p_Glass_init : List Str := ["self", "triangle", "colour", "part"]
theorem sc_Glass_init : FnScope n_Glass_init p_Glass_init (defScope s_Glass_init) := ⟨rfl, rfl, rfl, by decide +kernel, rfl, by decide +kernel, by decide +kernel⟩
abbrev n_Glass_word : List Str := ["self"]
abbrev p_Glass_word : List Str := ["self"]
theorem sc_Glass_word : FnScope n_Glass_word p_Glass_word (defScope s_Glass_word) := ⟨rfl, rfl, rfl, by decide +kernel, rfl, by decide +kernel, by decide +kernel⟩
abbrev n_Desk_init : List Str := ["self"]
abbrev p_Desk_init : List Str := ["self"]
theorem sc_Desk_init : FnScope n_Desk_init p_Desk_init (defScope s_Desk_init) := ⟨rfl, rfl, rfl, by decide +kernel, rfl, by decide +kernel, by decide +kernel⟩
abbrev n_Desk_say : List Str := ["self", "row", "text"]
abbrev p_Desk_say : List Str := ["self", "row"]
theorem sc_Desk_say : FnScope n_Desk_say p_Desk_say (defScope s_Desk_say) := ⟨rfl, rfl, rfl, by decide +kernel, rfl, by decide +kernel, by decide +kernel⟩
abbrev n_Desk_answer : List Str := ["self", "row", "words", "place", "word"]
abbrev p_Desk_answer : List Str := ["self", "row"]
theorem sc_Desk_answer : FnScope n_Desk_answer p_Desk_answer (defScope s_Desk_answer) := ⟨rfl, rfl, rfl, by decide +kernel, rfl, by decide +kernel, by decide +kernel⟩
abbrev n_Desk_changed : List Str := ["self", "words", "width", "height", "ground", "spots", "things", "number"]
abbrev p_Desk_changed : List Str := ["self", "words"]
theorem sc_Desk_changed : FnScope n_Desk_changed p_Desk_changed (defScope s_Desk_changed) := ⟨rfl, rfl, rfl, by decide +kernel, rfl, by decide +kernel, by decide +kernel⟩
abbrev n_Desk_cut_near : List Str := ["self", "words", "top", "bottom", "found", "thing", "piece"]
abbrev p_Desk_cut_near : List Str := ["self", "words"]
theorem sc_Desk_cut_near : FnScope n_Desk_cut_near p_Desk_cut_near (defScope s_Desk_cut_near) := ⟨rfl, rfl, rfl, by decide +kernel, rfl, by decide +kernel, by decide +kernel⟩
abbrev n_Desk_word_asked : List Str := ["self", "word", "width", "height", "ground", "spots", "things"]
abbrev p_Desk_word_asked : List Str := ["self", "word"]
theorem sc_Desk_word_asked : FnScope n_Desk_word_asked p_Desk_word_asked (defScope s_Desk_word_asked) := ⟨rfl, rfl, rfl, by decide +kernel, rfl, by decide +kernel, by decide +kernel⟩
end Lk
/-! walls -/
namespace Lk
open PySem L2 DL
/-! ### what mixing keeps -/
def gcdF (p : Int) (l : List Int) : Int := l.foldl (fun p n => (Int.gcd p n : Int)) p
theorem gcdF_dvd : ∀ (l : List Int) (p : Int), gcdF p l ∣ p ∧ ∀ n ∈ l, gcdF p l ∣ n
  | [], p => ⟨Int.dvd_refl _, fun n h => by cases h⟩
  | m :: l, p => by
    obtain ⟨h1, h2⟩ := gcdF_dvd l (Int.gcd p m : Int)
    have e : gcdF p (m :: l) = gcdF (Int.gcd p m : Int) l := rfl
    rw [e]
    refine ⟨Int.dvd_trans h1 (Int.gcd_dvd_left _ _), fun n hn => ?_⟩
    rcases List.mem_cons.mp hn with rfl | hn
    · exact Int.dvd_trans h1 (Int.gcd_dvd_right _ _)
    · exact h2 n hn
theorem gcdF_nn : ∀ (l : List Int) (p : Int), 0 ≤ p → 0 ≤ gcdF p l
  | [], _, h => h
  | m :: l, p, h => gcdF_nn l (Int.gcd p m : Int) (Int.natCast_nonneg _)
theorem mixP_dvd (c1 c2 : Corner) (a b : Int) : ∀ n ∈ mixL c1 c2 a b, mixP c1 c2 a b ∣ n := fun n hn => (gcdF_dvd _ 0).2 n hn
theorem mixP_h (c1 c2 : Corner) (a b : Int) : a * c1.h + b * c2.h ∈ mixL c1 c2 a b := by
  simp [mixL, nums]
theorem mixP_w (c1 c2 : Corner) (a b : Int) : a * c1.w + b * c2.w ∈ mixL c1 c2 a b := by
  simp [mixL, nums]
theorem mixP_pos {c1 c2 : Corner} {a b : Int} (h : 0 < a * c1.h + b * c2.h) : 0 < mixP c1 c2 a b := by
  have h1 : 0 ≤ mixP c1 c2 a b := gcdF_nn _ 0 (by omega)
  have h2 := mixP_dvd c1 c2 a b _ (mixP_h c1 c2 a b)
  rcases Int.lt_or_eq_of_le h1 with h3 | h3
  · exact h3
  · rw [← h3] at h2
    have := Int.zero_dvd.mp h2
    omega
theorem div_pos_of_dvd {p n : Int} (hp : 0 < p) (hn : 0 < n) (h : p ∣ n) : 1 ≤ n / p := by
  have := Int.le_of_dvd hn h
  exact (Int.le_ediv_iff_mul_le hp).mpr (by omega)
theorem comb_pos {a b x y : Int} (ha : 0 ≤ a) (hb : 0 ≤ b) (hab : 0 < a + b) (hx : 0 < x) (hy : 0 < y) : 0 < a * x + b * y := by
  have h1 : 0 ≤ a * x := Int.mul_nonneg ha (by omega)
  have h2 : 0 ≤ b * y := Int.mul_nonneg hb (by omega)
  by_cases h : 0 < a
  · have := Int.mul_pos h hx; omega
  · have := Int.mul_pos (a := b) (by omega) hy; omega
theorem mix_okC {c1 c2 : Corner} {a b : Int} (h1 : OkC c1) (h2 : OkC c2) (ha : 0 ≤ a) (hb : 0 ≤ b) (hab : 0 < a + b) : OkC (mixM c1 c2 a b) := by
  have hh := comb_pos ha hb hab (show 0 < c1.h by have := h1.h; omega) (show 0 < c2.h by have := h2.h; omega)
  have hw := comb_pos ha hb hab h1.w h2.w
  have hp := mixP_pos hh
  refine ⟨div_pos_of_dvd hp hh (mixP_dvd _ _ _ _ _ (mixP_h _ _ _ _)), ?_, ?_⟩
  · have := div_pos_of_dvd hp hw (mixP_dvd _ _ _ _ _ (mixP_w _ _ _ _))
    show 0 < (a * c1.w + b * c2.w) / mixP c1 c2 a b
    omega
  · show (List.map _ (List.map _ (List.zip _ _))).length ≤ 3
    rw [List.length_map, List.length_map, List.length_zip]
    have := h1.vs
    omega
theorem mix_len {c1 c2 : Corner} {a b : Int} (h : c2.vs.length = c1.vs.length) : (mixM c1 c2 a b).vs.length = c1.vs.length := by
  show (List.map _ (List.map _ (List.zip _ _))).length = _
  rw [List.length_map, List.length_map, List.length_zip, h]
  omega
/-! sizes -/
structure Bd (n : Nat) (c : Corner) : Prop where
  x : c.x.natAbs < n
  y : c.y.natAbs < n
  w : c.w.natAbs < n
  h : c.h.natAbs < n
  vs : ∀ v ∈ c.vs, v.natAbs < n
theorem natAbs_ediv_le (n p : Int) (hp : 0 < p) : (n / p).natAbs ≤ n.natAbs := Int.natAbs_ediv_le_natAbs n p
theorem comb_bd {a b x y : Int} {n k : Nat} (ha : a.natAbs < k) (hb : b.natAbs < k) (hx : x.natAbs < n) (hy : y.natAbs < n) : (a * x + b * y).natAbs < 2 * (k * n) := by
  have h1 : (a * x).natAbs < k * n := by rw [Int.natAbs_mul]; exact Nat.mul_lt_mul'' ha hx
  have h2 : (b * y).natAbs < k * n := by rw [Int.natAbs_mul]; exact Nat.mul_lt_mul'' hb hy
  have := Int.natAbs_add_le (a * x) (b * y)
  omega
theorem mix_bd {c1 c2 : Corner} {a b : Int} {n k : Nat} (h1 : Bd n c1) (h2 : Bd n c2) (ha : a.natAbs < k) (hb : b.natAbs < k) (hp : 0 < mixP c1 c2 a b) : Bd (2 * (k * n)) (mixM c1 c2 a b) := by
  have key : ∀ {x y : Int}, x.natAbs < n → y.natAbs < n → ((a * x + b * y) / mixP c1 c2 a b).natAbs < 2 * (k * n) := fun hx hy => Nat.lt_of_le_of_lt (natAbs_ediv_le _ _ hp) (comb_bd ha hb hx hy)
  refine ⟨key h1.x h2.x, key h1.y h2.y, key h1.w h2.w, key h1.h h2.h, fun v hv => ?_⟩
  obtain ⟨u, hu, rfl⟩ := List.mem_map.mp hv
  obtain ⟨z, hz, rfl⟩ := List.mem_map.mp hu
  obtain ⟨h3, h4⟩ := List.of_mem_zip (a := z.1) (b := z.2) hz
  exact key (h1.vs _ h3) (h2.vs _ h4)
theorem mixP_small {c1 c2 : Corner} {a b : Int} (hh : 0 < a * c1.h + b * c2.h) (hs : (a * c1.h + b * c2.h).natAbs < 2 ^ 200) : (mixP c1 c2 a b).natAbs.log2 < 9000 := by
  have h1 := Int.le_of_dvd hh (mixP_dvd _ _ _ _ _ (mixP_h c1 c2 a b))
  have h2 := mixP_pos hh
  have h3 : (mixP c1 c2 a b).natAbs ≤ 2 ^ 200 := by omega
  exact Nat.lt_of_le_of_lt (log2_mono h3) (by rw [Nat.log2_two_pow]; decide)
theorem Bd.mono {n m : Nat} {c : Corner} (h : Bd n c) (hn : n ≤ m) : Bd m c := ⟨Nat.lt_of_lt_of_le h.x hn, Nat.lt_of_lt_of_le h.y hn, Nat.lt_of_lt_of_le h.w hn, Nat.lt_of_lt_of_le h.h hn, fun v hv => Nat.lt_of_lt_of_le (h.vs v hv) hn⟩
/-! ### the wall -/
def fm (a b : Int) (c : Corner) : Int := b * c.w - a * c.h
abbrev dW (a b : Int) : D := .tup [.int 0, .int 0, .int b, .int (0 - a)]
structure Wl (a b : Int) : Prop where
  a0 : 1 ≤ a
  a1 : a ≤ 7
  b0 : 1 ≤ b
  b1 : b ≤ 7
section
variable {g : GE} {f : Addr} {fd : FuncData}
def Rform : List D → D → Prop := fun ds d => ∃ (a b : Int) (c : Corner), ds = [dW a b, dC c] ∧ Wl a b ∧ d = .int (fm a b c)
theorem ok_form (F : FnP g "form" s_form f fd) (B : Bl g) : OkD g 1 f fd p_form Rform := by
  refine pure_def F sc_form (fun ds d ⟨a, _, _, h1, h2⟩ => by rw [h1]; rfl) ?_
  rintro ds d ⟨a, b, c, rfl, ok, rfl⟩
  have hs := ok.a0; have hs2 := ok.a1; have hs3 := ok.b0; have hs4 := ok.b1
  refine sret (cb (ac (lcx [("number", 2), ("part", 3)] [((0 : Int), c.x), (0, c.y), (b, c.w), (0 - a, c.h)] (fun z => .tup [.int z.1, .int z.2]) (fun z => .int (z.1 * z.2)) (es := [0 * c.x, 0 * c.y, b * c.w, (0 - a) * c.h].map D.int) rfl (idzT (ev 0 rfl rfl) (slT (ev 1 rfl rfl) p0 (p1 ei)) B.zip) rfl (fun z hz => te (gt (gs (gn 2) (gs (gn 3) gs0))) fun _ => em (ev 2 rfl rfl) (ev 3 rfl rfl) (.inl ?_)) (tiny_size rfl)) an) (kSum LstD.mk) B.sum) ?_
  · simp only [List.mem_cons, List.not_mem_nil, or_false] at hz
    rcases hz with rfl | rfl | rfl | rfl <;> constructor <;> simp only [] <;> omega
  · show D.int _ = D.int _
    congr 1
    simp only [List.sum_cons, List.sum_nil, fm, Int.zero_mul, Int.sub_mul]
    omega
def rot (t : Tri) : Nat → Tri
  | 0 => t
  | 1 => ⟨t.b, t.c, t.a⟩
  | _ => ⟨t.c, t.a, t.b⟩
def Rturned_to : List D → D → Prop := fun ds d => ∃ (t : Tri) (k : Nat), ds = [dT t, .int k] ∧ k < 3 ∧ d = dT (rot t k)
theorem ok_turned_to (F : FnP g "turned_to" s_turned_to f fd) : OkD g 1 f fd p_turned_to Rturned_to := by
  refine pure_def F sc_turned_to (fun ds d ⟨a, _, h1, h2⟩ => by rw [h1]; rfl) ?_
  rintro ds d ⟨t, k, rfl, hk, rfl⟩
  match k, hk with
  | 0, _ => exact sret (ebx (slT (ev 0 rfl rfl) (p1 (ev 1 rfl rfl)) p0) (slT (ev 0 rfl rfl) p0 (p1 (ev 1 rfl rfl))) (bCatT (Nat.le_of_ble_eq_true rfl))) rfl
  | 1, _ => exact sret (ebx (slT (ev 0 rfl rfl) (p1 (ev 1 rfl rfl)) p0) (slT (ev 0 rfl rfl) p0 (p1 (ev 1 rfl rfl))) (bCatT (Nat.le_of_ble_eq_true rfl))) rfl
  | 2, _ => exact sret (ebx (slT (ev 0 rfl rfl) (p1 (ev 1 rfl rfl)) p0) (slT (ev 0 rfl rfl) p0 (p1 (ev 1 rfl rfl))) (bCatT (Nat.le_of_ble_eq_true rfl))) rfl
/-! ### cut -/
def fA (a b : Int) (c : Corner) : Int := ((fm a b c).natAbs : Nat)
def ahd (a b : Int) (t : Tri) : Corner := mixM t.a t.b (fA a b t.b) (fA a b t.a)
def bhd (a b : Int) (t : Tri) : Corner := mixM t.a t.c (fA a b t.c) (fA a b t.a)
def tipT (a b : Int) (t : Tri) : List Tri := [⟨t.a, ahd a b t, bhd a b t⟩]
def restT (a b : Int) (t : Tri) : List Tri := [⟨ahd a b t, t.b, t.c⟩, ⟨ahd a b t, t.c, bhd a b t⟩]
def inB' (a b : Int) (c : Corner) : Bool := decide (0 ≤ fm a b c)
def cutM (a b : Int) (t : Tri) : List Tri × List Tri :=
  match inB' a b t.a, inB' a b t.b, inB' a b t.c with
  | true, true, true => ([t], [])
  | false, false, false => ([], [t])
  | true, false, false => (tipT a b (rot t 0), restT a b (rot t 0))
  | false, true, false => (tipT a b (rot t 1), restT a b (rot t 1))
  | false, false, true => (tipT a b (rot t 2), restT a b (rot t 2))
  | false, true, true => (restT a b (rot t 0), tipT a b (rot t 0))
  | true, false, true => (restT a b (rot t 1), tipT a b (rot t 1))
  | true, true, false => (restT a b (rot t 2), tipT a b (rot t 2))
structure OkCut (a b : Int) (t : Tri) : Prop where
  w : Wl a b
  s : ∀ c ∈ t.cs, Bd (2 ^ 48) c
  o : OkT t
theorem fm_small {a b : Int} {c : Corner} (w : Wl a b) {n : Nat} (s : Bd n c) : (fm a b c).natAbs < 16 * n := by
  have h1 := w.a0; have h2 := w.a1; have h3 := w.b0; have h4 := w.b1
  have e : fm a b c = b * c.w + (-a) * c.h := by unfold fm; rw [Int.neg_mul]; omega
  rw [e]
  have := comb_bd (a := b) (b := -a) (k := 8) (by omega) (by omega) s.w s.h
  omega
/-- two corners, one within and one without -/
theorem okMix_of {a b : Int} {c1 c2 : Corner} (w : Wl a b) (o1 : OkC c1) (o2 : OkC c2) (s1 : Bd (2 ^ 48) c1) (s2 : Bd (2 ^ 48) c2) (hd : inB' a b c1 ≠ inB' a b c2) : OkMix c1 c2 (fA a b c2) (fA a b c1) ∧ 0 < fA a b c2 + fA a b c1 := by
  have f1 := fm_small w s1
  have f2 := fm_small w s2
  have hp : 0 < fA a b c2 + fA a b c1 := by
    unfold fA inB' at *
    by_cases h1 : 0 ≤ fm a b c1 <;> by_cases h2 : 0 ≤ fm a b c2
    · exact absurd (by rw [decide_eq_true h1, decide_eq_true h2]) hd
    · omega
    · omega
    · exact absurd (by rw [decide_eq_false h1, decide_eq_false h2]) hd
  have a1 : 0 ≤ fA a b c2 := by unfold fA; omega
  have a2 : 0 ≤ fA a b c1 := by unfold fA; omega
  have a3 : fA a b c2 < 2 ^ 59 := by unfold fA; omega
  have a4 : fA a b c1 < 2 ^ 59 := by unfold fA; omega
  have hh := comb_pos a1 a2 hp (show 0 < c1.h by have := o1.h; omega) (show 0 < c2.h by have := o2.h; omega)
  have hb := comb_bd (a := fA a b c2) (b := fA a b c1) (x := c1.h) (y := c2.h) (k := 2 ^ 59) (by omega) (by omega) s1.h s2.h
  exact ⟨⟨by have := o1.vs; omega, by have := o2.vs; omega, a1, by omega, a2, by omega, mixP_pos hh, mixP_small hh (by omega)⟩, hp⟩
def Rcut : List D → D → Prop := fun ds d => ∃ (a b : Int) (t : Tri), ds = [dT t, dW a b] ∧ OkCut a b t ∧ d = .tup [.lst ((cutM a b t).1.map dT), .lst ((cutM a b t).2.map dT)]
end
end Lk
/-! cut -/
namespace Lk
open PySem L2 DL
section
variable {g : GE} {f : Addr} {fd : FuncData}
/-- the two mixes of a turned triangle that can be cut -/
structure OkTurn (a b : Int) (u : Tri) : Prop where
  m1 : OkMix u.a u.b (fA a b u.b) (fA a b u.a)
  m2 : OkMix u.a u.c (fA a b u.c) (fA a b u.a)
def cutD3 (a b : Int) (u : Tri) (one : Bool) : D := if one then .tup [.lst ((tipT a b u).map dT), .lst ((restT a b u).map dT)] else .tup [.lst ((restT a b u).map dT), .lst ((tipT a b u).map dT)]
theorem cut_tail (F : FnP g "cut" s_cut f fd) (B : Bl g) (c1 : Cal g "form" 1 (spR g.K Rform)) (c2 : Cal g "turned_to" 1 (spR g.K Rturned_to)) (c3 : Cal g "mixed" 2 (spR g.K Rmixed)) {a b : Int} {t : Tri} {fs is : List D} {k : Nat} {one : Bool} {d : D} {μ : Mu} (w : Wl a b) (hk : k < 3) (hi : is.length = if one then 1 else 2) (m : OkTurn a b (rot t k)) (hd : cutD3 a b (rot t k) one = d) (hμ : μ = []) :
    SDs ⟨g, n_cut, defScope s_cut, 3, true⟩ [some (dT t), some (dW a b), some (.lst fs), some (.lst is), some (.int k), none, none, none, none, none, none, none, none, none] μ ((defBody s_cut).drop 6) (retE d) := by
  subst hμ
  have fa : ∀ c : Corner, Rform [dW a b, dC c] (.int (fm a b c)) := fun c => ⟨a, b, c, rfl, w, rfl⟩
  generalize hu : rot t k = u at m hd
  refine sasg (cl c2 (ac (ev 0 rfl rfl) (ac (ev 4 rfl rfl) an)) ⟨t, k, rfl, hk, rfl⟩) (gt (gs (gn 5) (gs (gn 6) (gs (gn 7) gs0)))) ?_
  rw [hu]
  refine sset 8 (cl c3 (ac (ev 5 rfl rfl) (ac (ev 6 rfl rfl) (ac (cb (ac (cl c1 (ac (ev 1 rfl rfl) (ac (ev 6 rfl rfl) an)) (fa u.b)) an) kAbs B.abs) (ac (cb (ac (cl c1 (ac (ev 1 rfl rfl) (ac (ev 5 rfl rfl) an)) (fa u.a)) an) kAbs B.abs) an)))) ⟨u.a, u.b, _, _, rfl, m.m1, rfl⟩) ?_
  refine sset 9 (cl c3 (ac (ev 5 rfl rfl) (ac (ev 7 rfl rfl) (ac (cb (ac (cl c1 (ac (ev 1 rfl rfl) (ac (ev 7 rfl rfl) an)) (fa u.c)) an) kAbs B.abs) (ac (cb (ac (cl c1 (ac (ev 1 rfl rfl) (ac (ev 5 rfl rfl) an)) (fa u.a)) an) kAbs B.abs) an)))) ⟨u.a, u.c, _, _, rfl, m.m2, rfl⟩) ?_
  refine sset 10 (el (ac (et (ac (ev 5 rfl rfl) (ac (ev 8 rfl rfl) (ac (ev 9 rfl rfl) an)))) an)) ?_
  refine sset 11 (el (ac (et (ac (ev 8 rfl rfl) (ac (ev 6 rfl rfl) (ac (ev 7 rfl rfl) an)))) (ac (et (ac (ev 8 rfl rfl) (ac (ev 7 rfl rfl) (ac (ev 9 rfl rfl) an)))) an))) ?_
  cases one with
  | true =>
    refine sifT (tc (cb (ac (ev 3 rfl rfl) an) kLn B.len) ei (by rw [hi]; rfl)) ?_
    exact sret (et (ac (ev 10 rfl rfl) (ac (ev 11 rfl rfl) an))) hd
  | false =>
    refine sifN (tc (cb (ac (ev 3 rfl rfl) an) kLn B.len) ei (by rw [hi]; rfl)) ?_
    exact sret (et (ac (ev 11 rfl rfl) (ac (ev 10 rfl rfl) an))) hd
theorem eqNil {C : CxD} {ds : List D} {k : Bool} (pa : plain (.lst ds) = true) (sa : SeqAt.shaped (py (.lst ds)) = true) (hk : PyData.eqv (py (.lst ds)) (py (.lst [])) = k) : CmpD C .Eq (.lst ds) (.lst []) (.bl k) := cEqD pa rfl sa rfl hk
set_option maxHeartbeats 1000000 in
theorem ok_cut (F : FnP g "cut" s_cut f fd) (B : Bl g) (c1 : Cal g "form" 1 (spR g.K Rform)) (c2 : Cal g "turned_to" 1 (spR g.K Rturned_to)) (c3 : Cal g "mixed" 2 (spR g.K Rmixed)) : OkD g 4 f fd p_cut Rcut := by
  refine pure_def F sc_cut (fun ds d ⟨a, _, _, h1, h2⟩ => by rw [h1]; rfl) ?_
  rintro ds d ⟨a, b, t, rfl, ok, hd⟩
  have w := ok.w
  refine ssetC 2 (lcx [("corner", 12)] t.cs dC (fun c => .int (fm a b c)) rfl (idt (ev 0 rfl rfl)) rfl (fun c _ => te (gn 12) fun _ => cl c1 (ac (ev 1 rfl rfl) (ac (ev 12 rfl rfl) an)) ⟨a, b, c, rfl, w, rfl⟩) (tiny_size rfl)) ?_
  have oa := (ok.o.a); have ob := (ok.o.b); have oc := ok.o.c
  have sa := ok.s t.a (by simp); have sb := ok.s t.b (by simp); have sc := ok.s t.c (by simp)
  have mab := okMix_of w oa ob sa sb
  have mac := okMix_of w oa oc sa sc
  have mbc := okMix_of w ob oc sb sc
  have mba := okMix_of w ob oa sb sa
  have mca := okMix_of w oc oa sc sa
  have mcb := okMix_of w oc ob sc sb
  unfold cutM at hd
  obtain ⟨b0, h0⟩ : ∃ z, inB' a b t.a = z := ⟨_, rfl⟩
  obtain ⟨b1, h1⟩ : ∃ z, inB' a b t.b = z := ⟨_, rfl⟩
  obtain ⟨b2, h2⟩ : ∃ z, inB' a b t.c = z := ⟨_, rfl⟩
  rw [h0, h1, h2] at hd
  rw [h0, h1] at mab
  rw [h0, h2] at mac
  rw [h1, h2] at mbc
  rw [h0, h1] at mba
  rw [h0, h2] at mca
  rw [h1, h2] at mcb
  refine slcIf (g := fun i => if [b0, b1, b2].getD i false then some (.int i) else none) 3 [("k", 13)] (idr ei ⟨by decide, by decide⟩ B.range) ?_ (tiny_size rfl) ?_
  · intro i d hd
    match i, hd with
    | 0, hd => cases hd; exact tte (gn 13) (fun _ => TsD.one (tc (ix 0 (ev 2 rfl rfl) (ev 13 rfl rfl) rfl rfl) ei h0)) fun _ _ => ev 13 rfl rfl
    | 1, hd => cases hd; exact tte (gn 13) (fun _ => TsD.one (tc (ix 1 (ev 2 rfl rfl) (ev 13 rfl rfl) rfl rfl) ei h1)) fun _ _ => ev 13 rfl rfl
    | 2, hd => cases hd; exact tte (gn 13) (fun _ => TsD.one (tc (ix 2 (ev 2 rfl rfl) (ev 13 rfl rfl) rfl rfl) ei h2)) fun _ _ => ev 13 rfl rfl
    | n + 3, hd => cases hd
  have tl : ∀ {fs is : List D} {k : Nat} {one : Bool} {d : D}, k < 3 → is.length = (if one then 1 else 2) → OkTurn a b (rot t k) → cutD3 a b (rot t k) one = d → SDs ⟨g, n_cut, defScope s_cut, 3, true⟩ [some (dT t), some (dW a b), some (.lst fs), some (.lst is), some (.int k), none, none, none, none, none, none, none, none, none] [] ((defBody s_cut).drop 6) (retE d) := fun hk hi m hd => cut_tail F B c1 c2 c3 w hk hi m hd rfl
  clear c1 c2 c3
  cases b0 <;> cases b1 <;> cases b2
  · refine sifN (tc (cb (ac (ev 3 rfl rfl) an) kLn B.len) ei rfl) ?_
    exact sifT (tcx (ev 3 rfl rfl) (el an) (eqNil rfl rfl rfl) rfl) (sret (et (ac (el an) (ac (el (ac (ev 0 rfl rfl) an)) an))) hd.symm)
  · refine sifN (tc (cb (ac (ev 3 rfl rfl) an) kLn B.len) ei rfl) ?_
    refine sifN (tcx (ev 3 rfl rfl) (el an) (eqNil rfl rfl rfl) rfl) ?_
    refine sset 4 (ix 0 (ev 3 rfl rfl) ei rfl rfl) ?_
    refine sifN (tc (cb (ac (ev 3 rfl rfl) an) kLn B.len) ei rfl) ?_
    exact tl (k := 2) (one := true) (by decide) rfl ⟨(mca (by decide)).1, (mcb (by decide)).1⟩ hd.symm
  · refine sifN (tc (cb (ac (ev 3 rfl rfl) an) kLn B.len) ei rfl) ?_
    refine sifN (tcx (ev 3 rfl rfl) (el an) (eqNil rfl rfl rfl) rfl) ?_
    refine sset 4 (ix 0 (ev 3 rfl rfl) ei rfl rfl) ?_
    refine sifN (tc (cb (ac (ev 3 rfl rfl) an) kLn B.len) ei rfl) ?_
    exact tl (k := 1) (one := true) (by decide) rfl ⟨(mbc (by decide)).1, (mba (by decide)).1⟩ hd.symm
  · refine sifN (tc (cb (ac (ev 3 rfl rfl) an) kLn B.len) ei rfl) ?_
    refine sifN (tcx (ev 3 rfl rfl) (el an) (eqNil rfl rfl rfl) rfl) ?_
    refine sset 4 (ix 0 (ev 3 rfl rfl) ei rfl rfl) ?_
    refine sifT (tc (cb (ac (ev 3 rfl rfl) an) kLn B.len) ei rfl) (sset 4 (ED.to (eb (eb ei (ix 0 (ev 3 rfl rfl) ei rfl rfl)) (ix 1 (ev 3 rfl rfl) ei rfl rfl)) (show D.int _ = D.int ((0 : Nat) : Int) from rfl)) (s0 ?_))
    exact tl (k := 0) (one := false) (by decide) rfl ⟨(mab (by decide)).1, (mac (by decide)).1⟩ hd.symm
  · refine sifN (tc (cb (ac (ev 3 rfl rfl) an) kLn B.len) ei rfl) ?_
    refine sifN (tcx (ev 3 rfl rfl) (el an) (eqNil rfl rfl rfl) rfl) ?_
    refine sset 4 (ix 0 (ev 3 rfl rfl) ei rfl rfl) ?_
    refine sifN (tc (cb (ac (ev 3 rfl rfl) an) kLn B.len) ei rfl) ?_
    exact tl (k := 0) (one := true) (by decide) rfl ⟨(mab (by decide)).1, (mac (by decide)).1⟩ hd.symm
  · refine sifN (tc (cb (ac (ev 3 rfl rfl) an) kLn B.len) ei rfl) ?_
    refine sifN (tcx (ev 3 rfl rfl) (el an) (eqNil rfl rfl rfl) rfl) ?_
    refine sset 4 (ix 0 (ev 3 rfl rfl) ei rfl rfl) ?_
    refine sifT (tc (cb (ac (ev 3 rfl rfl) an) kLn B.len) ei rfl) (sset 4 (ED.to (eb (eb ei (ix 0 (ev 3 rfl rfl) ei rfl rfl)) (ix 1 (ev 3 rfl rfl) ei rfl rfl)) (show D.int _ = D.int ((1 : Nat) : Int) from rfl)) (s0 ?_))
    exact tl (k := 1) (one := false) (by decide) rfl ⟨(mbc (by decide)).1, (mba (by decide)).1⟩ hd.symm
  · refine sifN (tc (cb (ac (ev 3 rfl rfl) an) kLn B.len) ei rfl) ?_
    refine sifN (tcx (ev 3 rfl rfl) (el an) (eqNil rfl rfl rfl) rfl) ?_
    refine sset 4 (ix 0 (ev 3 rfl rfl) ei rfl rfl) ?_
    refine sifT (tc (cb (ac (ev 3 rfl rfl) an) kLn B.len) ei rfl) (sset 4 (ED.to (eb (eb ei (ix 0 (ev 3 rfl rfl) ei rfl rfl)) (ix 1 (ev 3 rfl rfl) ei rfl rfl)) (show D.int _ = D.int ((2 : Nat) : Int) from rfl)) (s0 ?_))
    exact tl (k := 2) (one := false) (by decide) rfl ⟨(mca (by decide)).1, (mcb (by decide)).1⟩ hd.symm
  · exact sifT (tc (cb (ac (ev 3 rfl rfl) an) kLn B.len) ei rfl) (sret (et (ac (el (ac (ev 0 rfl rfl) an)) (ac (el an) an))) hd.symm)
end
end Lk
/-! what a cut's pieces are -/
namespace Lk
open PySem L2 DL
theorem cut_cases {a b : Int} {t u : Tri} (h : u ∈ (cutM a b t).1) : u = t ∨ ∃ k, inB' a b (rot t k).a ≠ inB' a b (rot t k).b ∧ inB' a b (rot t k).a ≠ inB' a b (rot t k).c ∧ (u ∈ tipT a b (rot t k) ∨ u ∈ restT a b (rot t k)) := by
  unfold cutM at h
  cases h0 : inB' a b t.a <;> cases h1 : inB' a b t.b <;> cases h2 : inB' a b t.c <;> rw [h0, h1, h2] at h
  · cases h
  · exact .inr ⟨2, by simp [rot, h0, h2], by simp [rot, h1, h2], .inl h⟩
  · exact .inr ⟨1, by simp [rot, h1, h2], by simp [rot, h0, h1], .inl h⟩
  · exact .inr ⟨0, by simp [rot, h0, h1], by simp [rot, h0, h2], .inr h⟩
  · exact .inr ⟨0, by simp [rot, h0, h1], by simp [rot, h0, h2], .inl h⟩
  · exact .inr ⟨1, by simp [rot, h1, h2], by simp [rot, h0, h1], .inr h⟩
  · exact .inr ⟨2, by simp [rot, h0, h2], by simp [rot, h1, h2], .inr h⟩
  · exact .inl (List.mem_singleton.mp h)
theorem rot_ok {t : Tri} (ok : OkT t) (k : Nat) : OkT (rot t k) ∧ (rot t k).a.vs.length = t.a.vs.length := by
  match k with
  | 0 => exact ⟨ok, rfl⟩
  | 1 => exact ⟨⟨ok.b, ok.c, ok.a, ok.ac.trans ok.ab.symm, ok.ab.symm⟩, ok.ab⟩
  | k + 2 => exact ⟨⟨ok.c, ok.a, ok.b, ok.ac.symm, ok.ab.trans ok.ac.symm⟩, ok.ac⟩
theorem rot_mem {t : Tri} {k : Nat} {c : Corner} (h : c ∈ (rot t k).cs) : c ∈ t.cs := by
  match k with
  | 0 => exact h
  | 1 => simp only [rot, Tri.cs, List.mem_cons, List.not_mem_nil, or_false] at h ⊢; rcases h with h | h | h <;> simp [h]
  | k + 2 => simp only [rot, Tri.cs, List.mem_cons, List.not_mem_nil, or_false] at h ⊢; rcases h with h | h | h <;> simp [h]
structure Piece (n : Nat) (t u : Tri) : Prop where
  ok : OkT u
  len : u.a.vs.length = t.a.vs.length
  bd : ∀ c ∈ u.cs, Bd (2 * (16 * n * n)) c
theorem mix_piece {a b : Int} {n : Nat} {c1 c2 : Corner} (w : Wl a b) (hn : n ≤ 2 ^ 48) (o1 : OkC c1) (o2 : OkC c2) (s1 : Bd n c1) (s2 : Bd n c2) (hd : inB' a b c1 ≠ inB' a b c2) (hl : c2.vs.length = c1.vs.length) :
    OkC (mixM c1 c2 (fA a b c2) (fA a b c1)) ∧ (mixM c1 c2 (fA a b c2) (fA a b c1)).vs.length = c1.vs.length ∧ Bd (2 * (16 * n * n)) (mixM c1 c2 (fA a b c2) (fA a b c1)) := by
  obtain ⟨m, hp⟩ := okMix_of w o1 o2 (s1.mono hn) (s2.mono hn) hd
  have f1 := fm_small w s1
  have f2 := fm_small w s2
  exact ⟨mix_okC o1 o2 m.a0 m.b0 hp, mix_len hl, mix_bd s1 s2 (by unfold fA; omega) (by unfold fA; omega) m.pos⟩
theorem cut_piece {a b : Int} {n : Nat} {t u : Tri} (w : Wl a b) (h1 : 1 ≤ n) (hn : n ≤ 2 ^ 48) (ok : OkT t) (hb : ∀ c ∈ t.cs, Bd n c) (h : u ∈ (cutM a b t).1) : Piece n t u := by
  have up : n ≤ 2 * (16 * n * n) := by
    have := Nat.le_mul_of_pos_right n h1
    have e : 16 * n * n = 16 * (n * n) := Nat.mul_assoc ..
    omega
  rcases cut_cases h with rfl | ⟨k, d1, d2, h⟩
  · exact ⟨ok, rfl, fun c hc => (hb c hc).mono up⟩
  · obtain ⟨ov, hl⟩ := rot_ok ok k
    have sv : ∀ c ∈ (rot t k).cs, Bd n c := fun c hc => hb c (rot_mem hc)

    generalize rot t k = v at *
    have sa := sv v.a (by simp); have sb := sv v.b (by simp); have sc := sv v.c (by simp)
    obtain ⟨p1, p2, p3⟩ := mix_piece w hn ov.a ov.b sa sb d1 ov.ab
    obtain ⟨q1, q2, q3⟩ := mix_piece w hn ov.a ov.c sa sc d2 ov.ac
    rcases h with h | h
    · have := List.mem_singleton.mp h
      subst this
      refine ⟨⟨ov.a, p1, q1, p2, q2⟩, hl, fun c hc => ?_⟩
      simp only [Tri.cs, List.mem_cons, List.not_mem_nil, or_false] at hc
      rcases hc with rfl | rfl | rfl
      · exact sa.mono up
      · exact p3
      · exact q3
    · simp only [restT, List.mem_cons, List.not_mem_nil, or_false] at h
      rcases h with rfl | rfl
      · refine ⟨⟨p1, ov.b, ov.c, ov.ab.trans p2.symm, ov.ac.trans p2.symm⟩, p2.trans hl, fun c hc => ?_⟩
        simp only [Tri.cs, List.mem_cons, List.not_mem_nil, or_false] at hc
        rcases hc with rfl | rfl | rfl
        · exact p3
        · exact sb.mono up
        · exact sc.mono up
      · refine ⟨⟨p1, ov.c, q1, ov.ac.trans p2.symm, q2.trans p2.symm⟩, p2.trans hl, fun c hc => ?_⟩
        simp only [Tri.cs, List.mem_cons, List.not_mem_nil, or_false] at hc
        rcases hc with rfl | rfl | rfl
        · exact p3
        · exact sc.mono up
        · exact q3
end Lk
/-! patterns and things -/
namespace Lk
open PySem L2 DL
/-- a global that stands for data -/
def GS (g : GE) (x : Str) (d : D) : Prop := ∃ v u, g.mg x = some u ∧ RelV v u ∧ ∀ H, Rep g.K H d v
theorem egd {C : CxD} {δ : DS} {μ : Mu} {pos : Pos} {x : Str} {d : D} (h : GS C.g x d) (hg : glB C.sc x = true := by kernel_rfl) : ED C δ μ (.Name x pos) d := by
  obtain ⟨v, u, h1, h2, h3⟩ := h
  exact eg h1 h2 h3 hg
theorem eqF (f g : F2) : PyData.eqv (py (dF f)) (py (dF g)) = (f.1 == g.1 && f.2 == g.2) := by
  simp [py, pys, PyData.eqv, PyData.eqvAll]
theorem eqFs (f : F2) : PyData.eqv (py (dF f)) (py (dF f)) = true := by rw [eqF]; simp
theorem rat_self {f : F2} (h : OkF f) : rat f.1 f.2 = f := by
  unfold rat
  rw [h.low]
  simp
theorem log_of {n k : Nat} (h : n < 2 ^ k) (hk : k ≤ 1900) : n.log2 < 1920 := by
  by_cases h0 : n = 0
  · subst h0; decide
  · have := (Nat.log2_lt h0).mpr h
    omega
theorem OkF.sm {f : F2} (h : OkF f) : f.2.natAbs.log2 < 9000 := by
  have h1 := h.bot
  have := log_of (n := f.2.natAbs) (k := 100) (by omega) (by decide)
  omega
theorem eqRat {C : CxD} {z : F2} (ok : OkF z) : CmpD C .Eq (dF (rat z.1 z.2)) (dF z) (.bl true) := cEqD rfl rfl rfl rfl (by rw [rat_self ok]; exact eqFs z)
section
variable {g : GE} {f : Addr} {fd : FuncData}
def Ris_part : List D → D → Prop := fun ds d => ∃ z : F2, ds = [dF z] ∧ OkF z ∧ d = .bl true
theorem ok_is_part (F : FnP g "is_part" s_is_part f fd) (B : Bl g) (c1 : Cal g "ratio" 2 (spR g.K Rratio)) : OkD g 3 f fd p_is_part Ris_part := by
  refine pure_def F sc_is_part (fun ds d ⟨a, h1, h2⟩ => by rw [h1]; rfl) ?_
  rintro ds d ⟨z, rfl, ok, rfl⟩
  refine sifN (BD.td (BD.orF (tn (tv (cb (ac (ev 0 rfl rfl) (ac (ety B.tuple bt_tuple) an)) (kIsi rfl k_tt) B.isinstance) rfl) rfl)
    (BD.or1 (tc (cb (ac (ev 0 rfl rfl) an) kLn B.len) ei rfl)))) ?_
  refine sifN (tn (tv (cb (ac (lcx [("one", 1)] [z.1, z.2] D.int (fun _ => .bl true) rfl (idt (ev 0 rfl rfl)) rfl (fun x _ => te (gn 1) fun _ => ED.and (cb (ac (ev 1 rfl rfl) (ac (ety B.int bt_int) an)) (kIsi rfl k_ii) B.isinstance) fun _ => ED.one (ED.not (cb (ac (ev 1 rfl rfl) (ac (ety B.bool bt_bool) an)) (kIsi rfl k_ib) B.isinstance))) (tiny_size rfl)) an) (kAllM _) B.all) rfl) rfl) ?_
  refine sret (ED.to (ED.and (ec (ix 1 (ev 0 rfl rfl) ei rfl rfl) ei) fun _ => ED.one (ecx (cl c1 (ac (ix 0 (ev 0 rfl rfl) ei rfl rfl) (ac (ix 1 (ev 0 rfl rfl) ei rfl rfl) an)) ⟨z.1, z.2, rfl, ok.pos, ok.sm, rfl⟩) (ev 0 rfl rfl) (eqRat ok))) ?_) rfl
  rw [decide_eq_true ok.pos]
  rfl
def Rcheck_pattern : List D → D → Prop := fun ds d => ∃ p : Pat, ds = [dP p] ∧ OkP p ∧ d = .non
theorem ok_check_pattern (F : FnP g "check_pattern" s_check_pattern f fd) (B : Bl g) (hS : GS g "SIDES" (.tup (sides.map D.int))) (c1 : Cal g "is_part" 3 (spR g.K Ris_part)) : OkD g 4 f fd p_check_pattern Rcheck_pattern := by
  refine pure_def F sc_check_pattern (fun ds d ⟨a, h1, h2⟩ => by rw [h1]; rfl) ?_
  rintro ds d ⟨p, rfl, ok, rfl⟩
  have hr : (p.length : Int) ∈ sides := ok.rows
  obtain ⟨r0, ps, hp⟩ : ∃ r0 ps, p = r0 :: ps := by
    cases p with
    | nil => exact absurd hr (by decide)
    | cons r0 ps => exact ⟨r0, ps, rfl⟩
  refine sifN (BD.td (BD.orF (tn (tv (cb (ac (ev 0 rfl rfl) (ac (ety B.list bt_list) an)) (kIsi rfl k_ll) B.isinstance) rfl) rfl)
    (BD.or1 (tcx (cb (ac (ev 0 rfl rfl) an) kLn B.len) (egd hS) cNotInI (by rw [List.length_map, decide_eq_true hr]; rfl))))) ?_
  refine sfor (fun i δ μ => (∃ o, δ = [some (dP p), o, none]) ∧ μ = []) (idl (ev 0 rfl rfl)) ⟨⟨_, rfl⟩, rfl⟩ ?_ ?_
  · rintro i d δ μ hd ⟨⟨o, rfl⟩, rfl⟩
    obtain ⟨r, hr, rfl⟩ := List.mem_map.mp (List.mem_of_getElem? hd)
    have hc := ok.cols r hr
    refine ⟨_, _, gn 1, ?_⟩
    refine sifN (BD.td (BD.orF (tn (tv (cb (ac (ev 1 rfl rfl) (ac (ety B.list bt_list) an)) (kIsi rfl k_ll) B.isinstance) rfl) rfl)
      (BD.orF (tcx (cb (ac (ev 1 rfl rfl) an) kLn B.len) (egd hS) cNotInI (by rw [List.length_map, decide_eq_true hc.1]; rfl))
      (BD.or1 (tc (cb (ac (ev 1 rfl rfl) an) kLn B.len) (cb (ac (ix (d := dRow r0) 0 (ev 0 rfl rfl) ei rfl (by rw [hp]; rfl)) an) kLn B.len) (by
        have := hc.2
        rw [hp] at this
        have : r.length = r0.length := this
        simp [this])))))) ?_
    refine sifN (tn (tv (cb (ac (lcx [("one", 2)] r dF (fun _ => .bl true) rfl (idl (ev 1 rfl rfl)) rfl (fun x hx => te (gn 2) fun _ => cl c1 (ac (ev 2 rfl rfl) an) ⟨x, rfl, ok.fs r hr x hx, rfl⟩) (small_size (by
      have h1 : ∀ n ∈ sides, n ≤ 16 := by decide
      have := h1 _ hc.1
      omega))) an) (kAllM _) B.all) rfl) rfl) ?_
    exact s0 ⟨⟨_, rfl⟩, rfl⟩
  · rintro δ μ ⟨⟨o, rfl⟩, rfl⟩
    exact s0 rfl
def Ris_fraction : List D → D → Prop := fun ds d => ∃ z : F2, ds = [dF z] ∧ OkF z ∧ d = .bl true
theorem ok_is_fraction (F : FnP g "is_fraction" s_is_fraction f fd) (B : Bl g) (c0 : Cal g "is_whole" 1 (spR g.K Ris_whole)) (c1 : Cal g "ratio" 2 (spR g.K Rratio)) : OkD g 3 f fd p_is_fraction Ris_fraction := by
  refine pure_def F sc_is_fraction (fun ds d ⟨a, h1, h2⟩ => by rw [h1]; rfl) ?_
  rintro ds d ⟨z, rfl, ok, rfl⟩
  refine sifN (BD.td (BD.orF (tn (tv (cb (ac (ev 0 rfl rfl) (ac (ety B.tuple bt_tuple) an)) (kIsi rfl k_tt) B.isinstance) rfl) rfl)
    (BD.orF (tc (cb (ac (ev 0 rfl rfl) an) kLn B.len) ei rfl)
    (BD.orF (tn (tv (cl c0 (ac (ix 0 (ev 0 rfl rfl) ei rfl rfl) an) ⟨z.1, rfl, rfl⟩) rfl) rfl)
    (BD.or1 (tn (tv (cl c0 (ac (ix 1 (ev 0 rfl rfl) ei rfl rfl) an) ⟨z.2, rfl, rfl⟩) rfl) rfl)))))) ?_
  refine sret (ED.to (ED.and (ec (ix 1 (ev 0 rfl rfl) ei rfl rfl) ei) fun _ => ED.one (ecx (cl c1 (ac (ix 0 (ev 0 rfl rfl) ei rfl rfl) (ac (ix 1 (ev 0 rfl rfl) ei rfl rfl) an)) ⟨z.1, z.2, rfl, ok.pos, ok.sm, rfl⟩) (ev 0 rfl rfl) (eqRat ok))) ?_) rfl
  rw [decide_eq_true ok.pos]
  rfl
def Rrefuse : List D → D → Prop := fun ds d => ds = [.bl false] ∧ d = .non
theorem ok_refuse_thing (F : FnP g "refuse_thing" s_refuse_thing f fd) : OkD g 1 f fd p_refuse_thing Rrefuse := by
  refine pure_def F sc_refuse_thing (fun ds d ⟨h1, h2⟩ => by rw [h1]; rfl) ?_
  rintro ds d ⟨rfl, rfl⟩
  refine sifN (tv (ev 0 rfl rfl) rfl) ?_
  exact s0 rfl
theorem ok_refuse_if (F : FnP g "refuse_if" s_refuse_if f fd) : OkD g 1 f fd p_refuse_if Rrefuse := by
  refine pure_def F sc_refuse_if (fun ds d ⟨h1, h2⟩ => by rw [h1]; rfl) ?_
  rintro ds d ⟨rfl, rfl⟩
  refine sifN (tv (ev 0 rfl rfl) rfl) ?_
  exact s0 rfl
/-! ### the classes -/
/-- a class whose things are made and told -/
structure TCl (g : GE) (Cl : Addr) : Prop where
  cls : Cls g.K Cl
  tri : NoAttr g.K Cl "triangle"
  col : NoAttr g.K Cl "colour"
  pat : NoAttr g.K Cl "pattern"
  par : NoAttr g.K Cl "part"
def RThing (g : GE) : MC → List D → D → MC → Prop := fun c ds d c' => ∃ (Cl : Addr) (t : Tri) (n : Int), TCl g Cl ∧ OkT t ∧ n ≤ t.a.vs.length ∧ c = .ins Cl [] [] ∧ ds = [dT t, .int n] ∧ d = .non ∧ c' = .ins Cl ["triangle"] [dT t]
theorem ok_Thing_init (F : FnQ g "__init__" "Thing.__init__" s_Thing_init f fd) (B : Bl g) (c1 : Cal g "check_triangle" 3 (spR g.K Rcheck_triangle)) (c2 : Cal g "check_ahead" 1 (spR g.K Rcheck_ahead)) (c3 : Cal g "refuse_thing" 1 (spR g.K Rrefuse)) : OkM g 4 f fd p_Thing_init (RThing g) := by
  refine mut_def F sc_Thing_init (fun c ds d c' ⟨Cl, t, n, _, _, _, _, h, _⟩ => by rw [h]; rfl) ?_
  rintro y c ds d c' ⟨Cl, t, n, tc_, ok, hn, rfl, rfl, rfl, rfl⟩
  refine sex (cl c1 (ac (ev 1 rfl rfl) an) ⟨t, rfl, ok, rfl⟩) ?_
  refine sex (cl c2 (ac (ev 1 rfl rfl) an) ⟨t, rfl, ok, rfl⟩) ?_
  refine sex (cl c3 (ac (ec (cb (ac (ix 4 (ix 0 (ev 1 rfl rfl) ei rfl rfl) ei rfl rfl) an) kLn B.len) (ev 2 rfl rfl)) an) ⟨by rw [List.length_map, decide_eq_false (by omega)], rfl⟩) ?_
  refine sfldN 0 (ev 1 rfl rfl) (ev 0 rfl rfl) tc_.cls tc_.tri ?_
  exact s0 ⟨rfl, List.mem_singleton.mpr rfl⟩
def RColoured (g : GE) : MC → List D → D → MC → Prop := fun c ds d c' => ∃ (Cl : Addr) (t : Tri) (z : F2), TCl g Cl ∧ OkT t ∧ OkF z ∧ c = .ins Cl [] [] ∧ ds = [dT t, dF z] ∧ d = .non ∧ c' = .ins Cl ["triangle", "colour"] [dT t, dF z]
theorem ok_Coloured_init (F : FnQ g "__init__" "Coloured.__init__" s_Coloured_init f fd) (B : Bl g) (c1 : ClsFn g "Thing" "__init__" 4 (spM g.K (RThing g))) (c2 : Cal g "is_fraction" 3 (spR g.K Ris_fraction)) (c3 : Cal g "refuse_thing" 1 (spR g.K Rrefuse)) : OkM g 5 f fd p_Coloured_init (RColoured g) := by
  refine mut_def F sc_Coloured_init (fun c ds d c' ⟨Cl, t, n, _, _, _, _, h, _⟩ => by rw [h]; rfl) ?_
  rintro y c ds d c' ⟨Cl, t, z, tc_, ok, hz, rfl, rfl, rfl, rfl⟩
  refine sexX (xk 0 c1 (ac (ev 0 rfl rfl) (ac (ev 1 rfl rfl) (ac ei an))) ⟨Cl, t, 0, tc_, ok, by omega, rfl, rfl, rfl, rfl⟩ ?_)
  refine sex (cl c3 (ac (ED.not (cl c2 (ac (ev 2 rfl rfl) an) ⟨z, rfl, hz, rfl⟩)) an) ⟨rfl, rfl⟩) ?_
  refine sfldN 0 (ev 2 rfl rfl) (ev 0 rfl rfl) tc_.cls tc_.col ?_
  exact s0 ⟨rfl, List.mem_singleton.mpr rfl⟩
def RShaded (g : GE) : MC → List D → D → MC → Prop := fun c ds d c' => ∃ (Cl : Addr) (t : Tri), TCl g Cl ∧ OkT t ∧ 1 ≤ t.a.vs.length ∧ c = .ins Cl [] [] ∧ ds = [dT t] ∧ d = .non ∧ c' = .ins Cl ["triangle"] [dT t]
theorem ok_Shaded_init (F : FnQ g "__init__" "Shaded.__init__" s_Shaded_init f fd) (B : Bl g) (c1 : ClsFn g "Thing" "__init__" 4 (spM g.K (RThing g))) : OkM g 5 f fd p_Shaded_init (RShaded g) := by
  refine mut_def F sc_Shaded_init (fun c ds d c' ⟨Cl, t, _, _, _, _, h, _⟩ => by rw [h]; rfl) ?_
  rintro y c ds d c' ⟨Cl, t, tc_, ok, hn, rfl, rfl, rfl, rfl⟩
  refine sexX (xk 0 c1 (ac (ev 0 rfl rfl) (ac (ev 1 rfl rfl) (ac ei an))) ⟨Cl, t, 1, tc_, ok, by omega, rfl, rfl, rfl, rfl⟩ ?_)
  exact s0 ⟨rfl, List.mem_singleton.mpr rfl⟩
def RPatterned (g : GE) : MC → List D → D → MC → Prop := fun c ds d c' => ∃ (Cl : Addr) (t : Tri) (p : Pat), TCl g Cl ∧ OkT t ∧ 2 ≤ t.a.vs.length ∧ OkP p ∧ c = .ins Cl [] [] ∧ ds = [dT t, dP p] ∧ d = .non ∧ c' = .ins Cl ["triangle", "pattern"] [dT t, dP p]
theorem ok_Patterned_init (F : FnQ g "__init__" "Patterned.__init__" s_Patterned_init f fd) (B : Bl g) (c1 : ClsFn g "Thing" "__init__" 4 (spM g.K (RThing g))) (c2 : Cal g "check_pattern" 4 (spR g.K Rcheck_pattern)) : OkM g 5 f fd p_Patterned_init (RPatterned g) := by
  refine mut_def F sc_Patterned_init (fun c ds d c' ⟨Cl, t, _, _, _, _, _, _, h, _⟩ => by rw [h]; rfl) ?_
  rintro y c ds d c' ⟨Cl, t, p, tc_, ok, hn, hp, rfl, rfl, rfl, rfl⟩
  refine sexX (xk 0 c1 (ac (ev 0 rfl rfl) (ac (ev 1 rfl rfl) (ac ei an))) ⟨Cl, t, 2, tc_, ok, by omega, rfl, rfl, rfl, rfl⟩ ?_)
  refine sex (cl c2 (ac (ev 2 rfl rfl) an) ⟨p, rfl, hp, rfl⟩) ?_
  refine sfldN (d := dP p) 0 (lcx [("row", 3)] p dRow dRow rfl (idl (ev 2 rfl rfl)) rfl (fun r _ => te (gn 3) fun _ => ct (ac (ev 3 rfl rfl) an) kLs B.list) (small_size (by
      have h1 : ∀ n ∈ sides, n ≤ 16 := by decide
      have := h1 _ hp.rows
      omega))) (ev 0 rfl rfl) tc_.cls tc_.pat ?_
  exact s0 ⟨rfl, List.mem_singleton.mpr rfl⟩
def RGlass (g : GE) : MC → List D → D → MC → Prop := fun c ds d c' => ∃ (Cl : Addr) (t : Tri) (z p : F2), TCl g Cl ∧ OkT t ∧ OkF z ∧ OkF p ∧ 0 ≤ p.1 ∧ p.1 ≤ p.2 ∧ c = .ins Cl [] [] ∧ ds = [dT t, dF z, dF p] ∧ d = .non ∧ c' = .ins Cl ["triangle", "colour", "part"] [dT t, dF z, dF p]
theorem ok_Glass_init (F : FnQ g "__init__" "Glass.__init__" s_Glass_init f fd) (B : Bl g) (c1 : ClsFn g "Coloured" "__init__" 5 (spM g.K (RColoured g))) (c2 : Cal g "is_fraction" 3 (spR g.K Ris_fraction)) (c3 : Cal g "refuse_thing" 1 (spR g.K Rrefuse)) (c4 : Cal g "under" 1 (spR g.K Runder)) : OkM g 6 f fd p_Glass_init (RGlass g) := by
  refine mut_def F sc_Glass_init (fun c ds d c' ⟨Cl, t, n, _, _, _, _, _, _, _, _, h, _⟩ => by rw [h]; rfl) ?_
  rintro y c ds d c' ⟨Cl, t, z, p, tc_, ok, hz, hp, p0', p1', rfl, rfl, rfl, rfl⟩
  refine sexX (xk 0 c1 (ac (ev 0 rfl rfl) (ac (ev 1 rfl rfl) (ac (ev 2 rfl rfl) an))) ⟨Cl, t, z, tc_, ok, hz, rfl, rfl, rfl, rfl⟩ ?_)
  refine sex (cl c3 (ac (ED.or (ED.not (cl c2 (ac (ev 3 rfl rfl) an) ⟨p, rfl, hp, rfl⟩)) fun _ => ED.or (cl c4 (ac (ev 3 rfl rfl) (ac (et (ac ei (ac ei an))) an)) ⟨p, (0, 1), rfl, .inr (by decide), .inl (by decide), rfl⟩) fun _ => ED.one (cl c4 (ac (et (ac ei (ac ei an))) (ac (ev 3 rfl rfl) an)) ⟨(1, 1), p, rfl, .inl (by decide), .inr (by decide), rfl⟩)) an) ⟨?_, rfl⟩) ?_
  · rw [decide_eq_false (show ¬(p.1 * (0, (1 : Int)).2 < ((0 : Int), (1 : Int)).1 * p.2) by simp; omega), decide_eq_false (show ¬(((1 : Int), (1 : Int)).1 * p.2 < p.1 * ((1 : Int), (1 : Int)).2) by simp; omega)]
    rfl
  refine sfldN 0 (ev 3 rfl rfl) (ev 0 rfl rfl) tc_.cls tc_.par ?_
  exact s0 ⟨rfl, List.mem_singleton.mpr rfl⟩
def Rword (s : Str) : List D → D → Prop := fun ds d => ds.length = 1 ∧ d = .str s
theorem ok_Plain_word (F : FnQ g "word" "Plain.word" s_Plain_word f fd) : OkD g 1 f fd p_Plain_word (Rword "plain") := by
  refine pure_def F sc_Plain_word (fun ds d ⟨h1, h2⟩ => by rw [h1]; rfl) ?_
  rintro ds d ⟨h, rfl⟩
  exact sret es_ rfl
theorem ok_Shaded_word (F : FnQ g "word" "Shaded.word" s_Shaded_word f fd) : OkD g 1 f fd p_Shaded_word (Rword "shaded") := by
  refine pure_def F sc_Shaded_word (fun ds d ⟨h1, h2⟩ => by rw [h1]; rfl) ?_
  rintro ds d ⟨h, rfl⟩
  exact sret es_ rfl
theorem ok_Patterned_word (F : FnQ g "word" "Patterned.word" s_Patterned_word f fd) : OkD g 1 f fd p_Patterned_word (Rword "patterned") := by
  refine pure_def F sc_Patterned_word (fun ds d ⟨h1, h2⟩ => by rw [h1]; rfl) ?_
  rintro ds d ⟨h, rfl⟩
  exact sret es_ rfl
theorem ok_Glass_word (F : FnQ g "word" "Glass.word" s_Glass_word f fd) : OkD g 1 f fd p_Glass_word (Rword "glass") := by
  refine pure_def F sc_Glass_word (fun ds d ⟨h1, h2⟩ => by rw [h1]; rfl) ?_
  rintro ds d ⟨h, rfl⟩
  exact sret es_ rfl
end
end Lk
/-! texts of numbers -/
namespace DL
open PySem L2
section
variable {C : CxD} {δ : DS} {μ : Mu} {a b c e e2 tg iter : Expr} {pos p p2 : Pos}
theorem ID.str {z : Str} (h1 : ED C δ μ iter (.str z)) : ID C δ μ tg iter (z.cps.toList.map fun k => D.str ⟨#[k]⟩) := by
  intro X h M0 σ H s R q
  refine of_pi (pi_str (WE.pe X iter)) ?_
  refine h1 X h M0 σ H s _ fun v H1 e1 r1 => ⟨z, rep_str.mp r1, q _ H1 e1 ?_⟩
  intro M2 H2 dm e i
  refine ⟨fun d hd => ?_, fun hi => ?_⟩
  · rw [List.getElem?_map] at hd
    obtain ⟨k, hk, rfl⟩ := Option.map_eq_some_iff.mp hd
    have hk' : z.cps[i]? = some k := by rw [← Array.getElem?_toList]; exact hk
    refine ⟨?_, fun x H3 ⟨e3, c, hc, hx⟩ => ?_⟩
    · show i < z.cps.size
      exact (Array.getElem?_eq_some_iff.mp hk').1
    · subst e3
      rw [hk'] at hc
      cases hc
      rw [hx]
      exact ⟨Same.refl _, rep_str.mpr rfl⟩
  · show z.cps.size ≤ i
    rw [hi, List.length_map, Array.length_toList]
    exact Nat.le_refl _
theorem ixs {i : Int} {k : Nat} {z : Str} (j : Nat) (h1 : ED C δ μ a (.str z)) (h2 : ED C δ μ b (.int i)) (hj : i = (j : Int)) (hd : z.cps.toList[j]? = some k) (hl : z.length ≤ sizeLine) (hp : PlainIx b := by intro _ _; rfl) : ED C δ μ (.Subscript a b pos) (.str ⟨#[k]⟩) := ED.ixS h1 h2 hj hd hl hp
theorem tch {op op' : CmpOp} {da db dc : D} {k k' : Bool} (ha : ED C δ μ a da) (hb : ED C δ μ b db) (hc : ED C δ μ c dc) [ho : CmpI op da db k'] (hk' : k' = true) [ho' : CmpI op' db dc k] {k2} (hk : k = k2) (hm : lastMarks [op, op'] [b, c] = false := by with_unfolding_all rfl) :
    TD C δ μ (.Compare a [op, op'] [b, c] pos) k2 := hk ▸ TD.chainT ha hb hc (hk' ▸ ho.h _) (ho'.h _) hm
theorem BD.to {k k' : Bool} (h : BD C δ μ e k) (hk : k = k') : BD C δ μ e k' := hk ▸ h
end
end DL
namespace Lk
open PySem L2 DL
abbrev sI (i : Int) : Str := Str.ofString (toString i)
def intL (i : Int) : List Nat := if i < 0 then 45 :: TL.numL i.natAbs else TL.numL i.natAbs
theorem tl_sI (i : Int) : TL.tl (sI i) = intL i := by
  unfold intL
  cases i with
  | ofNat n =>
    rw [if_neg (by simp)]
    exact TL.tl_num n
  | negSucc n =>
    rw [if_pos (Int.negSucc_lt_zero n)]
    have e : (toString (Int.negSucc n) : String) = "-" ++ toString (n + 1) := rfl
    have e2 := TL.tl_num (n + 1)
    show TL.tl (Str.ofString (toString (Int.negSucc n))) = _
    rw [e, TL.tl_ofString, String.toList_append, List.map_append, ← TL.tl_ofString (toString (n + 1))]
    show 45 :: TL.tl (Str.ofString (toString (n + 1))) = _
    rw [show (Int.negSucc n).natAbs = n + 1 from rfl, ← e2]
    rfl
theorem numL_mem {n c : Nat} (h : c ∈ TL.numL n) : 48 ≤ c ∧ c ≤ 57 := by
  by_cases h2 : c < 48 ∨ 57 < c
  · exact absurd h (TL.numL_free h2)
  · omega
theorem intL_free {i : Int} {c : Nat} (h : c < 45 ∨ (45 < c ∧ c < 48) ∨ 57 < c) : c ∉ intL i := by
  unfold intL
  split
  · rw [List.mem_cons, not_or]
    exact ⟨by omega, TL.numL_free (by omega)⟩
  · exact TL.numL_free (by omega)
theorem intL_len {i : Int} (k : Nat) (hk : 0 < k) (h : i.natAbs < 10 ^ k) : (intL i).length ≤ k + 1 := by
  have := TL.numL_len hk h
  unfold intL
  split
  · rw [List.length_cons]; omega
  · omega
theorem sI_len {i : Int} (h : i.natAbs < 10 ^ 30) : (sI i).length ≤ 31 := by
  rw [TL.len_tl, tl_sI]
  exact intL_len 30 (by decide) h
theorem sI_num (n : Nat) : sI (n : Int) = Str.ofString (toString ((n : Nat) : Int)) := rfl
theorem sI_neg (n : Nat) : TL.tl (sI (-((n + 1 : Nat) : Int))) = 45 :: TL.numL (n + 1) := by
  rw [tl_sI]
  unfold intL
  rw [if_pos (by omega), show (-((n + 1 : Nat) : Int)).natAbs = n + 1 from by omega]
theorem numL_head : ∀ n : Nat, 0 < n → ∃ c r, TL.numL n = c :: r ∧ c ≠ 48 := by
  intro n
  induction n using Nat.strongRecOn with
  | ind n ih =>
    intro h
    by_cases h10 : n < 10
    · exact ⟨48 + n, [], TL.numL_lt h10, by omega⟩
    · obtain ⟨c, r, h1, h2⟩ := ih (n / 10) (by omega) (by omega)
      exact ⟨c, r ++ [48 + n % 10], by rw [TL.numL_step (by omega), h1]; rfl, h2⟩
theorem int_sI {i : Int} (h : i.natAbs < 10 ^ 30) : intText? (sI i) = some i := by
  have hl := TL.numL_len (k := 30) (by decide) h
  by_cases hi : i < 0
  · have e := TL.tl ⟨#[]⟩
    have e1 : (sI i).cps.toList = 45 :: TL.numL i.natAbs := by
      have := tl_sI i
      unfold intL at this
      rw [if_pos hi] at this
      exact this
    rw [intText_neg e1 (TL.numL_digits _) (TL.numL_ne _) (by have := sI_len h; omega), TL.numL_val]
    congr 1
    omega
  · obtain ⟨n, rfl⟩ : ∃ n : Nat, i = n := ⟨i.natAbs, by omega⟩
    exact TL.int_num (by have : ((n : Int)).natAbs = n := rfl; rw [this] at hl; omega)
theorem minus_tl : TL.tl "-" = [45] := by rw [TL.tl_ofString]; rfl
theorem starts_minus {x : Str} {l : List Nat} (h : TL.tl x = l) : Txt.startswith x "-" = (l.head? == some 45) := by
  subst h
  have hm : ("-" : Str).cps.toList = [45] := minus_tl
  have hl : ("-" : Str).length = 1 := by rw [TL.len_tl, minus_tl]; rfl
  unfold Txt.startswith
  rw [StrLaws.subAt_eq, hm, hl, TL.len_tl]
  show (decide (0 + 1 ≤ (TL.tl x).length) && ((TL.tl x).drop 0).take 1 == [45]) = _
  cases TL.tl x with
  | nil => rfl
  | cons c r =>
    simp only [List.length_cons, List.drop_zero, List.take_succ_cons, List.take_zero, List.head?_cons]
    have : decide (0 + 1 ≤ r.length + 1) = true := decide_eq_true (by omega)
    rw [this, Bool.true_and]
    by_cases hc : c = 45
    · subst hc; rfl
    · have h1 : ([c] == [45]) = false := by simp [hc]
      have h2 : (some c == some 45) = false := by simp [hc]
      rw [h1, h2]
section
variable {g : GE} {f : Addr} {fd : FuncData}
def Rnumber_in : List D → D → Prop := fun ds d => ∃ (i : Int) (at_ : D), ds = [.str (sI i), at_] ∧ i.natAbs < 10 ^ 30 ∧ d = .int i
theorem in_figures {c : Nat} (h1 : 48 ≤ c) (h2 : c ≤ 57) : decide (c ∈ ("0123456789" : Str).cps.toList) = true := by
  have e : ("0123456789" : Str).cps.toList = [48, 49, 50, 51, 52, 53, 54, 55, 56, 57] := TL.tl_ofString "0123456789"
  rw [e]
  apply decide_eq_true
  have : c = 48 ∨ c = 49 ∨ c = 50 ∨ c = 51 ∨ c = 52 ∨ c = 53 ∨ c = 54 ∨ c = 55 ∨ c = 56 ∨ c = 57 := by omega
  simpa using this
theorem nought_tl : TL.tl "0" = [48] := by rw [TL.tl_ofString]; rfl
theorem ok_number_in (F : FnP g "number_in" s_number_in f fd) (B : Bl g) (mF : ∃ t, g.mg "FIGURES" = some (.str "0123456789" t)) (mM : ∃ t, g.mg "MOST_FIGURES" = some (.int 30 t)) : OkD g 1 f fd p_number_in Rnumber_in := by
  refine pure_def F sc_number_in (fun ds d ⟨a, _, h1, h2⟩ => by rw [h1]; rfl) ?_
  rintro ds d ⟨i, at_, rfl, hi, rfl⟩
  have hL := TL.numL_len (k := 30) (by decide) hi
  have hlen := sI_len hi
  have tl : ∀ z : Str, TL.tl z = TL.numL i.natAbs → SDs ⟨g, n_number_in, defScope s_number_in, 0, true⟩ [some (.str (sI i)), some at_, some (.str z), none] [] ((defBody s_number_in).drop 2) (retE (.int i)) := by
    intro z hz
    have hzl : z.length = (TL.numL i.natAbs).length := by rw [TL.len_tl, hz]
    have hne := TL.numL_ne i.natAbs
    have hpos : 0 < (TL.numL i.natAbs).length := List.length_pos_iff.mpr hne
    have hsz : z.length ≤ sizeLine := Nat.le_of_lt (small_size (by omega))
    refine sifN (BD.td (BD.orF (tn (tch ei (cb (ac (ev 2 rfl rfl) an) (kLenS hsz) B.len) (egi mM) (decide_eq_true (by omega)) (decide_eq_true (by omega))) rfl) (BD.or1 (tn (tv (cb (ac (lcx [("sign", 3)] (TL.numL i.natAbs) (fun k => .str ⟨#[k]⟩) (fun _ => .bl true) rfl (ID.str (ev 2 rfl rfl)) (by rw [← hz]) (fun k hk => te (gn 3) fun _ => ED.to (ecx (ev 3 rfl rfl) (egs mF) cInSign) (by rw [in_figures (numL_mem hk).1 (numL_mem hk).2])) (small_size (by omega))) an) (kAllM _) B.all) rfl) rfl)))) ?_
    obtain ⟨c, r, hc⟩ : ∃ c r, TL.numL i.natAbs = c :: r := List.exists_cons_of_ne_nil hne
    have h0 : z.cps.toList[0]? = some c := by
      show (TL.tl z)[0]? = _
      rw [hz, hc]; rfl
    refine sifN (c := .BoolOp .And _ _) ?_ ?_
    · refine BD.td ?_
      by_cases hi0 : i = 0
      · subst hi0
        refine BD.to (BD.and (k := decide ((⟨#[c]⟩ : Str) = "0")) (tc (ixs 0 (ev 2 rfl rfl) ei rfl h0 hsz) es_ rfl) fun _ => BD.and1 (tc (ev 0 rfl rfl) es_ (k' := false) ?_)) (by simp)
        rw [decide_eq_true (show sI 0 = "0" from by kernel_rfl)]
        rfl
      · refine BD.andF (tc (ixs 0 (ev 2 rfl rfl) ei rfl h0 hsz) es_ (decide_eq_false ?_))
        obtain ⟨c', r', h1, h2⟩ := numL_head i.natAbs (by omega)
        rw [hc] at h1
        cases h1
        intro e
        have := congrArg TL.tl e
        rw [nought_tl] at this
        exact h2 (List.cons.inj this).1
    · exact sret (ct (ac (ev 0 rfl rfl) an) (kInt (int_sI hi) (by omega)) B.int) rfl
  refine sset 2 (ev 0 rfl rfl) ?_
  by_cases hneg : i < 0
  · have e1 : TL.tl (sI i) = 45 :: TL.numL i.natAbs := by rw [tl_sI]; unfold intL; rw [if_pos hneg]
    refine sifT (tv (stw (ev 0 rfl rfl) es_) (by rw [starts_minus e1]; rfl)) (sset 2 (ED.slS (ev 0 rfl rfl) (p1 ei) p0 (Nat.le_of_lt (small_size (by omega)))) (s0 ?_))
    refine tl _ ?_
    show (((sI i).cps.toList.drop _).take _) = _
    have e2 : (sI i).cps.toList = 45 :: TL.numL i.natAbs := e1
    have e3 : HT.sIx (sI i).length 0 (some 1) = 1 := by
      show HT.sIx _ 0 (some ((1 : Nat) : Int)) = 1
      rw [HT.sIx_nat, TL.len_tl, e1, List.length_cons]
      omega
    rw [e3, HT.sIx_none, e2, TL.len_tl, e1]
    simp
  · have e1 : TL.tl (sI i) = TL.numL i.natAbs := by rw [tl_sI]; unfold intL; rw [if_neg hneg]
    refine sifN (tv (stw (ev 0 rfl rfl) es_) ?_) (tl _ e1)
    rw [starts_minus e1]
    obtain ⟨c, r, hc⟩ : ∃ c r, TL.numL i.natAbs = c :: r := List.exists_cons_of_ne_nil (TL.numL_ne _)
    have := numL_mem (n := i.natAbs) (c := c) (by rw [hc]; simp)
    rw [hc]
    show (some c == some 45) = false
    simp
    omega
end
end Lk
/-! texts of fractions, patterns, corners -/
namespace Lk
open PySem L2 DL
theorem len_one {y : Str} {l : List Nat} (h : TL.tl y = l) {n : Nat} (hn : l.length = n) : y.length = n := by rw [TL.len_tl, h, hn]
def wF (f : F2) : Str := if f.2 = 1 then sI f.1 else sI f.1 ++ "/" ++ sI f.2
theorem log30 {i : Int} (h : i.natAbs < 10 ^ 30) : i.natAbs.log2 < 1920 := log_of (k := 100) (by omega) (by decide)
theorem slash_tl : TL.tl "/" = [47] := by rw [TL.tl_ofString]; rfl
theorem comma_tl : TL.tl "," = [44] := by rw [TL.tl_ofString]; rfl
theorem semi_tl : TL.tl ";" = [59] := by rw [TL.tl_ofString]; rfl
theorem blank_tl : TL.tl " " = [32] := by rw [TL.tl_ofString]; rfl
theorem bar_tl : TL.tl " / " = [32, 47, 32] := by rw [TL.tl_ofString]; rfl
theorem line_tl : TL.tl "\n" = [10] := by rw [TL.tl_ofString]; rfl
theorem slash_len : ("/" : Str).length = 1 := len_one slash_tl rfl
theorem comma_len : ("," : Str).length = 1 := len_one comma_tl rfl
theorem semi_len : (";" : Str).length = 1 := len_one semi_tl rfl
theorem blank_len : (" " : Str).length = 1 := len_one blank_tl rfl
theorem bar_len : (" / " : Str).length = 3 := len_one bar_tl rfl
theorem line_len : ("\n" : Str).length = 1 := len_one line_tl rfl
theorem lt256 {y : Str} {l : List Nat} (h : TL.tl y = l) (hl : l.all (· < 256) = true) : y.cps.all (· < 256) = true := by
  subst h
  rw [Array.all_eq_true_iff_forall_mem]
  intro x hx
  exact List.all_eq_true.mp hl x (Array.mem_toList_iff.mpr hx)
theorem len_app (x y : Str) : (x ++ y).length = x.length + y.length := by rw [TL.len_tl, TL.tl_append, List.length_append, ← TL.len_tl, ← TL.len_tl]
theorem tl_wF (f : F2) : TL.tl (wF f) = if f.2 = 1 then intL f.1 else intL f.1 ++ 47 :: intL f.2 := by
  unfold wF
  split
  · exact tl_sI _
  · rw [TL.tl_append, TL.tl_append, tl_sI, tl_sI, slash_tl, List.append_assoc]
    rfl
theorem wF_len {f : F2} (h : OkF f) : (wF f).length ≤ 63 := by
  rw [TL.len_tl, tl_wF]
  have h1 := intL_len 30 (by decide) h.top
  have h2 := intL_len 30 (by decide) h.bot
  split
  · omega
  · rw [List.length_append, List.length_cons]; omega
theorem wF_free {f : F2} {c : Nat} (h : c < 45 ∨ 57 < c) : c ∉ TL.tl (wF f) := by
  rw [tl_wF]
  have h1 := intL_free (i := f.1) (c := c) (by omega)
  have h2 := intL_free (i := f.2) (c := c) (by omega)
  split
  · exact h1
  · intro hm
    rcases List.mem_append.mp hm with hm | hm
    · exact h1 hm
    · rcases List.mem_cons.mp hm with hm | hm
      · omega
      · exact h2 hm
/-- joined words of bounded length -/
theorem sum_len (ys : List Str) (k : Nat) (h : ∀ y ∈ ys, y.length ≤ k) : (ys.map (·.length)).sum ≤ ys.length * k := by
  induction ys with
  | nil => simp
  | cons y ys ih =>
    have h1 := h y (List.mem_cons_self ..)
    have h2 := ih fun z hz => h z (List.mem_cons_of_mem _ hz)
    rw [List.map_cons, List.sum_cons, List.length_cons, Nat.succ_mul]
    omega
theorem joinL_len (S : List Nat) : ∀ (ps : List (List Nat)), (TL.joinL S ps).length ≤ (ps.map List.length).sum + ps.length * S.length
  | [] => by simp [TL.joinL]
  | [p] => by simp [TL.joinL]
  | p :: q :: r => by
    have ih := joinL_len S (q :: r)
    show (p ++ (S ++ TL.joinL S (q :: r))).length ≤ _
    rw [List.length_append, List.length_append, List.map_cons, List.sum_cons, List.length_cons, Nat.succ_mul]
    omega
theorem join_len (y : Str) (ps : List Str) (k : Nat) (h : ∀ p ∈ ps, p.length ≤ k) : (Txt.join y ps).length ≤ ps.length * (k + y.length) := by
  rw [TL.join_eq, TL.len_tl, TL.tl_join]
  have h1 := joinL_len (TL.tl y) (ps.map TL.tl)
  have h2 : (ps.map TL.tl).map List.length = ps.map (·.length) := by
    rw [List.map_map]
    exact List.map_congr_left fun p _ => (TL.len_tl p).symm
  rw [h2, List.length_map, ← TL.len_tl] at h1
  have h3 := sum_len ps k h
  rw [Nat.mul_add]
  omega
theorem joinL_free {S : List Nat} {c : Nat} (hS : c ∉ S) : ∀ {ps : List (List Nat)}, (∀ p ∈ ps, c ∉ p) → c ∉ TL.joinL S ps
  | [], _ => by simp [TL.joinL]
  | [p], h => h p (List.mem_singleton.mpr rfl)
  | p :: q :: r, h => by
    show c ∉ p ++ (S ++ TL.joinL S (q :: r))
    rw [List.mem_append, List.mem_append, not_or, not_or]
    exact ⟨h p (List.mem_cons_self ..), hS, joinL_free hS fun z hz => h z (List.mem_cons_of_mem _ hz)⟩
theorem join_free {y : Str} {l : List Nat} {c : Nat} (hy : TL.tl y = l) (hS : c ∉ l) {ps : List Str} (h : ∀ p ∈ ps, c ∉ TL.tl p) : c ∉ TL.tl (Txt.join y ps) := by
  rw [TL.join_eq, TL.tl_join, hy]
  exact joinL_free hS fun p hp => by
    obtain ⟨q, hq, rfl⟩ := List.mem_map.mp hp
    exact h q hq
theorem jz {ys : List Str} {x : Str} (n k m : Nat) (h1 : ys.length ≤ n) (h2 : ∀ y ∈ ys, y.length ≤ k) (h3 : x.length = m) (h4 : n * (k + m) ≤ 16777216) : (ys.map (·.length)).sum + ys.length * x.length ≤ 16777216 := by
  have := sum_len ys k h2
  have h5 : ys.length * (k + m) ≤ n * (k + m) := Nat.mul_le_mul_right _ h1
  have h6 : ys.length * (k + m) = ys.length * k + ys.length * m := Nat.mul_add ..
  rw [h3]
  omega
def wRow (r : List F2) : Str := Txt.join "," (r.map wF)
def wP (p : Pat) : Str := Txt.join ";" (p.map wRow)
theorem sides16 : ∀ n ∈ sides, 1 ≤ n ∧ n ≤ 16 := by decide
theorem OkP.row_len {p : Pat} (ok : OkP p) {r : List F2} (hr : r ∈ p) : 1 ≤ r.length ∧ r.length ≤ 16 := by
  have := sides16 _ (ok.cols r hr).1
  omega
theorem OkP.len {p : Pat} (ok : OkP p) : 1 ≤ p.length ∧ p.length ≤ 16 := by
  have := sides16 _ ok.rows
  omega
theorem wRow_len {r : List F2} (h : r.length ≤ 16) (hf : ∀ f ∈ r, OkF f) : (wRow r).length ≤ 1024 := by
  have h1 := join_len "," (r.map wF) 63 fun p hp => by
    obtain ⟨f, hf', rfl⟩ := List.mem_map.mp hp
    exact wF_len (hf f hf')
  rw [List.length_map, comma_len] at h1
  unfold wRow
  omega
theorem wP_len {p : Pat} (ok : OkP p) : (wP p).length ≤ 16400 := by
  have h1 := join_len ";" (p.map wRow) 1024 fun q hq => by
    obtain ⟨r, hr, rfl⟩ := List.mem_map.mp hq
    exact wRow_len (ok.row_len hr).2 (ok.fs r hr)
  rw [List.length_map, semi_len] at h1
  have := ok.len
  unfold wP
  omega
theorem wRow_free {r : List F2} {c : Nat} (h : c < 44 ∨ 57 < c) : c ∉ TL.tl (wRow r) := join_free comma_tl (by simp; omega) fun p hp => by
  obtain ⟨f, hf, rfl⟩ := List.mem_map.mp hp
  exact wF_free (by omega)
theorem wP_free {p : Pat} {c : Nat} (h : c < 44 ∨ 59 < c) : c ∉ TL.tl (wP p) := join_free semi_tl (by simp; omega) fun q hq => by
  obtain ⟨r, hr, rfl⟩ := List.mem_map.mp hq
  exact wRow_free (by omega)
def wC (c : Corner) : Str := Txt.join " " ((nums c).map sI)
theorem nums_len (c : Corner) : (nums c).length = c.vs.length + 4 := by simp [nums]
theorem nums_bd {c : Corner} {n : Nat} (h : Bd n c) : ∀ i ∈ nums c, i.natAbs < n := by
  intro i hi
  simp only [nums, List.cons_append, List.nil_append, List.mem_cons] at hi
  rcases hi with rfl | rfl | rfl | rfl | hi
  · exact h.x
  · exact h.y
  · exact h.w
  · exact h.h
  · exact h.vs _ hi
theorem wC_len {c : Corner} (h : Bd (10 ^ 30) c) (hl : c.vs.length ≤ 3) : (wC c).length ≤ 224 := by
  have h1 := join_len " " ((nums c).map sI) 31 fun p hp => by
    obtain ⟨i, hi, rfl⟩ := List.mem_map.mp hp
    exact sI_len (nums_bd h i hi)
  rw [List.length_map, nums_len, blank_len] at h1
  unfold wC
  omega
section
variable {g : GE} {f : Addr} {fd : FuncData}
def Rfraction_word : List D → D → Prop := fun ds d => ∃ z : F2, ds = [dF z] ∧ OkF z ∧ d = .str (wF z)
theorem ok_fraction_word (F : FnP g "fraction_word" s_fraction_word f fd) (B : Bl g) : OkD g 1 f fd p_fraction_word Rfraction_word := by
  refine pure_def F sc_fraction_word (fun ds d ⟨a, h1, h2⟩ => by rw [h1]; rfl) ?_
  rintro ds d ⟨z, rfl, ok, rfl⟩
  have h1 : (Str.ofString (toString z.1)).length ≤ 31 := sI_len ok.top
  have h2 : (Str.ofString (toString z.2)).length ≤ 31 := sI_len ok.bot
  unfold wF
  by_cases hz : z.2 = 1
  · refine sifT (tc (ix 1 (ev 0 rfl rfl) ei rfl rfl) ei (decide_eq_true hz)) ?_
    rw [if_pos hz]
    exact sret (ct (ac (ix 0 (ev 0 rfl rfl) ei rfl rfl) an) (kStr (log30 ok.top)) B.str) rfl
  · refine sifN (tc (ix 1 (ev 0 rfl rfl) ei rfl rfl) ei (decide_eq_false hz)) ?_
    rw [if_neg hz]
    have hb : ("/" : Str).length = 1 := len_one slash_tl rfl
    refine sret (ebx (ebx (ct (ac (ix 0 (ev 0 rfl rfl) ei rfl rfl) an) (kStr (log30 ok.top)) B.str) es_ (bAddS ?_)) (ct (ac (ix 1 (ev 0 rfl rfl) ei rfl rfl) an) (kStr (log30 ok.bot)) B.str) (bAddS ?_)) rfl
    · exact Nat.le_of_lt (small_size (by rw [hb]; omega))
    · exact Nat.le_of_lt (small_size (by rw [len_app, hb]; omega))
theorem ok_law_word (F : FnP g "_law_word" s_law_word f fd) (B : Bl g) : OkD g 1 f fd p_law_word Rfraction_word := by
  refine pure_def F sc_law_word (fun ds d ⟨a, h1, h2⟩ => by rw [h1]; rfl) ?_
  rintro ds d ⟨z, rfl, ok, rfl⟩
  have h1 : (Str.ofString (toString z.1)).length ≤ 31 := sI_len ok.top
  have h2 : (Str.ofString (toString z.2)).length ≤ 31 := sI_len ok.bot
  unfold wF
  by_cases hz : z.2 = 1
  · refine sifT (tc (ix 1 (ev 0 rfl rfl) ei rfl rfl) ei (decide_eq_true hz)) ?_
    rw [if_pos hz]
    exact sret (ct (ac (ix 0 (ev 0 rfl rfl) ei rfl rfl) an) (kStr (log30 ok.top)) B.str) rfl
  · refine sifN (tc (ix 1 (ev 0 rfl rfl) ei rfl rfl) ei (decide_eq_false hz)) ?_
    rw [if_neg hz]
    have hb : ("/" : Str).length = 1 := len_one slash_tl rfl
    refine sret (ebx (ebx (ct (ac (ix 0 (ev 0 rfl rfl) ei rfl rfl) an) (kStr (log30 ok.top)) B.str) es_ (bAddS ?_)) (ct (ac (ix 1 (ev 0 rfl rfl) ei rfl rfl) an) (kStr (log30 ok.bot)) B.str) (bAddS ?_)) rfl
    · exact Nat.le_of_lt (small_size (by rw [hb]; omega))
    · exact Nat.le_of_lt (small_size (by rw [len_app, hb]; omega))
def Rfraction_in : List D → D → Prop := fun ds d => ∃ (z : F2) (at_ : D), ds = [.str (wF z), at_] ∧ OkF z ∧ d = dF z
theorem neRat {C : CxD} {z : F2} (ok : OkF z) : CmpD C .NotEq (dF (rat z.1 z.2)) (dF z) (.bl false) := cNeD rfl rfl rfl rfl (by rw [rat_self ok, eqFs z]; rfl)
theorem sz {n : Nat} (h : n ≤ 1000000) : n ≤ sizeLine := Nat.le_of_lt (small_size h)
theorem ok_fraction_in (F : FnP g "fraction_in" s_fraction_in f fd) (B : Bl g) (c1 : Cal g "number_in" 1 (spR g.K Rnumber_in)) (c2 : Cal g "ratio" 2 (spR g.K Rratio)) : OkD g 3 f fd p_fraction_in Rfraction_in := by
  refine pure_def F sc_fraction_in (fun ds d ⟨a, _, h1, h2⟩ => by rw [h1]; rfl) ?_
  rintro ds d ⟨z, at_, rfl, ok, rfl⟩
  have hl := wF_len ok
  by_cases hz : z.2 = 1
  · have hw : wF z = sI z.1 := by unfold wF; rw [if_pos hz]
    have hp : Txt.partition (wF z) "/" = (sI z.1, Str.empty, Str.empty) := by
      rw [hw]
      exact TL.partition_none slash_tl (by rw [tl_sI]; exact intL_free (by omega))
    refine sasg (ED.to (prt (ev 0 rfl rfl) es_ (sz (by omega))) (show _ = D.tup [.str (sI z.1), .str Str.empty, .str Str.empty] from by rw [hp])) (gt (gs (gn 2) (gs (gn 3) (gs (gn 4) gs0)))) ?_
    refine sifT (tc (ev 3 rfl rfl) es_ (by kernel_rfl)) ?_
    refine sret (et (ac (cl c1 (ac (ev 2 rfl rfl) (ac (ev 1 rfl rfl) an)) ⟨z.1, _, rfl, ok.top, rfl⟩) (ac ei an))) ?_
    show D.tup [_, D.int 1] = D.tup [_, D.int z.2]
    rw [hz]
  · have hw : wF z = sI z.1 ++ "/" ++ sI z.2 := by unfold wF; rw [if_neg hz]
    have hp : Txt.partition (wF z) "/" = (sI z.1, ("/" : Str), sI z.2) := by
      rw [hw]
      exact TL.partition_app slash_tl (by rw [tl_sI]; exact intL_free (by omega))
    refine sasg (ED.to (prt (ev 0 rfl rfl) es_ (sz (by omega))) (show _ = D.tup [.str (sI z.1), .str "/", .str (sI z.2)] from by rw [hp])) (gt (gs (gn 2) (gs (gn 3) (gs (gn 4) gs0)))) ?_
    refine sifN (tc (ev 3 rfl rfl) es_ (by kernel_rfl)) ?_
    refine sset 5 (et (ac (cl c1 (ac (ev 2 rfl rfl) (ac (ev 1 rfl rfl) an)) ⟨z.1, _, rfl, ok.top, rfl⟩) (ac (cl c1 (ac (ev 4 rfl rfl) (ac (ev 1 rfl rfl) an)) ⟨z.2, _, rfl, ok.bot, rfl⟩) an))) ?_
    refine sifN (BD.td (BD.orF (tc (ix 1 (ev 5 rfl rfl) ei rfl rfl) ei (decide_eq_false (by have := ok.pos; omega))) (BD.or1 (tcx (cl c2 (ac (ix 0 (ev 5 rfl rfl) ei rfl rfl) (ac (ix 1 (ev 5 rfl rfl) ei rfl rfl) an)) ⟨z.1, z.2, rfl, ok.pos, ok.sm, rfl⟩) (ev 5 rfl rfl) (neRat ok) rfl)))) ?_
    exact sret (ev 5 rfl rfl) rfl
def Rpattern_word : List D → D → Prop := fun ds d => ∃ p : Pat, ds = [dP p] ∧ OkP p ∧ d = .str (wP p)
theorem ok_pattern_word (F : FnP g "pattern_word" s_pattern_word f fd) (c1 : Cal g "fraction_word" 1 (spR g.K Rfraction_word)) : OkD g 2 f fd p_pattern_word Rpattern_word := by
  refine pure_def F sc_pattern_word (fun ds d ⟨a, h1, h2⟩ => by rw [h1]; rfl) ?_
  rintro ds d ⟨p, rfl, ok, rfl⟩
  have hpl := ok.len
  refine sret (jn es_ (lcx [("one", 1), ("line", 2)] p dRow (fun r => .str (wRow r)) (by rw [List.map_map]; rfl) (idl (ev 0 rfl rfl)) rfl (fun r hr => te (gn 2) fun _ => jn es_ (lcx [("one", 1)] r dF (fun z => .str (wF z)) (by rw [List.map_map]; rfl) (idl (ev 2 rfl rfl)) rfl (fun z hz => te (gn 1) fun _ => cl c1 (ac (ev 1 rfl rfl) an) ⟨z, rfl, ok.fs r hr z hz, rfl⟩) (small_size (by have := ok.row_len hr; omega))) ?_) (small_size (by omega))) ?_) rfl
  · have := ok.row_len hr
    exact jz 16 63 1 (by rw [List.length_map]; omega) (fun y hy => by
      obtain ⟨z, hz, rfl⟩ := List.mem_map.mp hy
      exact wF_len (ok.fs r hr z hz)) comma_len (by decide)
  · exact jz 16 1024 1 (by rw [List.length_map]; omega) (fun y hy => by
      obtain ⟨r, hr, rfl⟩ := List.mem_map.mp hy
      exact wRow_len (ok.row_len hr).2 (ok.fs r hr)) semi_len (by decide)
def Rpattern_in : List D → D → Prop := fun ds d => ∃ (p : Pat) (at_ : D), ds = [.str (wP p), at_] ∧ OkP p ∧ d = dP p
theorem ok_pattern_in (F : FnP g "pattern_in" s_pattern_in f fd) (c1 : Cal g "fraction_in" 3 (spR g.K Rfraction_in)) : OkD g 4 f fd p_pattern_in Rpattern_in := by
  refine pure_def F sc_pattern_in (fun ds d ⟨a, _, h1, h2⟩ => by rw [h1]; rfl) ?_
  rintro ds d ⟨p, at_, rfl, ok, rfl⟩
  have hpl := ok.len
  have hsp : Txt.split (wP p) ";" = p.map wRow := TL.split_join semi_tl (lt256 semi_tl rfl) (by intro e; rw [List.map_eq_nil_iff.mp e] at hpl; exact absurd hpl.1 (by decide)) fun q hq => by
    obtain ⟨r, _, rfl⟩ := List.mem_map.mp hq
    exact wRow_free (by omega)
  refine sret (lcx [("one", 2), ("line", 3)] p (fun r => .str (wRow r)) dRow rfl (idl (sp (ev 0 rfl rfl) es_ (sz (by have := wP_len ok; omega)))) (by rw [hsp, List.map_map]; rfl) (fun r hr => te (gn 3) fun _ => lcx [("one", 2)] r (fun z => .str (wF z)) dF rfl (idl (sp (ev 3 rfl rfl) es_ (sz ?_))) ?_ (fun z hz => te (gn 2) fun _ => cl c1 (ac (ev 2 rfl rfl) (ac (ev 1 rfl rfl) an)) ⟨z, _, rfl, ok.fs r hr z hz, rfl⟩) (small_size (by have := ok.row_len hr; omega))) (small_size (by omega))) rfl
  · have := wRow_len (ok.row_len hr).2 (ok.fs r hr)
    omega
  · have hl := ok.row_len hr
    have hs : Txt.split (wRow r) "," = r.map wF := TL.split_join comma_tl (lt256 comma_tl rfl) (by intro e; rw [List.map_eq_nil_iff.mp e] at hl; exact absurd hl.1 (by decide)) fun q hq => by
      obtain ⟨z, _, rfl⟩ := List.mem_map.mp hq
      exact wF_free (by omega)
    rw [hs, List.map_map]
    rfl
structure OkW (c : Corner) : Prop where
  b : Bd (10 ^ 30) c
  l : c.vs.length ≤ 3
def Rcorner_words : List D → D → Prop := fun ds d => ∃ c : Corner, ds = [dC c] ∧ OkW c ∧ d = .str (wC c)
theorem corner_list {C : CxD} {δ : DS} {μ : Mu} : True := trivial
theorem ok_corner_words (F : FnP g "corner_words" s_corner_words f fd) (B : Bl g) : OkD g 1 f fd p_corner_words Rcorner_words := by
  refine pure_def F sc_corner_words (fun ds d ⟨a, h1, h2⟩ => by rw [h1]; rfl) ?_
  rintro ds d ⟨c, rfl, ok, rfl⟩
  have hl := ok.l
  have hn := nums_len c
  refine sret (jn es_ (lcx [("number", 1)] (nums c) D.int (fun i => .str (sI i)) (by rw [List.map_map]; rfl) (idl (ebx (ct (ac (slT (ev 0 rfl rfl) p0 (p1 ei)) an) kLs B.list) (ct (ac (ix 4 (ev 0 rfl rfl) ei rfl rfl) an) kLs B.list) (bCat (by
    show 4 + (c.vs.map D.int).length ≤ sizeLine
    rw [List.length_map]
    exact sz (by omega))))) rfl (fun i hi => te (gn 1) fun _ => ct (ac (ev 1 rfl rfl) an) (kStr (log30 (nums_bd ok.b i hi))) B.str) (small_size (by omega))) ?_) rfl
  exact jz 7 31 1 (by rw [List.length_map]; omega) (fun y hy => by
      obtain ⟨i, hi, rfl⟩ := List.mem_map.mp hy
      exact sI_len (nums_bd ok.b i hi)) blank_len (by decide)
def Rcorner_in : List D → D → Prop := fun ds d => ∃ (c : Corner) (at_ : D), ds = [.str (wC c), at_] ∧ OkW c ∧ d = dC c
theorem ok_corner_in (F : FnP g "corner_in" s_corner_in f fd) (B : Bl g) (c1 : Cal g "number_in" 1 (spR g.K Rnumber_in)) : OkD g 2 f fd p_corner_in Rcorner_in := by
  refine pure_def F sc_corner_in (fun ds d ⟨a, _, h1, h2⟩ => by rw [h1]; rfl) ?_
  rintro ds d ⟨c, at_, rfl, ok, rfl⟩
  have hl := ok.l
  have hn := nums_len c
  have hs : Txt.split (wC c) " " = (nums c).map sI := TL.split_join blank_tl (lt256 blank_tl rfl) (by intro e; rw [List.map_eq_nil_iff.mp e] at hn; simp at hn) fun q hq => by
    obtain ⟨i, _, rfl⟩ := List.mem_map.mp hq
    rw [tl_sI]
    exact intL_free (by omega)
  refine slx 2 [("word", 4)] (nums c) (fun i => .str (sI i)) D.int (idl (sp (ev 0 rfl rfl) es_ (sz (by have := wC_len ok.b ok.l; omega)))) (by rw [hs, List.map_map]; rfl) (fun i hi => te (gn 4) fun _ => cl c1 (ac (ev 4 rfl rfl) (ac (ev 1 rfl rfl) an)) ⟨i, _, rfl, nums_bd ok.b i hi, rfl⟩) (small_size (by omega)) ?_
  refine sifN (tc (cb (ac (ev 2 rfl rfl) an) kLn B.len) ei (decide_eq_false (by rw [List.length_map]; omega))) ?_
  refine sset 3 (ct (ac (slL (ev 2 rfl rfl) (p1 ei) p0) an) kTp B.tuple) ?_
  refine sret (et (ac (ix 0 (ev 2 rfl rfl) ei rfl rfl) (ac (ix 1 (ev 2 rfl rfl) ei rfl rfl) (ac (ix 2 (ev 2 rfl rfl) ei rfl rfl) (ac (ix 3 (ev 2 rfl rfl) ei rfl rfl) (ac (ev 3 rfl rfl) an)))))) ?_
  show D.tup [_, _, _, _, .tup (cutD ((nums c).map D.int) (some 4) none)] = dC c
  have e2 : cutD ((nums c).map D.int) (some 4) none = c.vs.map D.int := by
    unfold cutD nums
    have h4 : HT.sIx ((([c.x, c.y, c.w, c.h] ++ c.vs).map D.int).length) 0 (some 4) = 4 := by
      show HT.sIx _ 0 (some ((4 : Nat) : Int)) = 4
      rw [HT.sIx_nat]
      simp
    rw [h4, HT.sIx_none]
    show List.take _ (c.vs.map D.int) = _
    apply List.take_of_length_le
    simp
  rw [e2]
end
end Lk
/-! things as rows -/
namespace Lk
open PySem L2 DL
structure TG (g : GE) (A : CA) : Prop where
  plain : TCl g A.plain
  shaded : TCl g A.shaded
  patterned : TCl g A.patterned
  glass : TCl g A.glass
  mkP : Mak g "Plain" A.plain 5 (spM g.K (RColoured g))
  mkS : Mak g "Shaded" A.shaded 5 (spM g.K (RShaded g))
  mkT : Mak g "Patterned" A.patterned 5 (spM g.K (RPatterned g))
  mkG : Mak g "Glass" A.glass 6 (spM g.K (RGlass g))
  wP : Mth g A.plain "word" 1 (spR g.K (Rword "plain"))
  wS : Mth g A.shaded "word" 1 (spR g.K (Rword "shaded"))
  wT : Mth g A.patterned "word" 1 (spR g.K (Rword "patterned"))
  wG : Mth g A.glass "word" 1 (spR g.K (Rword "glass"))
section
variable {g : GE} {f : Addr} {fd : FuncData} {A : CA}
def Rlike (A : CA) : List D → D → Prop := fun ds d => ∃ (z : Thing) (t : Tri), ds = [dTh A z, dT t] ∧ OkTh z ∧ OkT t ∧ t.a.vs.length = z.t.a.vs.length ∧ d = dTh A ⟨z.k, t⟩
theorem ok_like_it (F : FnP g "like_it" s_like_it f fd) (T : TG g A) : OkD g 8 f fd p_like_it (Rlike A) := by
  refine pure_def F sc_like_it (fun ds d ⟨a, _, h1, h2⟩ => by rw [h1]; rfl) ?_
  rintro ds d ⟨⟨k, t0⟩, t, rfl, ok, ot, hl, rfl⟩
  have okk := ok.k
  rw [← hl] at okk
  cases k with
  | plain col =>
    refine sifT (tc (m0 (ev 0 rfl rfl) T.wP ⟨rfl, rfl⟩ T.plain.cls) es_ (by kernel_rfl)) ?_
    exact sret (mk T.mkP (ac (ev 1 rfl rfl) (ac (fl 1 (ev 0 rfl rfl) T.plain.cls T.plain.col rfl) an)) ⟨_, t, col, T.plain, ot, okk, rfl, rfl, rfl, rfl⟩) rfl
  | shaded =>
    refine sifN (tc (m0 (ev 0 rfl rfl) T.wS ⟨rfl, rfl⟩ T.shaded.cls) es_ (by kernel_rfl)) ?_
    refine sifT (tc (m0 (ev 0 rfl rfl) T.wS ⟨rfl, rfl⟩ T.shaded.cls) es_ (by kernel_rfl)) ?_
    exact sret (mk T.mkS (ac (ev 1 rfl rfl) an) ⟨_, t, T.shaded, ot, okk, rfl, rfl, rfl, rfl⟩) rfl
  | patterned p =>
    refine sifN (tc (m0 (ev 0 rfl rfl) T.wT ⟨rfl, rfl⟩ T.patterned.cls) es_ (by kernel_rfl)) ?_
    refine sifN (tc (m0 (ev 0 rfl rfl) T.wT ⟨rfl, rfl⟩ T.patterned.cls) es_ (by kernel_rfl)) ?_
    refine sifT (tc (m0 (ev 0 rfl rfl) T.wT ⟨rfl, rfl⟩ T.patterned.cls) es_ (by kernel_rfl)) ?_
    exact sret (mk T.mkT (ac (ev 1 rfl rfl) (ac (fl 1 (ev 0 rfl rfl) T.patterned.cls T.patterned.pat rfl) an)) ⟨_, t, p, T.patterned, ot, okk.1, okk.2, rfl, rfl, rfl, rfl⟩) rfl
  | glass col p =>
    refine sifN (tc (m0 (ev 0 rfl rfl) T.wG ⟨rfl, rfl⟩ T.glass.cls) es_ (by kernel_rfl)) ?_
    refine sifN (tc (m0 (ev 0 rfl rfl) T.wG ⟨rfl, rfl⟩ T.glass.cls) es_ (by kernel_rfl)) ?_
    refine sifN (tc (m0 (ev 0 rfl rfl) T.wG ⟨rfl, rfl⟩ T.glass.cls) es_ (by kernel_rfl)) ?_
    exact sret (mk T.mkG (ac (ev 1 rfl rfl) (ac (fl 1 (ev 0 rfl rfl) T.glass.cls T.glass.col rfl) (ac (fl 2 (ev 0 rfl rfl) T.glass.cls T.glass.par rfl) an))) ⟨_, t, col, p, T.glass, ot, okk.1, okk.2.1, okk.2.2.1, okk.2.2.2, rfl, rfl, rfl, rfl⟩) rfl
theorem ok_law_like (F : FnP g "_law_like" s_law_like f fd) (T : TG g A) : OkD g 8 f fd p_law_like (Rlike A) := by
  refine pure_def F sc_law_like (fun ds d ⟨a, _, h1, h2⟩ => by rw [h1]; rfl) ?_
  rintro ds d ⟨⟨k, t0⟩, t, rfl, ok, ot, hl, rfl⟩
  have okk := ok.k
  rw [← hl] at okk
  cases k with
  | glass col p =>
    refine sifT (tc (m0 (ev 0 rfl rfl) T.wG ⟨rfl, rfl⟩ T.glass.cls) es_ (by kernel_rfl)) ?_
    exact sret (mk T.mkG (ac (ev 1 rfl rfl) (ac (fl 1 (ev 0 rfl rfl) T.glass.cls T.glass.col rfl) (ac (fl 2 (ev 0 rfl rfl) T.glass.cls T.glass.par rfl) an))) ⟨_, t, col, p, T.glass, ot, okk.1, okk.2.1, okk.2.2.1, okk.2.2.2, rfl, rfl, rfl, rfl⟩) rfl
  | plain col =>
    refine sifN (tc (m0 (ev 0 rfl rfl) T.wP ⟨rfl, rfl⟩ T.plain.cls) es_ (by kernel_rfl)) ?_
    refine sifT (tc (m0 (ev 0 rfl rfl) T.wP ⟨rfl, rfl⟩ T.plain.cls) es_ (by kernel_rfl)) ?_
    exact sret (mk T.mkP (ac (ev 1 rfl rfl) (ac (fl 1 (ev 0 rfl rfl) T.plain.cls T.plain.col rfl) an)) ⟨_, t, col, T.plain, ot, okk, rfl, rfl, rfl, rfl⟩) rfl
  | shaded =>
    refine sifN (tc (m0 (ev 0 rfl rfl) T.wS ⟨rfl, rfl⟩ T.shaded.cls) es_ (by kernel_rfl)) ?_
    refine sifN (tc (m0 (ev 0 rfl rfl) T.wS ⟨rfl, rfl⟩ T.shaded.cls) es_ (by kernel_rfl)) ?_
    refine sifT (tc (m0 (ev 0 rfl rfl) T.wS ⟨rfl, rfl⟩ T.shaded.cls) es_ (by kernel_rfl)) ?_
    exact sret (mk T.mkS (ac (ev 1 rfl rfl) an) ⟨_, t, T.shaded, ot, okk, rfl, rfl, rfl, rfl⟩) rfl
  | patterned p =>
    refine sifN (tc (m0 (ev 0 rfl rfl) T.wT ⟨rfl, rfl⟩ T.patterned.cls) es_ (by kernel_rfl)) ?_
    refine sifN (tc (m0 (ev 0 rfl rfl) T.wT ⟨rfl, rfl⟩ T.patterned.cls) es_ (by kernel_rfl)) ?_
    refine sifN (tc (m0 (ev 0 rfl rfl) T.wT ⟨rfl, rfl⟩ T.patterned.cls) es_ (by kernel_rfl)) ?_
    exact sret (mk T.mkT (ac (ev 1 rfl rfl) (ac (fl 1 (ev 0 rfl rfl) T.patterned.cls T.patterned.pat rfl) an)) ⟨_, t, p, T.patterned, ot, okk.1, okk.2, rfl, rfl, rfl, rfl⟩) rfl
/-! ### rows -/
def wH : Kind → Str
  | .plain col => "plain" ++ " " ++ wF col
  | .shaded => "shaded"
  | .patterned p => "patterned" ++ " " ++ wP p
  | .glass col p => "glass" ++ " " ++ wF col ++ " " ++ wF p
def wT (z : Thing) : Str := Txt.join " / " [wH z.k, wC z.t.a, wC z.t.b, wC z.t.c]
theorem plain_tl : TL.tl "plain" = [112, 108, 97, 105, 110] := by rw [TL.tl_ofString]; rfl
theorem shaded_tl : TL.tl "shaded" = [115, 104, 97, 100, 101, 100] := by rw [TL.tl_ofString]; rfl
theorem patterned_tl : TL.tl "patterned" = [112, 97, 116, 116, 101, 114, 110, 101, 100] := by rw [TL.tl_ofString]; rfl
theorem glass_tl : TL.tl "glass" = [103, 108, 97, 115, 115] := by rw [TL.tl_ofString]; rfl
theorem plain_len : ("plain" : Str).length = 5 := len_one plain_tl rfl
theorem shaded_len : ("shaded" : Str).length = 6 := len_one shaded_tl rfl
theorem patterned_len : ("patterned" : Str).length = 9 := len_one patterned_tl rfl
theorem glass_len : ("glass" : Str).length = 5 := len_one glass_tl rfl
theorem app2_len {x y z : Str} {a b c : Nat} (hx : x.length = a) (hy : y.length = b) (hz : z.length ≤ c) : (x ++ y ++ z).length ≤ a + b + c := by
  rw [len_app, len_app, hx, hy]
  exact Nat.add_le_add_left hz _
theorem wH_len {n : Nat} {k : Kind} (h : OkK n k) : (wH k).length ≤ 16500 := by
  cases k with
  | plain col =>
    have := wF_len (f := col) h
    exact Nat.le_trans (app2_len plain_len blank_len this) (Nat.le_of_ble_eq_true rfl)
  | shaded =>
    exact Nat.le_trans (Nat.le_of_eq shaded_len) (Nat.le_of_ble_eq_true rfl)
  | patterned p =>
    have := wP_len h.2
    exact Nat.le_trans (app2_len patterned_len blank_len this) (Nat.le_of_ble_eq_true rfl)
  | glass col p =>
    have h1 := wF_len h.1
    have h2 := wF_len h.2.1
    have h3 := app2_len glass_len blank_len h1
    have h4 := len_app (("glass" : Str) ++ " " ++ wF col ++ " ") (wF p)
    have h5 := len_app (("glass" : Str) ++ " " ++ wF col) " "
    have h6 := blank_len
    refine Nat.le_trans (Nat.le_of_eq h4) ?_
    omega
structure OkWT (z : Thing) : Prop where
  o : OkTh z
  s : ∀ c ∈ z.t.cs, OkW c
theorem wT_len {z : Thing} (h : OkWT z) : (wT z).length ≤ 70000 := by
  have h1 := join_len " / " [wH z.k, wC z.t.a, wC z.t.b, wC z.t.c] 16500 fun p hp => by
    simp only [List.mem_cons, List.not_mem_nil, or_false] at hp
    have k : ∀ c ∈ z.t.cs, (wC c).length ≤ 16500 := fun c hc => by
      have := wC_len (h.s c hc).b (h.s c hc).l
      omega
    rcases hp with rfl | rfl | rfl | rfl
    · exact wH_len h.o.k
    · exact k _ (by simp)
    · exact k _ (by simp)
    · exact k _ (by simp)
  simp only [bar_len] at h1
  simp only [List.length_cons, List.length_nil] at h1
  unfold wT
  omega
def Rhead_of (A : CA) : List D → D → Prop := fun ds d => ∃ z : Thing, ds = [dTh A z] ∧ OkTh z ∧ d = .str (wH z.k)
theorem ok_head_of (F : FnP g "head_of" s_head_of f fd) (T : TG g A) (c1 : Cal g "fraction_word" 1 (spR g.K Rfraction_word)) (c2 : Cal g "pattern_word" 2 (spR g.K Rpattern_word)) : OkD g 3 f fd p_head_of (Rhead_of A) := by
  refine pure_def F sc_head_of (fun ds d ⟨a, h1, h2⟩ => by rw [h1]; rfl) ?_
  rintro ds d ⟨⟨k, t⟩, rfl, ok, rfl⟩
  have okk := ok.k
  cases k with
  | plain col =>
    have h1 := wF_len (f := col) okk
    refine sset 1 (m0 (ev 0 rfl rfl) T.wP ⟨rfl, rfl⟩ T.plain.cls) ?_
    refine sifT (tc (ev 1 rfl rfl) es_ (by kernel_rfl)) ?_
    exact sret (ebx (ebx (ev 1 rfl rfl) es_ (bAddS (sz (by simp only [plain_len, blank_len]; omega)))) (cl c1 (ac (fl 1 (ev 0 rfl rfl) T.plain.cls T.plain.col rfl) an) ⟨col, rfl, okk, rfl⟩) (bAddS (sz (by simp only [len_app, plain_len, blank_len]; omega)))) rfl
  | shaded =>
    refine sset 1 (m0 (ev 0 rfl rfl) T.wS ⟨rfl, rfl⟩ T.shaded.cls) ?_
    refine sifN (tc (ev 1 rfl rfl) es_ (by kernel_rfl)) ?_
    refine sifN (tc (ev 1 rfl rfl) es_ (by kernel_rfl)) ?_
    refine sifN (tc (ev 1 rfl rfl) es_ (by kernel_rfl)) ?_
    exact sret (ev 1 rfl rfl) rfl
  | patterned p =>
    have h1 := wP_len okk.2
    refine sset 1 (m0 (ev 0 rfl rfl) T.wT ⟨rfl, rfl⟩ T.patterned.cls) ?_
    refine sifN (tc (ev 1 rfl rfl) es_ (by kernel_rfl)) ?_
    refine sifT (tc (ev 1 rfl rfl) es_ (by kernel_rfl)) ?_
    exact sret (ebx (ebx (ev 1 rfl rfl) es_ (bAddS (sz (by simp only [patterned_len, blank_len]; omega)))) (cl c2 (ac (fl 1 (ev 0 rfl rfl) T.patterned.cls T.patterned.pat rfl) an) ⟨p, rfl, okk.2, rfl⟩) (bAddS (sz (by simp only [len_app, patterned_len, blank_len]; omega)))) rfl
  | glass col p =>
    have h1 := wF_len okk.1
    have h2 := wF_len okk.2.1
    refine sset 1 (m0 (ev 0 rfl rfl) T.wG ⟨rfl, rfl⟩ T.glass.cls) ?_
    refine sifN (tc (ev 1 rfl rfl) es_ (by kernel_rfl)) ?_
    refine sifN (tc (ev 1 rfl rfl) es_ (by kernel_rfl)) ?_
    refine sifT (tc (ev 1 rfl rfl) es_ (by kernel_rfl)) ?_
    exact sret (ebx (ebx (ebx (ebx (ev 1 rfl rfl) es_ (bAddS (sz (by simp only [glass_len, blank_len]; omega)))) (cl c1 (ac (fl 1 (ev 0 rfl rfl) T.glass.cls T.glass.col rfl) an) ⟨col, rfl, okk.1, rfl⟩) (bAddS (sz (by simp only [len_app, glass_len, blank_len]; omega)))) es_ (bAddS (sz (by simp only [len_app, len_app, glass_len, blank_len]; omega)))) (cl c1 (ac (fl 2 (ev 0 rfl rfl) T.glass.cls T.glass.par rfl) an) ⟨p, rfl, okk.2.1, rfl⟩) (bAddS (sz (by simp only [len_app, len_app, len_app, glass_len, blank_len]; omega)))) rfl
def Rthing_text (A : CA) : List D → D → Prop := fun ds d => ∃ z : Thing, ds = [dTh A z] ∧ OkWT z ∧ d = .str (wT z)
theorem tri_of {C : CxD} {δ : DS} {μ : Mu} {o : Expr} {apos : Pos} {z : Thing} (T : TG C.g A) (h1 : ED C δ μ o (dTh A z)) (hb : ∀ env, attributeBase o "triangle" env (eval o env) = eval o env := by intro _; rfl) : ED C δ μ (.Attribute o "triangle" apos) (dT z.t) := by
  obtain ⟨k, t⟩ := z
  cases k with
  | plain col => exact fl (ns := ["triangle", "colour"]) 0 h1 T.plain.cls T.plain.tri rfl (by kernel_rfl) hb
  | shaded => exact fl (ns := ["triangle"]) 0 h1 T.shaded.cls T.shaded.tri rfl (by kernel_rfl) hb
  | patterned p => exact fl (ns := ["triangle", "pattern"]) 0 h1 T.patterned.cls T.patterned.tri rfl (by kernel_rfl) hb
  | glass col p => exact fl (ns := ["triangle", "colour", "part"]) 0 h1 T.glass.cls T.glass.tri rfl (by kernel_rfl) hb
theorem triX {C : CxD} {δ : DS} {μ : Mu} {o : Expr} {x : Str} {apos : Pos} {z : Thing} (T : TG C.g A) (h1 : ED C δ μ o (dTh A z)) (hx : x = "triangle" := by kernel_rfl) (hb : ∀ env, attributeBase o x env (eval o env) = eval o env := by intro _; rfl) : ED C δ μ (.Attribute o x apos) (dT z.t) := by
  subst hx
  exact tri_of T h1 hb
theorem ok_thing_text (F : FnP g "thing_text" s_thing_text f fd) (T : TG g A) (c1 : Cal g "head_of" 3 (spR g.K (Rhead_of A))) (c2 : Cal g "corner_words" 1 (spR g.K Rcorner_words)) : OkD g 4 f fd p_thing_text (Rthing_text A) := by
  refine pure_def F sc_thing_text (fun ds d ⟨a, h1, h2⟩ => by rw [h1]; rfl) ?_
  rintro ds d ⟨z, rfl, ok, rfl⟩
  refine sret (jn es_ (ED.to (ebx (el (ac (cl c1 (ac (ev 0 rfl rfl) an) ⟨z, rfl, ok.o, rfl⟩) an)) (lcx [("corner", 1)] z.t.cs dC (fun c => .str (wC c)) rfl (idt (triX T (ev 0 rfl rfl))) rfl (fun c hc => te (gn 1) fun _ => cl c2 (ac (ev 1 rfl rfl) an) ⟨c, rfl, ok.s c hc, rfl⟩) (tiny_size rfl)) (bCat (Nat.le_of_ble_eq_true rfl))) (show _ = D.lst ([wH z.k, wC z.t.a, wC z.t.b, wC z.t.c].map D.str) from rfl)) ?_) rfl
  refine jz 4 16500 3 (Nat.le_refl _) (fun y hy => ?_) bar_len (by decide)
  simp only [List.mem_cons, List.not_mem_nil, or_false] at hy
  have k : ∀ c ∈ z.t.cs, (wC c).length ≤ 16500 := fun c hc => by
    have := wC_len (ok.s c hc).b (ok.s c hc).l
    omega
  rcases hy with rfl | rfl | rfl | rfl
  · exact wH_len ok.o.k
  · exact k _ (by simp)
  · exact k _ (by simp)
  · exact k _ (by simp)
end
end Lk
/-! a row read as a thing -/
namespace Lk
open PySem L2 DL
/-- no blank ahead of a slash -/
def nb : List Nat → Bool
  | [] => true
  | c :: r => !(c == 32 && r.head? == some 47) && nb r
theorem nb_free : ∀ {w : List Nat}, 32 ∉ w → nb w = true
  | [], _ => rfl
  | c :: r, h => by
    have h1 : c ≠ 32 := fun e => h (e ▸ List.mem_cons_self ..)
    have h2 : nb r = true := nb_free fun z => h (List.mem_cons_of_mem _ z)
    unfold nb
    rw [h2]
    simp [h1]
theorem nb_app : ∀ {w r : List Nat}, 32 ∉ w → nb r = true → r.head? ≠ some 47 → nb (w ++ 32 :: r) = true
  | [], r, _, h, h2 => by
    show nb (32 :: r) = true
    unfold nb
    rw [h]
    simp [h2]
  | c :: w, r, h, h3, h4 => by
    have h1 : c ≠ 32 := fun e => h (e ▸ List.mem_cons_self ..)
    have h2 : nb (w ++ 32 :: r) = true := nb_app (fun z => h (List.mem_cons_of_mem _ z)) h3 h4
    show nb (c :: (w ++ 32 :: r)) = true
    unfold nb
    rw [h2]
    simp [h1]
theorem nb_free_of : ∀ {p : List Nat} (q : List Nat), nb p = true → ∀ i, i < p.length → TL.pre [32, 47, 32] ((p ++ ([32, 47, 32] ++ q)).drop i) = false
  | [], _, _, i, h => absurd h (Nat.not_lt_zero i)
  | c :: r, q, h, i, hi => by
    unfold nb at h
    rw [Bool.and_eq_true] at h
    cases i with
    | zero =>
      show TL.pre [32, 47, 32] (c :: (r ++ ([32, 47, 32] ++ q))) = false
      by_cases hc : c = 32
      · subst hc
        cases r with
        | nil => simp [TL.pre]
        | cons d r =>
          have h1 := h.1
          have hd : d ≠ 47 := by
            intro e
            subst e
            simp at h1
          simp [TL.pre, hd]
      · exact TL.pre_of_head _ _ hc
    | succ i => exact nb_free_of q h.2 i (Nat.lt_of_succ_lt_succ hi)
theorem nb_last {p : List Nat} (h : nb p = true) : ∀ i, i < p.length → TL.pre [32, 47, 32] (p.drop i) = false := by
  induction p with
  | nil => intro i hi; exact absurd hi (Nat.not_lt_zero i)
  | cons c r ih =>
    intro i hi
    unfold nb at h
    rw [Bool.and_eq_true] at h
    cases i with
    | zero =>
      show TL.pre [32, 47, 32] (c :: r) = false
      by_cases hc : c = 32
      · subst hc
        cases r with
        | nil => simp [TL.pre]
        | cons d r =>
          have h1 := h.1
          have hd : d ≠ 47 := by
            intro e
            subst e
            simp at h1
          simp [TL.pre, hd]
      · exact TL.pre_of_head _ _ hc
    | succ i => exact ih h.2 i (Nat.lt_of_succ_lt_succ hi)
theorem spl_nb : ∀ {parts : List (List Nat)}, parts ≠ [] → (∀ p ∈ parts, nb p = true) → TL.spl [32, 47, 32] 0 [] (TL.joinL [32, 47, 32] parts) = parts
  | [], h, _ => absurd rfl h
  | [p], _, hp => by
    show TL.spl [32, 47, 32] 0 [] p = [p]
    rw [TL.spl_last (nb_last (hp p (List.mem_singleton.mpr rfl))), List.nil_append]
  | p :: q :: r, _, hp => by
    show TL.spl [32, 47, 32] 0 [] (p ++ ([32, 47, 32] ++ TL.joinL [32, 47, 32] (q :: r))) = p :: q :: r
    rw [TL.spl_part (by simp) (nb_free_of _ (hp p (List.mem_cons_self ..))), List.nil_append, spl_nb (by simp) fun z hz => hp z (List.mem_cons_of_mem _ hz)]
theorem split_bar {parts : List Str} (hne : parts ≠ []) (hp : ∀ p ∈ parts, nb (TL.tl p) = true) : Txt.split (Txt.join " / " parts) " / " = parts := by
  refine TL.map_tl_inj ?_
  rw [TL.split_spl _ _ (by rw [bar_tl]; simp) (TL.kind_ok (lt256 bar_tl rfl)), TL.join_eq, TL.tl_join, bar_tl]
  refine spl_nb (fun e => hne (List.map_eq_nil_iff.mp e)) fun p h => ?_
  obtain ⟨z, hz, rfl⟩ := List.mem_map.mp h
  exact hp z hz
/-- words with blanks between, none begins with a slash -/
theorem nb_words : ∀ {ws : List (List Nat)}, (∀ w ∈ ws, 32 ∉ w ∧ w ≠ [] ∧ w.head? ≠ some 47) → nb (TL.joinL [32] ws) = true
  | [], _ => rfl
  | [w], h => nb_free (h w (List.mem_singleton.mpr rfl)).1
  | w :: v :: r, h => by
    show nb (w ++ ([32] ++ TL.joinL [32] (v :: r))) = true
    have hv := h v (by simp)
    refine nb_app (h w (List.mem_cons_self ..)).1 (nb_words fun z hz => h z (List.mem_cons_of_mem _ hz)) ?_
    cases r with
    | nil => exact hv.2.2
    | cons u r =>
      show (v ++ ([32] ++ TL.joinL [32] (u :: r))).head? ≠ some 47
      obtain ⟨c, s, hc⟩ := List.exists_cons_of_ne_nil hv.2.1
      rw [hc]
      have := hv.2.2
      rw [hc] at this
      exact this
theorem nb_join {ws : List Str} (h : ∀ w ∈ ws, 32 ∉ TL.tl w ∧ TL.tl w ≠ [] ∧ (TL.tl w).head? ≠ some 47) : nb (TL.tl (Txt.join " " ws)) = true := by
  rw [TL.join_eq, TL.tl_join, blank_tl]
  refine nb_words fun w hw => ?_
  obtain ⟨z, hz, rfl⟩ := List.mem_map.mp hw
  exact h z hz
theorem head_free {l : List Nat} (h : 47 ∉ l.take 1) : l.head? ≠ some 47 := by
  cases l with
  | nil => simp
  | cons c r => intro e; simp at e; subst e; simp at h
theorem intL_ne (i : Int) : intL i ≠ [] := by
  unfold intL
  split
  · simp
  · exact TL.numL_ne _
theorem intL_head (i : Int) : (intL i).head? ≠ some 47 := fun e => by
  have hm : 47 ∈ intL i := List.mem_of_mem_head? (by rw [e]; rfl)
  exact intL_free (by omega) hm
theorem wF_ne (f : F2) : TL.tl (wF f) ≠ [] := by
  rw [tl_wF]
  split
  · exact intL_ne _
  · simp
theorem wF_head (f : F2) : (TL.tl (wF f)).head? ≠ some 47 := by
  rw [tl_wF]
  split
  · exact intL_head _
  · have h1 := intL_ne f.1
    have h2 := intL_head f.1
    obtain ⟨c, s, hc⟩ := List.exists_cons_of_ne_nil h1
    rw [hc] at h2 ⊢
    exact h2
theorem join_head {y : Str} {p : Str} {r : List Str} (hp : TL.tl p ≠ []) (h : (TL.tl p).head? ≠ some 47) : (TL.tl (Txt.join y (p :: r))).head? ≠ some 47 ∧ TL.tl (Txt.join y (p :: r)) ≠ [] := by
  rw [TL.join_eq, TL.tl_join]
  obtain ⟨c, s, hc⟩ := List.exists_cons_of_ne_nil hp
  rw [hc] at h
  cases r with
  | nil =>
    show (TL.tl p).head? ≠ some 47 ∧ TL.tl p ≠ []
    rw [hc]
    exact ⟨h, by simp⟩
  | cons q r =>
    show (TL.tl p ++ _).head? ≠ some 47 ∧ (TL.tl p ++ _) ≠ []
    rw [hc]
    exact ⟨h, by simp⟩
theorem wRow_ok {r : List F2} (h : 1 ≤ r.length) : (TL.tl (wRow r)).head? ≠ some 47 ∧ TL.tl (wRow r) ≠ [] := by
  cases r with
  | nil => exact absurd h (by decide)
  | cons f r => exact join_head (wF_ne f) (wF_head f)
theorem wP_ok {p : Pat} (ok : OkP p) : (TL.tl (wP p)).head? ≠ some 47 ∧ TL.tl (wP p) ≠ [] := by
  have hl := ok.len
  cases p with
  | nil => exact absurd hl.1 (by decide)
  | cons r p =>
    have := wRow_ok (ok.row_len (r := r) (by simp)).1
    exact join_head this.2 this.1
/-- a thing's head in words -/
def wsH : Kind → List Str
  | .plain col => ["plain", wF col]
  | .shaded => ["shaded"]
  | .patterned p => ["patterned", wP p]
  | .glass col p => ["glass", wF col, wF p]
theorem wH_join (k : Kind) : wH k = Txt.join " " (wsH k) := by
  rw [TL.join_eq]
  cases k with
  | plain col => rfl
  | shaded => rfl
  | patterned p => rfl
  | glass col p =>
    refine TL.ext_tl ?_
    show TL.tl (("glass" : Str) ++ " " ++ wF col ++ " " ++ wF p) = TL.tl (("glass" : Str) ++ " " ++ (wF col ++ " " ++ wF p))
    simp only [TL.tl_append, List.append_assoc]
theorem wsH_ok {n : Nat} {k : Kind} (ok : OkK n k) : ∀ w ∈ wsH k, 32 ∉ TL.tl w ∧ TL.tl w ≠ [] ∧ (TL.tl w).head? ≠ some 47 := by
  have hF : ∀ f : F2, 32 ∉ TL.tl (wF f) ∧ TL.tl (wF f) ≠ [] ∧ (TL.tl (wF f)).head? ≠ some 47 := fun f => ⟨wF_free (by omega), wF_ne f, wF_head f⟩
  intro w hw
  cases k with
  | plain col =>
    simp only [wsH, List.mem_cons, List.not_mem_nil, or_false] at hw
    rcases hw with rfl | rfl
    · rw [plain_tl]; decide
    · exact hF _
  | shaded =>
    simp only [wsH, List.mem_cons, List.not_mem_nil, or_false] at hw
    subst hw
    rw [shaded_tl]; decide
  | patterned p =>
    simp only [wsH, List.mem_cons, List.not_mem_nil, or_false] at hw
    rcases hw with rfl | rfl
    · rw [patterned_tl]; decide
    · exact ⟨wP_free (by omega), (wP_ok ok.2).2, (wP_ok ok.2).1⟩
  | glass col p =>
    simp only [wsH, List.mem_cons, List.not_mem_nil, or_false] at hw
    rcases hw with rfl | rfl | rfl
    · rw [glass_tl]; decide
    · exact hF _
    · exact hF _
theorem wsH_ne (k : Kind) : wsH k ≠ [] := by cases k <;> simp [wsH]
theorem split_wH {n : Nat} {k : Kind} (ok : OkK n k) : Txt.split (wH k) " " = wsH k := by
  rw [wH_join]
  exact TL.split_join blank_tl (lt256 blank_tl rfl) (wsH_ne k) fun p hp => (wsH_ok ok p hp).1
theorem nb_wH {n : Nat} {k : Kind} (ok : OkK n k) : nb (TL.tl (wH k)) = true := by
  rw [wH_join]
  exact nb_join (wsH_ok ok)
theorem nb_wC (c : Corner) : nb (TL.tl (wC c)) = true := nb_join fun w hw => by
  obtain ⟨i, _, rfl⟩ := List.mem_map.mp hw
  rw [tl_sI]
  exact ⟨intL_free (by omega), intL_ne i, intL_head i⟩
theorem split_wT {z : Thing} (ok : OkWT z) : Txt.split (wT z) " / " = [wH z.k, wC z.t.a, wC z.t.b, wC z.t.c] := split_bar (by simp) fun p hp => by
  simp only [List.mem_cons, List.not_mem_nil, or_false] at hp
  rcases hp with rfl | rfl | rfl | rfl
  · exact nb_wH ok.o.k
  · exact nb_wC _
  · exact nb_wC _
  · exact nb_wC _
theorem str_ok {x : Str} (h : ∀ c, 57 < c → c ≠ 59 → c ∉ TL.tl x) : PyData.strOk x = true := by
  show x.cps.all _ = true
  rw [Array.all_eq_true_iff_forall_mem]
  intro c hc
  apply decide_eq_true
  have hm : c ∈ TL.tl x := Array.mem_toList_iff.mpr hc
  by_cases h1 : 57 < c
  · by_cases h2 : c = 59
    · omega
    · exact absurd hm (h c h1 h2)
  · omega
theorem wF_str (f : F2) : PyData.strOk (wF f) = true := str_ok fun c h _ => wF_free (by omega)
theorem wP_str (p : Pat) : PyData.strOk (wP p) = true := str_ok fun c h h2 => by
  by_cases h3 : 59 < c
  · exact wP_free (by omega)
  · have h4 : c = 58 := by omega
    subst h4
    exact join_free semi_tl (by decide) fun q hq => by
      obtain ⟨r, hr, rfl⟩ := List.mem_map.mp hq
      exact wRow_free (by omega)
theorem sh1 {a : Str} (h : PyData.strOk a = true) : SeqAt.shaped (py (.lst [.str a])) = true := by
  show ((PyData.strOk a && true) && decide (_ ≤ 64)) = true
  rw [h]; rfl
theorem sh2 {a b : Str} (h : PyData.strOk a = true) (h2 : PyData.strOk b = true) : SeqAt.shaped (py (.lst [.str a, .str b])) = true := by
  show ((PyData.strOk a && (PyData.strOk b && true)) && decide (_ ≤ 64)) = true
  rw [h, h2]; rfl
theorem sh3 {a b c : Str} (h : PyData.strOk a = true) (h2 : PyData.strOk b = true) (h3 : PyData.strOk c = true) : SeqAt.shaped (py (.lst [.str a, .str b, .str c])) = true := by
  show ((PyData.strOk a && (PyData.strOk b && (PyData.strOk c && true))) && decide (_ ≤ 64)) = true
  rw [h, h2, h3]; rfl
theorem eq_shaded {C : CxD} {k : Kind} {b : Bool} (hb : (match k with | .shaded => true | _ => false) = b) : CmpD C .Eq (.lst ((wsH k).map D.str)) (.lst [.str "shaded"]) (.bl b) := by
  subst hb
  refine cEqD (by cases k <;> rfl) rfl ?_ (by kernel_rfl) ?_
  · cases k with
    | plain col => exact sh2 (by kernel_rfl) (wF_str _)
    | shaded => exact sh1 (by kernel_rfl)
    | patterned p => exact sh2 (by kernel_rfl) (wP_str _)
    | glass col p => exact sh3 (by kernel_rfl) (wF_str _) (wF_str _)
  · cases k <;> kernel_rfl
section
variable {g : GE} {f : Addr} {fd : FuncData} {A : CA}
def Rthing_of (A : CA) : List D → D → Prop := fun ds d => ∃ (z : Thing) (at_ : D), ds = [.str (wT z), at_] ∧ OkWT z ∧ d = dTh A z
theorem ok_thing_of (F : FnP g "thing_of" s_thing_of f fd) (B : Bl g) (T : TG g A) (c1 : Cal g "corner_in" 2 (spR g.K Rcorner_in)) (c2 : Cal g "fraction_in" 3 (spR g.K Rfraction_in)) (c3 : Cal g "pattern_in" 4 (spR g.K Rpattern_in)) : OkD g 8 f fd p_thing_of (Rthing_of A) := by
  refine pure_def F sc_thing_of (fun ds d ⟨a, _, h1, h2⟩ => by rw [h1]; rfl) ?_
  rintro ds d ⟨⟨k, t⟩, at_, rfl, ok, rfl⟩
  have ot := ok.o.t
  have okk := ok.o.k
  have hs := split_wT ok
  have hh := split_wH okk
  have hl := wT_len ok
  have hlh : (wH k).length ≤ 16500 := wH_len okk
  have hc := ok.s
  refine sset 2 (ED.to (sp (ev 0 rfl rfl) es_ (sz (by omega))) (show _ = D.lst ([wH k, wC t.a, wC t.b, wC t.c].map D.str) from by rw [hs])) ?_
  refine sifN (tc (cb (ac (ev 2 rfl rfl) an) kLn B.len) ei rfl) ?_
  refine sset 3 (ED.to (sp (ix 0 (ev 2 rfl rfl) ei rfl rfl) es_ (sz (by omega))) (show _ = D.lst ((wsH k).map D.str) from by rw [hh])) ?_
  refine sset 4 (et (ac (cl c1 (ac (ix 1 (ev 2 rfl rfl) ei rfl rfl) (ac (ev 1 rfl rfl) an)) ⟨t.a, _, rfl, hc _ (by simp), rfl⟩) (ac (cl c1 (ac (ix 2 (ev 2 rfl rfl) ei rfl rfl) (ac (ev 1 rfl rfl) an)) ⟨t.b, _, rfl, hc _ (by simp), rfl⟩) (ac (cl c1 (ac (ix 3 (ev 2 rfl rfl) ei rfl rfl) (ac (ev 1 rfl rfl) an)) ⟨t.c, _, rfl, hc _ (by simp), rfl⟩) an)))) ?_
  clear hs hh c1
  cases k with
  | shaded =>
    refine sifT (tcx (ev 3 rfl rfl) (el (ac es_ an)) (eq_shaded rfl) rfl) ?_
    exact sret (mk T.mkS (ac (ev 4 rfl rfl) an) ⟨_, t, T.shaded, ot, okk, rfl, rfl, rfl, rfl⟩) rfl
  | plain col =>
    refine sifN (tcx (ev 3 rfl rfl) (el (ac es_ an)) (eq_shaded rfl) rfl) ?_
    refine sifT (BD.td (BD.andT (tc (cb (ac (ev 3 rfl rfl) an) kLn B.len) ei rfl) (BD.and1 (tc (ix 0 (ev 3 rfl rfl) ei rfl rfl) es_ (by kernel_rfl))))) ?_
    exact sret (mk T.mkP (ac (ev 4 rfl rfl) (ac (cl c2 (ac (ix 1 (ev 3 rfl rfl) ei rfl rfl) (ac (ev 1 rfl rfl) an)) ⟨col, _, rfl, okk, rfl⟩) an)) ⟨_, t, col, T.plain, ot, okk, rfl, rfl, rfl, rfl⟩) rfl
  | patterned p =>
    refine sifN (tcx (ev 3 rfl rfl) (el (ac es_ an)) (eq_shaded rfl) rfl) ?_
    refine sifN (BD.td (BD.andT (tc (cb (ac (ev 3 rfl rfl) an) kLn B.len) ei rfl) (BD.and1 (tc (ix 0 (ev 3 rfl rfl) ei rfl rfl) es_ (by kernel_rfl))))) ?_
    refine sifT (BD.td (BD.andT (tc (cb (ac (ev 3 rfl rfl) an) kLn B.len) ei rfl) (BD.and1 (tc (ix 0 (ev 3 rfl rfl) ei rfl rfl) es_ (by kernel_rfl))))) ?_
    exact sret (mk T.mkT (ac (ev 4 rfl rfl) (ac (cl c3 (ac (ix 1 (ev 3 rfl rfl) ei rfl rfl) (ac (ev 1 rfl rfl) an)) ⟨p, _, rfl, okk.2, rfl⟩) an)) ⟨_, t, p, T.patterned, ot, okk.1, okk.2, rfl, rfl, rfl, rfl⟩) rfl
  | glass col p =>
    refine sifN (tcx (ev 3 rfl rfl) (el (ac es_ an)) (eq_shaded rfl) rfl) ?_
    refine sifN (BD.td (BD.andF (tc (cb (ac (ev 3 rfl rfl) an) kLn B.len) ei rfl))) ?_
    refine sifN (BD.td (BD.andF (tc (cb (ac (ev 3 rfl rfl) an) kLn B.len) ei rfl))) ?_
    refine sifT (BD.td (BD.andT (tc (cb (ac (ev 3 rfl rfl) an) kLn B.len) ei rfl) (BD.and1 (tc (ix 0 (ev 3 rfl rfl) ei rfl rfl) es_ (by kernel_rfl))))) ?_
    exact sret (mk T.mkG (ac (ev 4 rfl rfl) (ac (cl c2 (ac (ix 1 (ev 3 rfl rfl) ei rfl rfl) (ac (ev 1 rfl rfl) an)) ⟨col, _, rfl, okk.1, rfl⟩) (ac (cl c2 (ac (ix 2 (ev 3 rfl rfl) ei rfl rfl) (ac (ev 1 rfl rfl) an)) ⟨p, _, rfl, okk.2.1, rfl⟩) an))) ⟨_, t, col, p, T.glass, ot, okk.1, okk.2.1, okk.2.2.1, okk.2.2.2, rfl, rfl, rfl, rfl⟩) rfl
end
end Lk
/-! scenes -/
namespace DL
open PySem L2
section
variable {C : CxD} {δ : DS} {μ : Mu} {a b c e : Expr} {pos p p2 q : Pos}
theorem ech {op op' : CmpOp} {da db dc : D} {k k' : Bool} (ha : ED C δ μ a da) (hb : ED C δ μ b db) (hc : ED C δ μ c dc) [ho : CmpI op da db k'] (hk' : k' = true) [ho' : CmpI op' db dc k] {k2} (hk : k = k2) (hm : lastMarks [op, op'] [b, c] = false := by with_unfolding_all rfl) :
    ED C δ μ (.Compare a [op, op'] [b, c] pos) (.bl k2) := by
  intro X h M0 σ H s Q q
  subst hk' hk
  obtain ⟨r, h1, h2⟩ := ho.h C
  obtain ⟨r', h1', h2'⟩ := ho'.h C
  refine of_pe (pe_chain (h1 X h) (h1' X h) (WE.pe X a) (WE.pe X b) (WE.pe X c) hm) ?_
  refine ha X h M0 σ H s _ fun x H1 e1 r1 => ?_
  refine hb X h M0 σ H1 (s.mono e1) _ fun y H2 e2 r2 => ?_
  refine h2 _ H2 x y (s.domA.mono (e1.trans e2)) (Rep.mono (hid_same e2) _ _ r1) r2 _ fun v H3 e3 r3 => ⟨true, rep_bl.mp r3, iteT ?_⟩
  refine hc X h M0 σ H3 (s.mono ((e1.trans e2).trans e3)) _ fun z H4 e4 r4 => ?_
  refine h2' _ H4 y z (s.domA.mono (((e1.trans e2).trans e3).trans e4)) (Rep.mono (hid_same (e3.trans e4)) _ _ r2) r4 _ fun v H5 e5 r5 => ?_
  exact q v H5 ((((e1.trans e2).trans e3).trans e4).trans e5) r5
end
end DL
namespace Lk
open PySem L2 DL
theorem lnP {C : CxD} {δ : DS} {μ : Mu} {a : Expr} {pos p p2 q : Pos} {x y : Str} (ns : List F2) (ha : ED C δ μ a (.lst (ns.map dF))) (hl : ns.length < 64) (hd : ns.Nodup) (hm : C.g.mg "len" = none) (hm2 : C.g.mg "set" = none) (hx : x = "len" := by kernel_rfl) (hy : y = "set" := by kernel_rfl) (hg : glB C.sc "len" = true := by kernel_rfl) (hg2 : glB C.sc "set" = true := by kernel_rfl) (na : Star a [] := by intro _; rfl) :
    ED C δ μ (.Call (.Name x p) [.Call (.Name y p2) [a] [] q] [] pos) (.int ns.length) := by
  subst hx hy
  exact ED.lenSetP ha LstD.mk hl hd hm hm2 (glB_ok hg).1 (glB_ok hg2).1 na
def wSp (s : F2) : Str := sI s.1 ++ "," ++ sI s.2
def wSps (l : List F2) : Str := Txt.join " " (l.map wSp)
structure OkSp (s : F2) : Prop where
  a0 : 1 ≤ s.1
  a1 : s.1 ≤ 7
  b0 : 1 ≤ s.2
  b1 : s.2 ≤ 7
structure OkSps (l : List F2) : Prop where
  o : ∀ s ∈ l, OkSp s
  d : l.Nodup
  n : l.length ≤ 16
theorem small30 {i : Int} {n : Nat} (h : i.natAbs ≤ n) (hn : n < 10 ^ 30) : i.natAbs < 10 ^ 30 := Nat.lt_of_le_of_lt h hn
theorem OkSp.s1 {s : F2} (h : OkSp s) : s.1.natAbs < 10 ^ 30 := small30 (n := 7) (by have := h.a0; have := h.a1; omega) (by decide)
theorem OkSp.s2 {s : F2} (h : OkSp s) : s.2.natAbs < 10 ^ 30 := small30 (n := 7) (by have := h.b0; have := h.b1; omega) (by decide)
theorem wSp_len {s : F2} (h : OkSp s) : (wSp s).length ≤ 63 := by
  have h1 := sI_len h.s1
  have h2 := sI_len h.s2
  have h3 := comma_len
  have h4 := len_app (sI s.1 ++ ",") (sI s.2)
  have h5 := len_app (sI s.1) ","
  unfold wSp
  omega
theorem wSp_tl (s : F2) : TL.tl (wSp s) = intL s.1 ++ 44 :: intL s.2 := by
  unfold wSp
  rw [TL.tl_append, TL.tl_append, tl_sI, tl_sI, comma_tl, List.append_assoc]
  rfl
theorem wSp_free {s : F2} {c : Nat} (h : c < 44 ∨ 57 < c) : c ∉ TL.tl (wSp s) := by
  rw [wSp_tl]
  intro hm
  rcases List.mem_append.mp hm with hm | hm
  · exact intL_free (by omega) hm
  · rcases List.mem_cons.mp hm with hm | hm
    · omega
    · exact intL_free (by omega) hm
theorem wSps_len {l : List F2} (h : OkSps l) : (wSps l).length ≤ 1024 := by
  have h1 := join_len " " (l.map wSp) 63 fun p hp => by
    obtain ⟨f, hf', rfl⟩ := List.mem_map.mp hp
    exact wSp_len (h.o f hf')
  have := h.n
  rw [List.length_map, blank_len] at h1
  unfold wSps
  omega
structure Scene where
  w : Int
  h : Int
  g : F2
  sp : List F2
  ts : List Thing
def dSc (A : CA) (s : Scene) : D := .tup [.int s.w, .int s.h, dF s.g, .lst (s.sp.map dF), .lst (s.ts.map (dTh A))]
structure OkSc (s : Scene) : Prop where
  w0 : 1 ≤ s.w
  w1 : s.w ≤ 64
  h0 : 1 ≤ s.h
  h1 : s.h ≤ 64
  g : OkF s.g
  sp : OkSps s.sp
  ts : ∀ z ∈ s.ts, OkWT z
  n : s.ts.length ≤ 100
theorem side30 {i : Int} (h0 : 1 ≤ i) (h1 : i ≤ 64) : i.natAbs < 10 ^ 30 := small30 (n := 64) (by omega) (by decide)
def wFl (w h : Int) : Str := [("floor " : Str), sI w, (" " : Str), sI h].foldl (· ++ ·) Str.empty
def wRows (s : Scene) : List Str := [wFl s.w s.h, "ground " ++ wF s.g, "spots " ++ wSps s.sp] ++ s.ts.map wT
def wSc (s : Scene) : Str := Txt.join "\n" (wRows s)
theorem floor_tl : TL.tl "floor " = [102, 108, 111, 111, 114, 32] := by rw [TL.tl_ofString]; rfl
theorem ground_tl : TL.tl "ground " = [103, 114, 111, 117, 110, 100, 32] := by rw [TL.tl_ofString]; rfl
theorem spots_tl : TL.tl "spots " = [115, 112, 111, 116, 115, 32] := by rw [TL.tl_ofString]; rfl
theorem floor_len : ("floor " : Str).length = 6 := len_one floor_tl rfl
theorem ground_len : ("ground " : Str).length = 7 := len_one ground_tl rfl
theorem spots_len : ("spots " : Str).length = 6 := len_one spots_tl rfl
theorem wFl_eq (w h : Int) : wFl w h = "floor " ++ sI w ++ " " ++ sI h := by
  refine TL.ext_tl ?_
  show TL.tl (Str.empty ++ "floor " ++ sI w ++ " " ++ sI h) = _
  simp only [TL.tl_append, List.append_assoc]
  rfl
theorem wFl_len {w h : Int} (w0 : 1 ≤ w) (w1 : w ≤ 64) (h0 : 1 ≤ h) (h1 : h ≤ 64) : (wFl w h).length ≤ 69 := by
  have a1 := sI_len (side30 w0 w1)
  have a2 := sI_len (side30 h0 h1)
  have e1 := len_app ("floor " ++ sI w ++ " ") (sI h)
  have e2 := len_app ("floor " ++ sI w) " "
  have e3 := len_app "floor " (sI w)
  have e4 := floor_len
  have e5 := blank_len
  rw [wFl_eq]
  omega
section
variable {g : GE} {f : Addr} {fd : FuncData} {A : CA}
def Rspots_words : List D → D → Prop := fun ds d => ∃ l : List F2, ds = [.lst (l.map dF)] ∧ OkSps l ∧ d = .str (wSps l)
theorem ok_spots_words (F : FnP g "spots_words" s_spots_words f fd) (B : Bl g) : OkD g 1 f fd p_spots_words Rspots_words := by
  refine pure_def F sc_spots_words (fun ds d ⟨a, h1, h2⟩ => by rw [h1]; rfl) ?_
  rintro ds d ⟨l, rfl, ok, rfl⟩
  have hn := ok.n
  have hc := comma_len
  refine sret (jn es_ (lcx [("spot", 1)] l dF (fun s => .str (wSp s)) (by rw [List.map_map]; rfl) (idl (ev 0 rfl rfl)) rfl (fun s hs => te (gn 1) fun _ => ebx (ebx (ct (ac (ix 0 (ev 1 rfl rfl) ei rfl rfl) an) (kStr (log30 (ok.o s hs).s1)) B.str) es_ (bAddS ?_)) (ct (ac (ix 1 (ev 1 rfl rfl) ei rfl rfl) an) (kStr (log30 (ok.o s hs).s2)) B.str) (bAddS ?_)) (small_size (by omega))) ?_) rfl
  · have h1 : (Str.ofString (toString s.1)).length ≤ 31 := sI_len (ok.o s hs).s1
    exact sz (by rw [hc]; omega)
  · have h1 : (Str.ofString (toString s.1)).length ≤ 31 := sI_len (ok.o s hs).s1
    have h2 : (Str.ofString (toString s.2)).length ≤ 31 := sI_len (ok.o s hs).s2
    exact sz (by rw [len_app, hc]; omega)
  · exact jz 16 63 1 (by rw [List.length_map]; exact hn) (fun y hy => by
      obtain ⟨z, hz, rfl⟩ := List.mem_map.mp hy
      exact wSp_len (ok.o z hz)) blank_len (by decide)
def Rscene_text (A : CA) : List D → D → Prop := fun ds d => ∃ s : Scene, ds = [dSc A s] ∧ OkSc s ∧ d = .str (wSc s)
theorem ok_scene_text (F : FnP g "scene_text" s_scene_text f fd) (B : Bl g) (c1 : Cal g "fraction_word" 1 (spR g.K Rfraction_word)) (c2 : Cal g "spots_words" 1 (spR g.K Rspots_words)) (c3 : Cal g "thing_text" 4 (spR g.K (Rthing_text A))) : OkD g 5 f fd p_scene_text (Rscene_text A) := by
  refine pure_def F sc_scene_text (fun ds d ⟨a, h1, h2⟩ => by rw [h1]; rfl) ?_
  rintro ds d ⟨s, rfl, ok, rfl⟩
  have a1 := sI_len (side30 ok.w0 ok.w1)
  have a2 := sI_len (side30 ok.h0 ok.h1)
  have a3 := wF_len ok.g
  have a4 := wSps_len ok.sp
  have hn := ok.n
  have e4 := floor_len
  have e5 := blank_len
  refine sasg (ED.to (ev 0 rfl rfl) (show dSc A s = D.tup _ from rfl)) (gt (gs (gn 1) (gs (gn 2) (gs (gn 3) (gs (gn 4) (gs (gn 5) gs0)))))) ?_
  refine sset 6 (el (ac (ED.joined (.cons es_ (.cons (ED.fmtI (ev 1 rfl rfl) (log30 (side30 ok.w0 ok.w1))) (.cons es_ (.cons (ED.fmtI (ev 2 rfl rfl) (log30 (side30 ok.h0 ok.h1))) .nil)))) (sz ?_)) (ac (ebx es_ (cl c1 (ac (ev 3 rfl rfl) an) ⟨_, rfl, ok.g, rfl⟩) (bAddS (sz (by rw [ground_len]; omega)))) (ac (ebx es_ (cl c2 (ac (ev 4 rfl rfl) an) ⟨_, rfl, ok.sp, rfl⟩) (bAddS (sz (by rw [spots_len]; omega)))) an)))) ?_
  · have a1 : (Str.ofString (toString s.w)).length ≤ 31 := a1
    have a2 : (Str.ofString (toString s.h)).length ≤ 31 := a2
    simp only [List.map_cons, List.map_nil, List.sum_cons, List.sum_nil, e4, e5]
    omega
  refine sret (jn es_ (ED.to (ebx (ev 6 rfl rfl) (lcx [("thing", 7)] s.ts (dTh A) (fun z => .str (wT z)) rfl (idl (ev 5 rfl rfl)) rfl (fun z hz => te (gn 7) fun _ => cl c3 (ac (ev 7 rfl rfl) an) ⟨z, rfl, ok.ts z hz, rfl⟩) (small_size (by omega))) (bCat (by rw [List.length_map]; exact sz (by simp; omega)))) (show _ = D.lst ((wRows s).map D.str) from ?_)) ?_) rfl
  · unfold wRows
    rw [List.map_append, List.map_map]
    rfl
  · refine jz 103 70000 1 (by unfold wRows; rw [List.length_append, List.length_map]; simp; omega) (fun y hy => ?_) line_len (by decide)
    unfold wRows at hy
    rcases List.mem_append.mp hy with hy | hy
    · simp only [List.mem_cons, List.not_mem_nil, or_false] at hy
      rcases hy with rfl | rfl | rfl
      · have := wFl_len ok.w0 ok.w1 ok.h0 ok.h1
        omega
      · rw [len_app, ground_len]; omega
      · rw [len_app, spots_len]; omega
    · obtain ⟨z, hz, rfl⟩ := List.mem_map.mp hy
      exact wT_len (ok.ts z hz)
/-! ### readers -/
def Rfloor_in : List D → D → Prop := fun ds d => ∃ (w h : Int) (at_ : D), ds = [.lst [.str (sI w), .str (sI h)], at_] ∧ 1 ≤ w ∧ w ≤ 64 ∧ 1 ≤ h ∧ h ≤ 64 ∧ d = .tup [.int w, .int h]
theorem ok_floor_in (F : FnP g "floor_in" s_floor_in f fd) (B : Bl g) (mS : ∃ t, g.mg "MOST_SIDE" = some (.int 64 t)) (c1 : Cal g "number_in" 1 (spR g.K Rnumber_in)) : OkD g 2 f fd p_floor_in Rfloor_in := by
  refine pure_def F sc_floor_in (fun ds d ⟨a, _, _, h1, h2⟩ => by rw [h1]; rfl) ?_
  rintro ds d ⟨w, h, at_, rfl, w0, w1, h0, h1, rfl⟩
  refine slx 2 [("word", 3)] [w, h] (fun i => .str (sI i)) D.int (idl (ev 0 rfl rfl)) rfl (fun i hi => te (gn 3) fun _ => cl c1 (ac (ev 3 rfl rfl) (ac (ev 1 rfl rfl) an)) ⟨i, _, rfl, ?_, rfl⟩) (tiny_size rfl) ?_
  · simp only [List.mem_cons, List.not_mem_nil, or_false] at hi
    rcases hi with rfl | rfl
    · exact side30 w0 w1
    · exact side30 h0 h1
  have hmin : ∃ m, m ∈ [w, h] ∧ (∀ y, y ∈ [w, h] → m ≤ y) ∧ 1 ≤ m := by
    by_cases hh : w ≤ h
    · exact ⟨w, by simp, by simp; omega, w0⟩
    · exact ⟨h, by simp, by simp; omega, h0⟩
  have hmax : ∃ m, m ∈ [w, h] ∧ (∀ y, y ∈ [w, h] → y ≤ m) ∧ m ≤ 64 := by
    by_cases hh : w ≤ h
    · exact ⟨h, by simp, by simp; omega, h1⟩
    · exact ⟨w, by simp, by simp; omega, w1⟩
  obtain ⟨m, hm1, hm2, hm3⟩ := hmin
  obtain ⟨n, hn1, hn2, hn3⟩ := hmax
  refine sifN (BD.td (BD.orF (tc (cb (ac (ev 2 rfl rfl) an) kLn B.len) ei rfl) (BD.orF (tc (cb (ac (ev 2 rfl rfl) an) (kMin LstD.mk hm1 hm2) B.min) ei (decide_eq_false (by omega))) (BD.or1 (tc (cb (ac (ev 2 rfl rfl) an) (kMax LstD.mk hn1 hn2) B.max) (egi mS) (decide_eq_false (by omega))))))) ?_
  exact sret (et (ac (ix 0 (ev 2 rfl rfl) ei rfl rfl) (ac (ix 1 (ev 2 rfl rfl) ei rfl rfl) an))) rfl
def Rground_in : List D → D → Prop := fun ds d => ∃ (z : F2) (at_ : D), ds = [.lst [.str (wF z)], at_] ∧ OkF z ∧ d = dF z
theorem ok_ground_in (F : FnP g "ground_in" s_ground_in f fd) (B : Bl g) (c1 : Cal g "fraction_in" 3 (spR g.K Rfraction_in)) : OkD g 4 f fd p_ground_in Rground_in := by
  refine pure_def F sc_ground_in (fun ds d ⟨a, _, h1, h2⟩ => by rw [h1]; rfl) ?_
  rintro ds d ⟨z, at_, rfl, ok, rfl⟩
  refine sifN (tc (cb (ac (ev 0 rfl rfl) an) kLn B.len) ei rfl) ?_
  exact sret (cl c1 (ac (ix 0 (ev 0 rfl rfl) ei rfl rfl) (ac (ev 1 rfl rfl) an)) ⟨z, _, rfl, ok, rfl⟩) rfl
def Rbounded : List D → D → Prop := fun ds d => ∃ i lo hi : Int, ds = [.str (sI i), .int lo, .int hi] ∧ i.natAbs < 10 ^ 30 ∧ lo ≤ i ∧ i ≤ hi ∧ d = .int i
theorem ok_bounded (F : FnP g "bounded" s_bounded f fd) (c1 : Cal g "number_in" 1 (spR g.K Rnumber_in)) (c2 : Cal g "refuse_if" 1 (spR g.K Rrefuse)) : OkD g 2 f fd p_bounded Rbounded := by
  refine pure_def F sc_bounded (fun ds d ⟨a, _, _, h1, h2⟩ => by rw [h1]; rfl) ?_
  rintro ds d ⟨i, lo, hi, rfl, hs, h1, h2, rfl⟩
  refine sset 3 (cl c1 (ac (ev 0 rfl rfl) (ac ei an)) ⟨i, _, rfl, hs, rfl⟩) ?_
  refine sex (cl c2 (ac (ED.not (ech (ev 1 rfl rfl) (ev 3 rfl rfl) (ev 2 rfl rfl) (decide_eq_true h1) (decide_eq_true h2))) an) ⟨rfl, rfl⟩) ?_
  exact sret (ev 3 rfl rfl) rfl
def Rspots_in : List D → D → Prop := fun ds d => ∃ (l : List F2) (at_ : D), ds = [.lst (l.map fun s => .str (wSp s)), at_] ∧ OkSps l ∧ d = .lst (l.map dF)
theorem ok_spots_in (F : FnP g "spots_in" s_spots_in f fd) (B : Bl g) (mS : ∃ t, g.mg "MOST_SPOTS_texts" = some (.int 16 t)) (c1 : Cal g "number_in" 1 (spR g.K Rnumber_in)) : OkD g 2 f fd p_spots_in Rspots_in := by
  refine pure_def F sc_spots_in (fun ds d ⟨a, _, h1, h2⟩ => by rw [h1]; rfl) ?_
  rintro ds d ⟨l, at_, rfl, ok, rfl⟩
  have hn := ok.n
  refine snewL 2 an fun q => ?_
  refine sfor (fun i δ μ => (∃ o1 o2 o3, δ = [some (.lst (l.map fun s => .str (wSp s))), some at_, some (.ptr q), o1, o2, o3]) ∧ μ = [(q, .lst ((l.take i).map dF))]) (idl (ev 0 rfl rfl)) ⟨⟨_, _, _, rfl⟩, rfl⟩ ?_ ?_
  · rintro i d δ μ hd ⟨⟨o1, o2, o3, rfl⟩, rfl⟩
    rw [List.getElem?_map] at hd
    obtain ⟨s, hs, rfl⟩ := Option.map_eq_some_iff.mp hd
    have os := ok.o s (List.mem_of_getElem? hs)
    have hi := (List.getElem?_eq_some_iff.mp hs).1
    refine ⟨_, _, gn 3, ?_⟩
    have hsp : Txt.split (wSp s) "," = [sI s.1, sI s.2] := by
      have e : wSp s = Txt.join "," [sI s.1, sI s.2] := by rw [TL.join_eq]; rfl
      rw [e]
      exact TL.split_join comma_tl (lt256 comma_tl rfl) (by simp) fun p hp => by
        simp only [List.mem_cons, List.not_mem_nil, or_false] at hp
        rcases hp with rfl | rfl
        · rw [tl_sI]; exact intL_free (by omega)
        · rw [tl_sI]; exact intL_free (by omega)
    refine slx 4 [("one", 5)] [s.1, s.2] (fun i => .str (sI i)) D.int (idl (sp (ev 3 rfl rfl) es_ (sz (by have := wSp_len os; omega)))) (by rw [hsp]; rfl) (fun i hi => te (gn 5) fun _ => cl c1 (ac (ev 5 rfl rfl) (ac (ev 1 rfl rfl) an)) ⟨i, _, rfl, ?_, rfl⟩) (tiny_size rfl) ?_
    · simp only [List.mem_cons, List.not_mem_nil, or_false] at hi
      rcases hi with rfl | rfl
      · exact os.s1
      · exact os.s2
    have a0 := os.a0; have a1 := os.a1; have b0 := os.b0; have b1 := os.b1
    have hmin : ∃ m, m ∈ [s.1, s.2] ∧ (∀ y, y ∈ [s.1, s.2] → m ≤ y) ∧ 1 ≤ m := by
      by_cases hh : s.1 ≤ s.2
      · exact ⟨s.1, by simp, by simp; omega, a0⟩
      · exact ⟨s.2, by simp, by simp; omega, b0⟩
    have hmax : ∃ m, m ∈ [s.1, s.2] ∧ (∀ y, y ∈ [s.1, s.2] → y ≤ m) ∧ m ≤ 7 := by
      by_cases hh : s.1 ≤ s.2
      · exact ⟨s.2, by simp, by simp; omega, b1⟩
      · exact ⟨s.1, by simp, by simp; omega, a1⟩
    obtain ⟨m, hm1, hm2, hm3⟩ := hmin
    obtain ⟨n, hn1, hn2, hn3⟩ := hmax
    refine sifN (BD.td (BD.orF (tc (cb (ac (ev 4 rfl rfl) an) kLn B.len) ei rfl) (BD.orF (tc (cb (ac (ev 4 rfl rfl) an) (kMin LstD.mk hm1 hm2) B.min) ei (decide_eq_false (by omega))) (BD.or1 (tc (cb (ac (ev 4 rfl rfl) an) (kMax LstD.mk hn1 hn2) B.max) ei (decide_eq_false (by omega))))))) ?_
    refine sapp 0 (ev 2 rfl rfl) (et (ac (ix 0 (ev 4 rfl rfl) ei rfl rfl) (ac (ix 1 (ev 4 rfl rfl) ei rfl rfl) an))) ?_ ?_
    · exact small_size (by rw [List.length_map, List.length_take]; omega)
    refine s0 ⟨⟨_, _, _, rfl⟩, ?_⟩
    show [(q, MC.lst ((l.take i).map dF ++ [dF s]))] = _
    rw [List.take_add_one, hs, List.map_append]
    rfl
  · rintro δ μ ⟨⟨o1, o2, o3, rfl⟩, rfl⟩
    rw [List.length_map, List.take_length]
    refine SDs.freeze 2 rfl ?_
    refine sifN (BD.td (BD.orF (tc (cb (ac (ev 2 rfl rfl) an) kLn B.len) (egi mS) (decide_eq_false (by rw [List.length_map]; omega))) (BD.or1 (tc (lnP l (ev 2 rfl rfl) (by omega) ok.d B.len B.set) (cb (ac (ev 2 rfl rfl) an) kLn B.len) (by rw [List.length_map]; simp))))) ?_
    exact sret (ev 2 rfl rfl) rfl
end
end Lk
/-! the desk -/
namespace Lk
open PySem L2 DL
inductive Row where
  | show_
  | floor (w h : Int)
  | ground (f : F2)
  | spots (l : List F2)
  | thing (z : Thing)
  | drop (i : Nat)
  | near (a b : Int)
def Row.text : Row → Str
  | .show_ => "show"
  | .floor w h => "floor " ++ sI w ++ " " ++ sI h
  | .ground f => "ground " ++ wF f
  | .spots l => "spots " ++ wSps l
  | .thing z => wT z
  | .drop i => "drop " ++ sI i
  | .near a b => "near " ++ sI a ++ " " ++ sI b
def cutTs (a b : Int) (ts : List Thing) : List Thing := ts.flatMap fun z => (cutM a b z.t).1.map fun t => ⟨z.k, t⟩
def Row.next (s : Scene) : Row → Scene
  | .show_ => s
  | .floor w h => { s with w := w, h := h }
  | .ground f => { s with g := f }
  | .spots l => { s with sp := l }
  | .thing z => { s with ts := s.ts ++ [z] }
  | .drop i => { s with ts := s.ts.take i ++ s.ts.drop (i + 1) }
  | .near a b => { s with ts := cutTs a b s.ts }
def Row.ans (s : Scene) : Row → Str
  | .show_ => wSc s
  | _ => "ok"
def OkRow (s : Scene) : Row → Prop
  | .show_ => True
  | .floor w h => 1 ≤ w ∧ w ≤ 64 ∧ 1 ≤ h ∧ h ≤ 64
  | .ground f => OkF f
  | .spots l => OkSps l ∧ l ≠ []
  | .thing z => OkWT z
  | .drop i => i < s.ts.length
  | .near a b => Wl a b ∧ ∀ z ∈ s.ts, ∀ c ∈ z.t.cs, Bd (2 ^ 48) c
/-- the words of a row -/
def Row.words : Row → List Str
  | .show_ => ["show"]
  | .floor w h => ["floor", sI w, sI h]
  | .ground f => ["ground", wF f]
  | .spots l => "spots" :: l.map wSp
  | .thing z => Txt.split (wT z) " "
  | .drop i => ["drop", sI i]
  | .near a b => ["near", sI a, sI b]
theorem show_tl : TL.tl "show" = [115, 104, 111, 119] := by rw [TL.tl_ofString]; rfl
theorem floor0_tl : TL.tl "floor" = [102, 108, 111, 111, 114] := by rw [TL.tl_ofString]; rfl
theorem ground0_tl : TL.tl "ground" = [103, 114, 111, 117, 110, 100] := by rw [TL.tl_ofString]; rfl
theorem spots0_tl : TL.tl "spots" = [115, 112, 111, 116, 115] := by rw [TL.tl_ofString]; rfl
theorem drop0_tl : TL.tl "drop" = [100, 114, 111, 112] := by rw [TL.tl_ofString]; rfl
theorem drop_tl : TL.tl "drop " = [100, 114, 111, 112, 32] := by rw [TL.tl_ofString]; rfl
theorem near0_tl : TL.tl "near" = [110, 101, 97, 114] := by rw [TL.tl_ofString]; rfl
theorem near_tl : TL.tl "near " = [110, 101, 97, 114, 32] := by rw [TL.tl_ofString]; rfl
theorem drop_len : ("drop " : Str).length = 5 := len_one drop_tl rfl
theorem near_len : ("near " : Str).length = 5 := len_one near_tl rfl
theorem sI_free (i : Int) {c : Nat} (h : c < 45 ∨ (45 < c ∧ c < 48) ∨ 57 < c) : c ∉ TL.tl (sI i) := by rw [tl_sI]; exact intL_free h
theorem bl_join {ws : List Str} (hne : ws ≠ []) (h : ∀ w ∈ ws, 32 ∉ TL.tl w) : Txt.split (Txt.join " " ws) " " = ws := TL.split_join blank_tl (lt256 blank_tl rfl) hne h
theorem join3 (a b c : Str) : Txt.join " " [a, b, c] = a ++ " " ++ b ++ " " ++ c := by
  rw [TL.join_eq]
  refine TL.ext_tl ?_
  show TL.tl (a ++ " " ++ (b ++ " " ++ c)) = _
  simp only [TL.tl_append, List.append_assoc]
theorem join2 (a b : Str) : Txt.join " " [a, b] = a ++ " " ++ b := by rw [TL.join_eq]; rfl
theorem row_split {s : Scene} {r : Row} (ok : OkRow s r) : Txt.split r.text " " = r.words := by
  cases r with
  | show_ =>
    have e : ("show" : Str) = Txt.join " " ["show"] := by rw [TL.join_eq]; rfl
    show Txt.split "show" " " = _
    rw [e]
    exact bl_join (by simp) fun w hw => by rw [List.mem_singleton.mp hw, show_tl]; decide
  | floor w h =>
    have e : "floor " ++ sI w ++ " " ++ sI h = Txt.join " " ["floor", sI w, sI h] := by
      rw [join3]
      refine TL.ext_tl ?_
      simp only [TL.tl_append, floor_tl, floor0_tl, blank_tl, List.append_assoc]
      rfl
    show Txt.split ("floor " ++ sI w ++ " " ++ sI h) " " = _
    rw [e]
    exact bl_join (by simp) fun x hx => by
      simp only [List.mem_cons, List.not_mem_nil, or_false] at hx
      rcases hx with rfl | rfl | rfl
      · rw [floor0_tl]; decide
      · exact sI_free _ (by omega)
      · exact sI_free _ (by omega)
  | ground f =>
    have e : "ground " ++ wF f = Txt.join " " ["ground", wF f] := by
      rw [join2]
      refine TL.ext_tl ?_
      simp only [TL.tl_append, ground_tl, ground0_tl, blank_tl, List.append_assoc]
      rfl
    show Txt.split ("ground " ++ wF f) " " = _
    rw [e]
    exact bl_join (by simp) fun x hx => by
      simp only [List.mem_cons, List.not_mem_nil, or_false] at hx
      rcases hx with rfl | rfl
      · rw [ground0_tl]; decide
      · exact wF_free (by omega)
  | spots l =>
    have e : "spots " ++ wSps l = Txt.join " " ("spots" :: l.map wSp) := by
      obtain ⟨x, xs, hx⟩ := List.exists_cons_of_ne_nil ok.2
      subst hx
      rw [TL.join_eq]
      unfold wSps
      rw [TL.join_eq]
      refine TL.ext_tl ?_
      show TL.tl ("spots " ++ Str.join " " ((x :: xs).map wSp)) = TL.tl (("spots" : Str) ++ " " ++ Str.join " " ((x :: xs).map wSp))
      simp only [TL.tl_append, spots_tl, spots0_tl, blank_tl, List.append_assoc]
      rfl
    show Txt.split ("spots " ++ wSps l) " " = _
    rw [e]
    exact bl_join (by simp) fun x hx => by
      rcases List.mem_cons.mp hx with rfl | hx
      · rw [spots0_tl]; decide
      · obtain ⟨y, _, rfl⟩ := List.mem_map.mp hx
        exact wSp_free (by omega)
  | thing z => rfl
  | drop i =>
    have e : "drop " ++ sI i = Txt.join " " ["drop", sI i] := by
      rw [join2]
      refine TL.ext_tl ?_
      simp only [TL.tl_append, drop_tl, drop0_tl, blank_tl, List.append_assoc]
      rfl
    show Txt.split ("drop " ++ sI i) " " = _
    rw [e]
    exact bl_join (by simp) fun x hx => by
      simp only [List.mem_cons, List.not_mem_nil, or_false] at hx
      rcases hx with rfl | rfl
      · rw [drop0_tl]; decide
      · exact sI_free _ (by omega)
  | near a b =>
    have e : "near " ++ sI a ++ " " ++ sI b = Txt.join " " ["near", sI a, sI b] := by
      rw [join3]
      refine TL.ext_tl ?_
      simp only [TL.tl_append, near_tl, near0_tl, blank_tl, List.append_assoc]
      rfl
    show Txt.split ("near " ++ sI a ++ " " ++ sI b) " " = _
    rw [e]
    exact bl_join (by simp) fun x hx => by
      simp only [List.mem_cons, List.not_mem_nil, or_false] at hx
      rcases hx with rfl | rfl | rfl
      · rw [near0_tl]; decide
      · exact sI_free _ (by omega)
      · exact sI_free _ (by omega)
/-- the first word of a thing's row -/
def kindW : Kind → Str
  | .plain _ => "plain"
  | .shaded => "shaded"
  | .patterned _ => "patterned"
  | .glass _ _ => "glass"
theorem kindW_free (k : Kind) : 32 ∉ TL.tl (kindW k) := by
  cases k with
  | plain _ => show 32 ∉ TL.tl "plain"; rw [plain_tl]; decide
  | shaded => show 32 ∉ TL.tl "shaded"; rw [shaded_tl]; decide
  | patterned _ => show 32 ∉ TL.tl "patterned"; rw [patterned_tl]; decide
  | glass _ _ => show 32 ∉ TL.tl "glass"; rw [glass_tl]; decide
theorem wT_head (z : Thing) : ∃ r, TL.tl (wT z) = TL.tl (kindW z.k) ++ 32 :: r := by
  obtain ⟨k, t⟩ := z
  unfold wT
  rw [TL.join_eq]
  have e : ∃ q, TL.tl (Str.join " / " [wH k, wC t.a, wC t.b, wC t.c]) = TL.tl (wH k) ++ 32 :: q := by
    refine ⟨47 :: 32 :: TL.tl (Str.join " / " [wC t.a, wC t.b, wC t.c]), ?_⟩
    show TL.tl (wH k ++ " / " ++ Str.join " / " [wC t.a, wC t.b, wC t.c]) = _
    rw [TL.tl_append, TL.tl_append, bar_tl, List.append_assoc]
    rfl
  obtain ⟨q, e⟩ := e
  show ∃ r, TL.tl (Str.join " / " [wH k, wC t.a, wC t.b, wC t.c]) = _
  rw [e]
  cases k with
  | plain col =>
    refine ⟨TL.tl (wF col) ++ 32 :: q, ?_⟩
    show TL.tl (("plain" : Str) ++ " " ++ wF col) ++ 32 :: q = TL.tl "plain" ++ _
    rw [TL.tl_append, TL.tl_append, blank_tl, List.append_assoc, List.append_assoc]
    rfl
  | shaded => exact ⟨q, rfl⟩
  | patterned p =>
    refine ⟨TL.tl (wP p) ++ 32 :: q, ?_⟩
    show TL.tl (("patterned" : Str) ++ " " ++ wP p) ++ 32 :: q = TL.tl "patterned" ++ _
    rw [TL.tl_append, TL.tl_append, blank_tl, List.append_assoc, List.append_assoc]
    rfl
  | glass col p =>
    refine ⟨TL.tl (wF col) ++ (32 :: (TL.tl (wF p) ++ 32 :: q)), ?_⟩
    show TL.tl (("glass" : Str) ++ " " ++ wF col ++ " " ++ wF p) ++ 32 :: q = TL.tl "glass" ++ _
    simp only [TL.tl_append, blank_tl, List.append_assoc]
    rfl
theorem words_head (z : Thing) : ∃ ws, Txt.split (wT z) " " = kindW z.k :: ws := by
  obtain ⟨r, hr⟩ := wT_head z
  have e := TL.split_spl (wT z) " " (by rw [blank_tl]; simp) (TL.kind_ok (lt256 blank_tl rfl))
  rw [blank_tl, hr] at e
  have e2 : TL.spl [32] 0 [] (TL.tl (kindW z.k) ++ 32 :: r) = TL.tl (kindW z.k) :: TL.spl [32] 0 [] r := TL.spl_part1 (S := []) (acc := []) (kindW_free z.k)
  rw [e2] at e
  cases h : Txt.split (wT z) " " with
  | nil => rw [h] at e; cases e
  | cons w ws =>
    rw [h] at e
    refine ⟨ws, ?_⟩
    rw [TL.ext_tl (List.cons.inj e).1]
end Lk
/-! the desk's methods -/
namespace Lk
open PySem L2 DL
section
variable {C : CxD} {δ δ' : DS} {μ : Mu} {e o : Expr} {rest : List Stmt} {pos pos' : Pos} {E : EndsD}
theorem sfldX {Cl y : Addr} {ns : List Str} {f : Str} (k i : Nat) (he : EX C δ μ e (fun d μ' => ∃ ds, μ'[k]? = some (y, .ins Cl ns ds) ∧ SDs C δ (μ'.set k (y, .ins Cl ns (ds.set i d))) rest E)) (ho : ∀ μ', ED C δ μ' o (.ptr y)) (hc : Cls C.K Cl) (hn : NoAttr C.K Cl f) (hf : firstB ns f i = true := by kernel_rfl) (hz : ns.length < 1000 := by decide)
    (hs : ∀ env, swapsWith e (some (.Attribute o f pos')) pos.line env = pure false := by intro _; rfl) : SDs C δ μ (.Assign [.Attribute o f pos'] e pos :: rest) E :=
  SDs.cons (SD.fldX (y := y) (Cl := Cl) (f := f) (i := i) k (fun X hX B σ H s Q q => he X hX B σ H s Q fun d μ' v H' ⟨ds, h1, h2⟩ s' r => q d μ' v H' ⟨ns, ds, h1, firstB_ok hf, hz, ho _, h2⟩ s' r) hc hn hs)
end
theorem dSc_tup {A : CA} {s : Scene} : dSc A s = .tup [.int s.w, .int s.h, dF s.g, .lst (s.sp.map dF), .lst (s.ts.map (dTh A))] := rfl
abbrev nsDk : List Str := ["taken", "scene", "old"]
abbrev dk (Cl : Addr) (A : CA) (n : Int) (s : Scene) : MC := .ins Cl nsDk [.int n, dSc A s, .non]
structure DCl (g : GE) (Cl : Addr) : Prop where
  cls : Cls g.K Cl
  at_ : g.mg "Desk" = some (.ref Cl)
  taken : NoAttr g.K Cl "taken"
  scene : NoAttr g.K Cl "scene"
  old : NoAttr g.K Cl "old"
theorem cutM_len (a b : Int) (t : Tri) : (cutM a b t).1.length ≤ 2 := by
  unfold cutM
  split <;> simp [tipT, restT]
theorem cutTs_len (a b : Int) (ts : List Thing) : (cutTs a b ts).length ≤ 2 * ts.length := by
  unfold cutTs
  induction ts with
  | nil => simp
  | cons z ts ih =>
    have := cutM_len a b z.t
    rw [List.flatMap_cons, List.length_append, List.length_map, List.length_cons]
    omega
theorem cutTs_take {a b : Int} {ts : List Thing} {i : Nat} {z : Thing} (h : ts[i]? = some z) : cutTs a b (ts.take (i + 1)) = cutTs a b (ts.take i) ++ (cutM a b z.t).1.map fun t => ⟨z.k, t⟩ := by
  unfold cutTs
  rw [List.take_add_one, h, List.flatMap_append]
  simp
theorem cutD_take {ds : List D} {i : Nat} : cutD ds none (some (i : Int)) = ds.take i := by
  unfold cutD
  rw [HT.sIx_none, HT.sIx_nat, List.drop_zero, Nat.sub_zero]
  by_cases h : i ≤ ds.length
  · rw [Nat.min_eq_left h]
  · rw [Nat.min_eq_right (by omega), List.take_length, List.take_of_length_le (by omega)]
theorem cutD_drop {ds : List D} {i : Nat} : cutD ds (some (i : Int)) none = ds.drop i := by
  unfold cutD
  rw [HT.sIx_none, HT.sIx_nat]
  by_cases h : i ≤ ds.length
  · rw [Nat.min_eq_left h, List.take_of_length_le (by rw [List.length_drop]; omega)]
  · rw [Nat.min_eq_right (by omega), Nat.sub_self, List.take_zero, List.drop_eq_nil_of_le (by omega)]
section
variable {g : GE} {f : Addr} {fd : FuncData} {A : CA}
def RDesk (g : GE) (A : CA) : MC → List D → D → MC → Prop := fun c ds d c' => ∃ Cl : Addr, DCl g Cl ∧ c = .ins Cl [] [] ∧ ds = [] ∧ d = .non ∧ c' = dk Cl A 0 ⟨8, 8, (0, 1), [(4, 4)], []⟩
theorem ok_Desk_init (F : FnQ g "__init__" "Desk.__init__" s_Desk_init f fd) (B : Bl g) (hM : GS g "MIDDLE" (.lsr [dF (4, 4)])) : OkM g 1 f fd p_Desk_init (RDesk g A) := by
  refine mut_def F sc_Desk_init (fun c ds d c' ⟨Cl, _, _, h, _⟩ => by rw [h]; rfl) ?_
  rintro y c ds d c' ⟨Cl, K, rfl, rfl, rfl, rfl⟩
  refine sfldN 0 ei (ev 0 rfl rfl) K.cls K.taken ?_
  refine sfldN (d := dSc A ⟨8, 8, (0, 1), [(4, 4)], []⟩) 0 (et (ac ei (ac ei (ac (et (ac ei (ac ei an))) (ac (ct (ac (egd hM) an) kLs B.list) (ac (el an) an)))))) (ev 0 rfl rfl) K.cls K.scene ?_
  refine sfldN 0 ED.non (ev 0 rfl rfl) K.cls K.old ?_
  exact s0 ⟨rfl, List.mem_singleton.mpr rfl⟩
def Rword_asked (g : GE) (A : CA) : MC → List D → D → MC → Prop := fun c ds d c' => ∃ (Cl : Addr) (n : Int) (s : Scene), DCl g Cl ∧ OkSc s ∧ c = dk Cl A n s ∧ ds = [.str "show"] ∧ d = .str (wSc s) ∧ c' = c
theorem ok_word_asked (F : FnQ g "word_asked" "Desk.word_asked" s_Desk_word_asked f fd) (c1 : Cal g "scene_text" 5 (spR g.K (Rscene_text A))) : OkM g 6 f fd p_Desk_word_asked (Rword_asked g A) := by
  refine mut_def F sc_Desk_word_asked (fun c ds d c' ⟨Cl, _, _, _, _, _, h, _⟩ => by rw [h]; rfl) ?_
  rintro y c ds d c' ⟨Cl, n, s, K, ok, rfl, rfl, rfl, rfl⟩
  refine sifN (tc (ev 1 rfl rfl) es_ (by kernel_rfl)) ?_
  refine sifT (tc (ev 1 rfl rfl) es_ (by kernel_rfl)) ?_
  exact sret (cl c1 (ac (flM 0 1 (ev 0 rfl rfl) rfl K.cls K.scene rfl) an) ⟨s, rfl, ok, rfl⟩) ⟨rfl, List.mem_singleton.mpr rfl⟩
/-- the things can be cut -/
structure OkNear (a b : Int) (ts : List Thing) : Prop where
  w : Wl a b
  s : ∀ z ∈ ts, ∀ c ∈ z.t.cs, Bd (2 ^ 48) c
  o : ∀ z ∈ ts, OkTh z
  n : ts.length ≤ 100
def Rcut_near (g : GE) (A : CA) : MC → List D → D → MC → Prop := fun c ds d c' => ∃ (Cl : Addr) (n : Int) (s : Scene) (a b : Int), DCl g Cl ∧ OkNear a b s.ts ∧ c = dk Cl A n s ∧ ds = [.lst [.str "near", .str (sI a), .str (sI b)]] ∧ d = .lst ((cutTs a b s.ts).map (dTh A)) ∧ c' = c
theorem ok_cut_near (F : FnQ g "cut_near" "Desk.cut_near" s_Desk_cut_near f fd) (B : Bl g) (T : TG g A) (mP : ∃ t, g.mg "MOST_PART" = some (.int 1000000 t)) (c1 : Cal g "refuse_if" 1 (spR g.K Rrefuse)) (c2 : Cal g "bounded" 2 (spR g.K Rbounded)) (c3 : Cal g "cut" 4 (spR g.K Rcut)) (c4 : Cal g "like_it" 8 (spR g.K (Rlike A))) : OkM g 9 f fd p_Desk_cut_near (Rcut_near g A) := by
  refine mut_def F sc_Desk_cut_near (fun c ds d c' ⟨Cl, _, _, _, _, _, _, _, h, _⟩ => by rw [h]; rfl) ?_
  rintro y c ds d c' ⟨Cl, n, s, a, b, K, ok, rfl, rfl, rfl, rfl⟩
  have w := ok.w
  have w1 := w.a0; have w2 := w.a1; have w3 := w.b0; have w4 := w.b1
  refine sex (cl c1 (ac (ec (cb (ac (ev 1 rfl rfl) an) kLn B.len) ei) an) ⟨rfl, rfl⟩) ?_
  refine sset 2 (cl c2 (ac (ix 1 (ev 1 rfl rfl) ei rfl rfl) (ac ei (ac (egi mP) an))) ⟨a, 1, 1000000, rfl, small30 (n := 7) (by omega) (by decide), by omega, by omega, rfl⟩) ?_
  refine sset 3 (cl c2 (ac (ix 2 (ev 1 rfl rfl) ei rfl rfl) (ac ei (ac (egi mP) an))) ⟨b, 1, 1000000, rfl, small30 (n := 7) (by omega) (by decide), by omega, by omega, rfl⟩) ?_
  refine snewL 4 an fun q => ?_
  refine sfor (fun i δ μ => (∃ o5 o6, δ = [some (.ptr y), some (.lst [.str "near", .str (sI a), .str (sI b)]), some (.int a), some (.int b), some (.ptr q), o5, o6]) ∧ μ = [(q, .lst ((cutTs a b (s.ts.take i)).map (dTh A))), (y, dk Cl A n s)]) (idl (ix 4 (ED.to (flM 1 1 (ev 0 rfl rfl) rfl K.cls K.scene rfl) dSc_tup) ei rfl rfl)) ⟨⟨_, _, rfl⟩, rfl⟩ ?_ ?_
  · rintro i d δ μ hd ⟨⟨o5, o6, rfl⟩, rfl⟩
    rw [List.getElem?_map] at hd
    obtain ⟨z, hz, rfl⟩ := Option.map_eq_some_iff.mp hd
    have hm := List.mem_of_getElem? hz
    have oz := ok.o z hm
    have hi := (List.getElem?_eq_some_iff.mp hz).1
    have hlen := cutTs_len a b (s.ts.take i)
    have hlen2 := cutM_len a b z.t
    have hn := ok.n
    rw [List.length_take] at hlen
    refine ⟨_, _, gn 5, ?_⟩
    refine sfor (fun j δ μ => (∃ o6, δ = [some (.ptr y), some (.lst [.str "near", .str (sI a), .str (sI b)]), some (.int a), some (.int b), some (.ptr q), some (dTh A z), o6]) ∧ μ = [(q, .lst ((cutTs a b (s.ts.take i) ++ ((cutM a b z.t).1.take j).map fun t => (⟨z.k, t⟩ : Thing)).map (dTh A))), (y, dk Cl A n s)]) (idl (ix 0 (cl c3 (ac (triX T (ev 5 rfl rfl)) (ac (et (ac ei (ac ei (ac (ev 3 rfl rfl) (ac (eb ei (ev 2 rfl rfl)) an))))) an)) ⟨a, b, z.t, rfl, ⟨w, ok.s z hm, oz.t⟩, rfl⟩) ei rfl rfl)) ⟨⟨_, rfl⟩, by rw [List.take_zero, List.map_nil, List.append_nil]⟩ ?_ ?_
    · rintro j d δ μ hd ⟨⟨o6, rfl⟩, rfl⟩
      rw [List.getElem?_map] at hd
      obtain ⟨u, hu, rfl⟩ := Option.map_eq_some_iff.mp hd
      have pu := cut_piece w (n := 2 ^ 48) (by decide) (Nat.le_refl _) oz.t (ok.s z hm) (List.mem_of_getElem? hu)
      have hj := (List.getElem?_eq_some_iff.mp hu).1
      refine ⟨_, _, gn 6, ?_⟩
      refine sapp 0 (ev 4 rfl rfl) (cl c4 (ac (ev 5 rfl rfl) (ac (ev 6 rfl rfl) an)) ⟨z, u, rfl, oz, pu.ok, pu.len, rfl⟩) ?_ ?_
      · exact small_size (by rw [List.length_map, List.length_append, List.length_map, List.length_take]; omega)
      refine s0 ⟨⟨_, rfl⟩, ?_⟩
      show [(q, MC.lst (_ ++ [dTh A ⟨z.k, u⟩])), _] = _
      simp only [List.take_add_one, hu, List.map_append, List.append_assoc]
      rfl
    · rintro δ μ ⟨⟨o6, rfl⟩, rfl⟩
      refine s0 ⟨⟨_, _, rfl⟩, ?_⟩
      rw [List.length_map, List.take_length, cutTs_take hz]
  · rintro δ μ ⟨⟨o5, o6, rfl⟩, rfl⟩
    rw [List.length_map, List.take_length]
    refine SDs.freeze 4 rfl ?_
    exact sret (ev 4 rfl rfl) ⟨rfl, List.mem_singleton.mpr rfl⟩
end
end Lk
/-! the desk's rows -/
namespace Lk
open PySem L2 DL
/-- rows that tell the scene anew -/
def Row.tells : Row → Bool
  | .show_ => false
  | .thing _ => false
  | _ => true
structure OkAt (s : Scene) (r : Row) : Prop where
  r : OkRow s r
  s : OkSc s
abbrev wdsD (r : Row) : D := .lst (r.words.map D.str)
section
variable {g : GE} {f : Addr} {fd : FuncData} {A : CA}
def Rchanged (g : GE) (A : CA) : MC → List D → D → MC → Prop := fun c ds d c' => ∃ (Cl : Addr) (n : Int) (s : Scene) (r : Row), DCl g Cl ∧ OkAt s r ∧ r.tells = true ∧ c = dk Cl A n s ∧ ds = [wdsD r] ∧ d = dSc A (r.next s) ∧ c' = c
theorem ok_changed (F : FnQ g "changed" "Desk.changed" s_Desk_changed f fd) (B : Bl g) (c1 : Cal g "refuse_if" 1 (spR g.K Rrefuse)) (c2 : Cal g "bounded" 2 (spR g.K Rbounded)) (c3 : Cal g "floor_in" 2 (spR g.K Rfloor_in)) (c4 : Cal g "ground_in" 4 (spR g.K Rground_in)) (c5 : Cal g "spots_in" 2 (spR g.K Rspots_in)) (KC : ∀ Cl, DCl g Cl → Mth g Cl "cut_near" 9 (spM g.K (Rcut_near g A))) : OkM g 10 f fd p_Desk_changed (Rchanged g A) := by
  refine mut_def F sc_Desk_changed (fun c ds d c' ⟨Cl, _, _, _, _, _, _, _, h, _⟩ => by rw [h]; rfl) ?_
  rintro y c ds d c' ⟨Cl, n, s, r, K, ok, ht, rfl, rfl, rfl, rfl⟩
  have okr := ok.r
  refine sasg (ED.to (flM 0 1 (ev 0 rfl rfl) rfl K.cls K.scene rfl) dSc_tup) (gt (gs (gn 2) (gs (gn 3) (gs (gn 4) (gs (gn 5) (gs (gn 6) gs0)))))) ?_
  have hmem : (y, dk Cl A n s) ∈ [(y, dk Cl A n s)] := List.mem_singleton.mpr rfl
  cases r with
  | show_ => cases ht
  | thing z => cases ht
  | floor w h =>
    refine sifT (tc (ix 0 (ev 1 rfl rfl) ei rfl rfl) es_ (by kernel_rfl)) ?_
    refine sex (cl c1 (ac (ec (cb (ac (ev 1 rfl rfl) an) kLn B.len) ei) an) ⟨rfl, rfl⟩) ?_
    refine sasg (cl c3 (ac (slL (ev 1 rfl rfl) (p1 ei) p0) (ac ei an)) ⟨w, h, _, rfl, okr.1, okr.2.1, okr.2.2.1, okr.2.2.2, rfl⟩) (gt (gs (gn 2) (gs (gn 3) gs0))) (s0 ?_)
    exact sret (et (ac (ev 2 rfl rfl) (ac (ev 3 rfl rfl) (ac (ev 4 rfl rfl) (ac (ev 5 rfl rfl) (ac (ev 6 rfl rfl) an)))))) ⟨rfl, hmem⟩
  | ground z =>
    refine sifF (tc (ix 0 (ev 1 rfl rfl) ei rfl rfl) es_ (by kernel_rfl)) ?_
    refine sifT (tc (ix 0 (ev 1 rfl rfl) ei rfl rfl) es_ (by kernel_rfl)) ?_
    refine sset 4 (cl c4 (ac (slL (ev 1 rfl rfl) (p1 ei) p0) (ac ei an)) ⟨z, _, rfl, okr, rfl⟩) (s0 (s0 ?_))
    exact sret (et (ac (ev 2 rfl rfl) (ac (ev 3 rfl rfl) (ac (ev 4 rfl rfl) (ac (ev 5 rfl rfl) (ac (ev 6 rfl rfl) an)))))) ⟨rfl, hmem⟩
  | spots l =>
    refine sifF (tc (ix 0 (ev 1 rfl rfl) ei rfl rfl) es_ (by kernel_rfl)) ?_
    refine sifF (tc (ix 0 (ev 1 rfl rfl) ei rfl rfl) es_ (by kernel_rfl)) ?_
    refine sifT (tc (ix 0 (ev 1 rfl rfl) ei rfl rfl) es_ (by kernel_rfl)) ?_
    have hn : l.length ≠ 0 := fun e => okr.2 (List.length_eq_zero_iff.mp e)
    refine sex (cl c1 (ac (ec (cb (ac (ev 1 rfl rfl) an) kLn B.len) ei) an) ⟨?_, rfl⟩) ?_
    · show [D.bl (decide ((((("spots" : Str) :: l.map wSp).map D.str).length : Int) = 1))] = _
      rw [List.length_map, List.length_cons, List.length_map, decide_eq_false (by omega)]
    refine sset 5 (cl c5 (ac (ED.to (slL (ev 1 rfl rfl) (p1 ei) p0) (show D.lst (cutD ((("spots" : Str) :: l.map wSp).map D.str) (some ((1 : Nat) : Int)) none) = .lst (l.map fun s => .str (wSp s)) from by rw [cutD_drop, List.map_cons, List.drop_succ_cons, List.drop_zero, List.map_map]; rfl)) (ac ei an)) ⟨l, _, rfl, okr.1, rfl⟩) (s0 (s0 (s0 ?_)))
    exact sret (et (ac (ev 2 rfl rfl) (ac (ev 3 rfl rfl) (ac (ev 4 rfl rfl) (ac (ev 5 rfl rfl) (ac (ev 6 rfl rfl) an)))))) ⟨rfl, hmem⟩
  | drop i =>
    have hi : i < s.ts.length := okr
    have hn := ok.s.n
    refine sifF (tc (ix 0 (ev 1 rfl rfl) ei rfl rfl) es_ (by kernel_rfl)) ?_
    refine sifF (tc (ix 0 (ev 1 rfl rfl) ei rfl rfl) es_ (by kernel_rfl)) ?_
    refine sifF (tc (ix 0 (ev 1 rfl rfl) ei rfl rfl) es_ (by kernel_rfl)) ?_
    refine sifT (tc (ix 0 (ev 1 rfl rfl) ei rfl rfl) es_ (by kernel_rfl)) ?_
    refine sex (cl c1 (ac (ec (cb (ac (ev 1 rfl rfl) an) kLn B.len) ei) an) ⟨rfl, rfl⟩) ?_
    refine sset 7 (cl c2 (ac (ix 1 (ev 1 rfl rfl) ei rfl rfl) (ac ei (ac (eb (cb (ac (ev 6 rfl rfl) an) kLn B.len) ei) an))) ⟨i, 0, _, rfl, small30 (n := 100) (by omega) (by decide), by omega, by rw [List.length_map]; omega, rfl⟩) ?_
    refine sset 6 (ED.to (ebx (slL (ev 6 rfl rfl) p0 (p1 (ev 7 rfl rfl))) (slL (ev 6 rfl rfl) (p1 (eb (ev 7 rfl rfl) ei)) p0) (bCat ?_)) (show D.lst (cutD (s.ts.map (dTh A)) none (some (i : Int)) ++ cutD (s.ts.map (dTh A)) (some ((i + 1 : Nat) : Int)) none) = .lst ((s.ts.take i ++ s.ts.drop (i + 1)).map (dTh A)) from by rw [cutD_take, cutD_drop, List.map_append, List.map_take, List.map_drop])) (s0 (s0 (s0 (s0 ?_))))
    · show (cutD (s.ts.map (dTh A)) none (some (i : Int))).length + (cutD (s.ts.map (dTh A)) (some ((i + 1 : Nat) : Int)) none).length ≤ sizeLine
      rw [cutD_take, cutD_drop, List.length_take, List.length_drop, List.length_map]
      exact sz (by omega)
    exact sret (et (ac (ev 2 rfl rfl) (ac (ev 3 rfl rfl) (ac (ev 4 rfl rfl) (ac (ev 5 rfl rfl) (ac (ev 6 rfl rfl) an)))))) ⟨rfl, hmem⟩
  | near a b =>
    refine sifF (tc (ix 0 (ev 1 rfl rfl) ei rfl rfl) es_ (by kernel_rfl)) ?_
    refine sifF (tc (ix 0 (ev 1 rfl rfl) ei rfl rfl) es_ (by kernel_rfl)) ?_
    refine sifF (tc (ix 0 (ev 1 rfl rfl) ei rfl rfl) es_ (by kernel_rfl)) ?_
    refine sifF (tc (ix 0 (ev 1 rfl rfl) ei rfl rfl) es_ (by kernel_rfl)) ?_
    refine ssetX 6 (xm 0 (ev 0 rfl rfl) (KC Cl K) (ac (ev 1 rfl rfl) an) ⟨Cl, n, s, a, b, K, ⟨okr.1, okr.2, fun z hz => (ok.s.ts z hz).o, ok.s.n⟩, rfl, rfl, rfl, rfl⟩ (s0 (s0 (s0 (s0 ?_)))) K.cls)
    exact sret (et (ac (ev 2 rfl rfl) (ac (ev 3 rfl rfl) (ac (ev 4 rfl rfl) (ac (ev 5 rfl rfl) (ac (ev 6 rfl rfl) an)))))) ⟨rfl, hmem⟩
def kinds : List Str := ["plain", "shaded", "patterned", "glass"]
theorem text_len {s : Scene} {r : Row} (ok : OkAt s r) : r.text.length ≤ 70000 := by
  have okr := ok.r
  cases r with
  | show_ => exact Nat.le_trans (Nat.le_of_eq (len_one show_tl rfl)) (Nat.le_of_ble_eq_true rfl)
  | floor w h =>
    have h1 := sI_len (side30 okr.1 okr.2.1)
    have h2 := sI_len (side30 okr.2.2.1 okr.2.2.2)
    have e1 := len_app ("floor " ++ sI w ++ " ") (sI h)
    have e2 := len_app ("floor " ++ sI w) " "
    have e3 := len_app "floor " (sI w)
    have e4 := floor_len
    have e5 := blank_len
    show ("floor " ++ sI w ++ " " ++ sI h).length ≤ _
    omega
  | ground z =>
    have h1 := wF_len (f := z) okr
    have e1 := len_app "ground " (wF z)
    have e2 := ground_len
    show ("ground " ++ wF z).length ≤ _
    omega
  | spots l =>
    have h1 := wSps_len okr.1
    have e1 := len_app "spots " (wSps l)
    have e2 := spots_len
    show ("spots " ++ wSps l).length ≤ _
    omega
  | thing z => exact wT_len okr
  | drop i =>
    have hi : i < s.ts.length := okr
    have hn := ok.s.n
    have h1 := sI_len (i := (i : Int)) (small30 (n := 100) (by omega) (by decide))
    have e1 := len_app "drop " (sI i)
    have e2 := drop_len
    show ("drop " ++ sI i).length ≤ _
    omega
  | near a b =>
    have w := okr.1
    have w1 := w.a0; have w2 := w.a1; have w3 := w.b0; have w4 := w.b1
    have h1 := sI_len (i := a) (small30 (n := 7) (by omega) (by decide))
    have h2 := sI_len (i := b) (small30 (n := 7) (by omega) (by decide))
    have e1 := len_app ("near " ++ sI a ++ " ") (sI b)
    have e2 := len_app ("near " ++ sI a) " "
    have e3 := len_app "near " (sI a)
    have e4 := near_len
    have e5 := blank_len
    show ("near " ++ sI a ++ " " ++ sI b).length ≤ _
    omega
structure KDesk (g : GE) (A : CA) (Cl : Addr) : Prop where
  wa : Mth g Cl "word_asked" 6 (spM g.K (Rword_asked g A))
  ch : Mth g Cl "changed" 10 (spM g.K (Rchanged g A))
def Ranswer (g : GE) (A : CA) : MC → List D → D → MC → Prop := fun c ds d c' => ∃ (Cl : Addr) (n : Int) (s : Scene) (r : Row), DCl g Cl ∧ OkAt s r ∧ c = dk Cl A n s ∧ ds = [.str r.text] ∧ d = .str (r.ans s) ∧ c' = dk Cl A n (r.next s)
theorem ok_answer (F : FnQ g "answer" "Desk.answer" s_Desk_answer f fd) (B : Bl g) (hK : GS g "KINDS" (.tup (kinds.map D.str))) (c1 : Cal g "refuse_if" 1 (spR g.K Rrefuse)) (c2 : Cal g "thing_of" 8 (spR g.K (Rthing_of A))) (KD : ∀ Cl, DCl g Cl → KDesk g A Cl) : OkM g 11 f fd p_Desk_answer (Ranswer g A) := by
  refine mut_def F sc_Desk_answer (fun c ds d c' ⟨Cl, _, _, _, _, _, _, h, _⟩ => by rw [h]; rfl) ?_
  rintro y c ds d c' ⟨Cl, n, s, r, K, ok, rfl, rfl, rfl, rfl⟩
  have okr := ok.r
  have hsp := row_split okr
  have hlen := text_len ok
  refine sex (cl c1 (ac (ED.not (cb (ac (ev 1 rfl rfl) (ac (ety B.str bt_str) an)) (kIsi rfl k_ss) B.isinstance)) an) ⟨rfl, rfl⟩) ?_
  refine sset 2 (ED.to (sp (ev 1 rfl rfl) es_ (sz (by omega))) (show _ = wdsD r from by rw [hsp])) ?_
  have hmem : ∀ {c : MC}, (y, c) ∈ [(y, c)] := fun {c} => List.mem_singleton.mpr rfl
  by_cases ht : r.tells = true
  · have hw : ∃ w ws, r.words = w :: ws ∧ decide (w ∈ kinds) = false ∧ decide (w ∈ (["floor", "ground", "spots", "drop", "near"] : List Str)) = true ∧ r.ans s = "ok" := by
      cases r with
      | show_ => cases ht
      | thing z => cases ht
      | floor w h => exact ⟨_, _, rfl, by kernel_rfl, by kernel_rfl, rfl⟩
      | ground f => exact ⟨_, _, rfl, by kernel_rfl, by kernel_rfl, rfl⟩
      | spots l => exact ⟨_, _, rfl, by kernel_rfl, by kernel_rfl, rfl⟩
      | drop i => exact ⟨_, _, rfl, by kernel_rfl, by kernel_rfl, rfl⟩
      | near a b => exact ⟨_, _, rfl, by kernel_rfl, by kernel_rfl, rfl⟩
    obtain ⟨w, ws, hw, h1, h2, h3⟩ := hw
    refine sifN (tcx (ix (d := .str w) 0 (ev 2 rfl rfl) ei rfl (by rw [hw]; rfl)) (egd hK) cInS h1) ?_
    refine sifT (tcx (ix (d := .str w) 0 (ev 2 rfl rfl) ei rfl (by rw [hw]; rfl)) (ED.to (et (ac es_ (ac es_ (ac es_ (ac es_ (ac es_ an)))))) (show _ = D.tup ((["floor", "ground", "spots", "drop", "near"] : List Str).map D.str) from rfl)) cInS h2) ?_
    refine sfldX 0 1 (xm 0 (ev 0 rfl rfl) (KD Cl K).ch (ac (ev 2 rfl rfl) an) ⟨Cl, n, s, r, K, ok, ht, rfl, rfl, rfl, rfl⟩ ⟨_, rfl, ?_⟩ K.cls) (fun _ => ev 0 rfl rfl) K.cls K.scene
    rw [h3]
    exact sret es_ ⟨rfl, hmem⟩
  · cases r with
    | floor w h => exact absurd rfl ht
    | ground f => exact absurd rfl ht
    | spots l => exact absurd rfl ht
    | drop i => exact absurd rfl ht
    | near a b => exact absurd rfl ht
    | show_ =>
      refine sifN (tcx (ix 0 (ev 2 rfl rfl) ei rfl rfl) (egd hK) cInS (by kernel_rfl)) ?_
      refine sifN (tcx (ix 0 (ev 2 rfl rfl) ei rfl rfl) (ED.to (et (ac es_ (ac es_ (ac es_ (ac es_ (ac es_ an)))))) (show _ = D.tup ((["floor", "ground", "spots", "drop", "near"] : List Str).map D.str) from rfl)) cInS (by kernel_rfl)) ?_
      refine sifT (tc (cb (ac (ev 2 rfl rfl) an) kLn B.len) ei rfl) ?_
      exact sretX (xm 0 (ev 0 rfl rfl) (KD Cl K).wa (ac (ev 1 rfl rfl) an) ⟨Cl, n, s, K, ok.s, rfl, rfl, rfl, rfl⟩ ⟨rfl, hmem⟩ K.cls)
    | thing z =>
      obtain ⟨ws, hw⟩ := words_head z
      have okz : OkWT z := okr
      have hn := ok.s.n
      have hk : decide (kindW z.k ∈ kinds) = true := by
        cases z.k <;> kernel_rfl
      refine sifT (tcx (ix (d := .str (kindW z.k)) 0 (ev 2 rfl rfl) ei rfl (by show ((Txt.split (wT z) " ").map D.str)[0]? = _; rw [hw]; rfl)) (egd hK) cInS hk) ?_
      refine sfldX 0 1 (EX.of (d := dSc A (Row.next s (.thing z))) (ED.to (ebx (slT (ED.to (flM 0 1 (ev 0 rfl rfl) rfl K.cls K.scene rfl) dSc_tup) p0 (p1 ei)) (et (ac (ebx (ix 4 (ED.to (flM 0 1 (ev 0 rfl rfl) rfl K.cls K.scene rfl) dSc_tup) ei rfl rfl) (el (ac (cl c2 (ac (ev 1 rfl rfl) (ac ei an)) ⟨z, _, rfl, okz, rfl⟩) an)) (bCat ?_)) an)) (bCatT (Nat.le_of_ble_eq_true rfl))) ?_) ⟨_, rfl, ?_⟩) (fun _ => ev 0 rfl rfl) K.cls K.scene
      · rw [List.length_map]
        exact sz (by simp; omega)
      · show D.tup [.int s.w, .int s.h, dF s.g, .lst (s.sp.map dF), .lst (s.ts.map (dTh A) ++ [dTh A z])] = D.tup [.int s.w, .int s.h, dF s.g, .lst (s.sp.map dF), .lst ((s.ts ++ [z]).map (dTh A))]
        rw [List.map_append]
        rfl
      · exact sret es_ ⟨rfl, hmem⟩
def Rsay (g : GE) (A : CA) : MC → List D → D → MC → Prop := fun c ds d c' => ∃ (Cl : Addr) (n : Int) (s : Scene) (r : Row), DCl g Cl ∧ OkAt s r ∧ c = dk Cl A n s ∧ ds = [.str r.text] ∧ d = .str (r.ans s) ∧ c' = dk Cl A (n + 1) (r.next s)
theorem ok_say (F : FnQ g "say" "Desk.say" s_Desk_say f fd) (KA : ∀ Cl, DCl g Cl → Mth g Cl "answer" 11 (spM g.K (Ranswer g A))) : OkM g 12 f fd p_Desk_say (Rsay g A) := by
  refine mut_def F sc_Desk_say (fun c ds d c' ⟨Cl, _, _, _, _, _, _, h, _⟩ => by rw [h]; rfl) ?_
  rintro y c ds d c' ⟨Cl, n, s, r, K, ok, rfl, rfl, rfl, rfl⟩
  refine SDs.cons (SD.try_ ?_)
  refine ssetX 2 (xm 0 (ev 0 rfl rfl) (KA Cl K) (ac (ev 1 rfl rfl) an) ⟨Cl, n, s, r, K, ok, rfl, rfl, rfl, rfl⟩ (s0 ?_) K.cls)
  refine sfldA 0 0 (ev 0 rfl rfl) ei K.cls K.taken ?_
  exact sret (ev 2 rfl rfl) ⟨rfl, List.mem_singleton.mpr rfl⟩
end
end Lk
/-! the law's functions -/
namespace DL
open PySem L2
section
variable {C : CxD} {δ δ' : DS} {μ : Mu} {a b e : Expr} {ts rest_ : List Expr} {rest : List Stmt} {pos tpos : Pos} {ds : List D} {is : List Nat} {E : EndsD} {P : D → Mu → Prop}
theorem sasgM {y : Addr} {kk n : Nat} (k : Nat) (h : ED C δ μ e (.ptr y)) (h1 : TGsD C ts ds is δ δ') (kt : SDs C δ' μ rest E) (hm : μ[k]? = some (y, MC.lst ds) := by rfl) (hl : ds.length = n := by rfl) (hn : ∀ env, (assignEach ts env).length = n := by intro _; rfl) (hst : ∀ env, (assignEach ts env).findIdx? (·.1) = none := by intro _; rfl)
    (hs : ∀ env, swapsWithSole [.Tuple ts kk tpos] e pos.line env = pure false := by intro _; rfl) (hw : ∀ env, swappedStores [.Tuple ts kk tpos] e env = pure none := by intro _; rfl) (h2 : ∀ env, (assignEach [.Tuple ts kk tpos] env).map (·.2) = [assign (.Tuple ts kk tpos) env] := by intro _; rfl) :
    SDs C δ μ (.Assign [.Tuple ts kk tpos] e pos :: rest) E := by
  refine SDs.cons ?_
  intro X hX B σ H s
  refine of_ps (ps_asg (WE.pe X e) (WG.pg X (.Tuple ts kk tpos)) (hs _) (hw _) (h2 _)) ?_
  refine h X hX B.M0 σ H s.e _ fun v H1 e1 r1 => ?_
  have s1 := s.e.mono e1
  obtain ⟨xs, h3, h4⟩ := s1.lstM (List.mem_of_getElem? hm)
  rw [rep_ptr.mp r1]
  refine of_pg (pg_unl (n := n) hX.calm (WGs.pgs X ts) (hn _) (hst _)) ⟨y, xs, rfl, SqL.of h3, by rw [← h4.len]; exact hl, ?_⟩
  exact h1 X hX B.M0 μ σ H1 xs s1 h4 _ fun σ' s' _ => ⟨_, μ, kt, (s.mono e1).setE s'⟩
theorem EX.cmp {op : CmpOp} (ha : EX C δ μ a (fun d μ' => ∃ db k, ED C δ μ' b db ∧ CmpD C op d db (.bl k) ∧ P (.bl k) μ')) (hm : behindInMarks op b = false := by rfl) : EX C δ μ (.Compare a [op] [b] pos) P := by
  intro X hX B σ H s Q q
  let r : R2 := fun x y H Q => ∀ pins s1 v u, Inv X pins σ H s1 → RelV x v → RelV y u → wpAny (model X.prog X.w) X.A (compareOp op v u) (EP X pins σ Q) X.xe s1
  refine fun pins s1 I => ?_
  have go := ha X hX B σ H s (fun x H1 => WE X b σ H1 fun y H2 => r x y H2 Q) fun d μ' v H1 hP s2 r1 => ?_
  · refine wpAny_Compare1 (thn (go pins s1 I) fun v s1 h1 => ?_) hm
    obtain ⟨x, H1, I1, rx, q1⟩ := h1
    refine thn (q1 pins s1 I1) fun u s2 h2 => ?_
    obtain ⟨y, H2, I2, ry, q2⟩ := h2
    exact q2 pins s2 v u I2 rx ry
  · obtain ⟨db, k, hb, ⟨r0, o1, o2⟩, hPB⟩ := hP
    refine hb X hX B.M0 σ H1 s2.e _ fun y H2 e2 r2 => ?_
    have s3 := s2.mono e2
    intro pins s1 v u I1 rv ru
    refine o1 X hX pins s1 σ H2 _ y v u _ I1 rv ru ?_
    exact o2 _ H2 _ y s3.e.domA (Rep.mono (hid_same e2) _ _ r1) r2 _ fun w H3 e3 r3 => q (.bl k) μ' w H3 hPB (s3.mono e3) r3
/-- a list's item at a number that is reckoned -/
theorem ixI {i : Int} {L : List Int} (h1 : ED C δ μ a (.lst (L.map D.int))) (h2 : ED C δ μ b (.int i)) (h0 : 0 ≤ i) (hl : i < L.length) (hp : PlainIx b := by intro _ _; rfl) : ED C δ μ (.Subscript a b pos) (.int (L.getD i.toNat 0)) := by
  have hlt : i.toNat < L.length := by omega
  refine ix i.toNat h1 h2 (by omega) ?_ hp
  rw [List.getElem?_map, List.getElem?_eq_getElem hlt, List.getD_eq_getElem?_getD, List.getElem?_eq_getElem hlt]
  rfl
theorem ixG {α : Type} {i : Int} {L : List α} {g : α → D} (z : α) (h1 : ED C δ μ a (.lst (L.map g))) (h2 : ED C δ μ b (.int i)) (h0 : 0 ≤ i) (hl : i < L.length) (hp : PlainIx b := by intro _ _; rfl) : ED C δ μ (.Subscript a b pos) (g (L.getD i.toNat z)) := by
  have hlt : i.toNat < L.length := by omega
  refine ix i.toNat h1 h2 (by omega) ?_ hp
  rw [List.getElem?_map, List.getElem?_eq_getElem hlt, List.getD_eq_getElem?_getD, List.getElem?_eq_getElem hlt]
  rfl
end
end DL
namespace Lk
open PySem L2 DL
section
variable {g : GE} {f : Addr} {fd : FuncData} {A : CA}
def Rcell_at : List D → D → Prop := fun ds d => ∃ (ns : List Int) (k : Nat), ds = [.lsr (ns.map D.int), .int k] ∧ d = .int (ns.getD k 0)
theorem ok_law_cell_at (F : FnP g "_law_cell_at" s_law_cell_at f fd) (B : Bl g) : OkD g 1 f fd p_law_cell_at Rcell_at := by
  refine pure_def F sc_law_cell_at (fun ds d ⟨a, _, h1, h2⟩ => by rw [h1]; rfl) ?_
  rintro ds d ⟨ns, k, rfl, rfl⟩
  by_cases h : k < ns.length
  · refine sifT (tc (ev 1 rfl rfl) (cb (ac (ev 0 rfl rfl) an) kLn B.len) (decide_eq_true (by rw [List.length_map]; omega))) ?_
    refine sret (ix (d := .int (ns.getD k 0)) k (ev 0 rfl rfl) (ev 1 rfl rfl) rfl ?_) rfl
    rw [List.getElem?_map, List.getElem?_eq_getElem h, List.getD_eq_getElem?_getD, List.getElem?_eq_getElem h]
    rfl
  · refine sifN (tc (ev 1 rfl rfl) (cb (ac (ev 0 rfl rfl) an) kLn B.len) (decide_eq_false (by rw [List.length_map]; omega))) ?_
    have e : ns.getD k 0 = 0 := by rw [List.getD_eq_getElem?_getD, List.getElem?_eq_none (by omega)]; rfl
    rw [e]
    exact sret ei rfl
def lmix (c k : Int) : Int :=
  if 2 ^ 90 ≤ c ∧ c % 2 = 1 ∧ 0 < c / 2 ^ (1 + 31 * k).toNat then c / 2 ^ (1 + 31 * k).toNat % 2147483648
  else
    let n0 := (c + 7919 * k + 1) * 48271 % 2147483647
    let n1 := n0 * (n0 / 1009 + 69621) % 2147483647
    n1 * (n1 / 2003 + 39373 + k) % 2147483629
theorem lmix_lo (c k : Int) : 0 ≤ lmix c k := by
  unfold lmix
  split
  · exact Int.emod_nonneg _ (by decide)
  · exact Int.emod_nonneg _ (by decide)
theorem lmix_hi (c k : Int) : lmix c k < 2147483648 := by
  unfold lmix
  split
  · exact Int.emod_lt_of_pos _ (by decide)
  · exact Int.lt_trans (Int.emod_lt_of_pos _ (by decide)) (by decide)
def Rlmixed : List D → D → Prop := fun ds d => ∃ c k : Int, ds = [.int c, .int k] ∧ 0 ≤ k ∧ k ≤ 10000 ∧ d = .int (lmix c k)
theorem ok_law_mixed (F : FnP g "_law_mixed" s_law_mixed f fd) : OkD g 1 f fd p_law_mixed Rlmixed := by
  refine pure_def F sc_law_mixed (fun ds d ⟨a, _, h1, h2⟩ => by rw [h1]; rfl) ?_
  rintro ds d ⟨c, k, rfl, h0, h1, rfl⟩
  have e90 : (1 : Int) * 2 ^ (90 : Int).toNat = 2 ^ 90 := by decide
  have shr : ∀ {δ : DS} {μ : Mu} {a b pos}, ED ⟨g, n_law_mixed, defScope s_law_mixed, 0, true⟩ δ μ a (.int c) → ED ⟨g, n_law_mixed, defScope s_law_mixed, 0, true⟩ δ μ b (.int (1 + 31 * k)) → ED ⟨g, n_law_mixed, defScope s_law_mixed, 0, true⟩ δ μ (.BinOp a .RShift b pos) (.int (c / 2 ^ (1 + 31 * k).toNat)) := fun ha hb => ebx ha hb (bShr (by omega))
  by_cases hc : 2 ^ 90 ≤ c ∧ c % 2 = 1 ∧ 0 < c / 2 ^ (1 + 31 * k).toNat
  · have hv : lmix c k = c / 2 ^ (1 + 31 * k).toNat % 2147483648 := if_pos hc
    rw [hv]
    refine sifT (BD.td (BD.andT (tc (ev 0 rfl rfl) (ebx ei ei (bShl ⟨by decide, by decide, by decide⟩)) (decide_eq_true (by rw [e90]; exact hc.1))) (BD.andT (tc (er (ev 0 rfl rfl) ei (by decide)) ei (decide_eq_true hc.2.1)) (BD.and1 (tc (shr (ev 0 rfl rfl) (eb ei (em ei (ev 1 rfl rfl) (.inl (by decide))))) ei (decide_eq_true hc.2.2)))))) ?_
    exact sret (er (shr (ev 0 rfl rfl) (eb ei (em ei (ev 1 rfl rfl) (.inl (by decide))))) ei (by decide)) rfl
  · refine sifN (BD.td (BD.to (BD.and (tc (ev 0 rfl rfl) (ebx ei ei (bShl ⟨by decide, by decide, by decide⟩)) rfl) fun _ => BD.and (tc (er (ev 0 rfl rfl) ei (by decide)) ei rfl) fun _ => BD.and1 (tc (shr (ev 0 rfl rfl) (eb ei (em ei (ev 1 rfl rfl) (.inl (by decide))))) ei rfl)) ?_)) ?_
    · rw [e90, ← Bool.decide_and, ← Bool.decide_and]
      exact decide_eq_false hc
    have hv : lmix c k = (let n0 := (c + 7919 * k + 1) * 48271 % 2147483647
      let n1 := n0 * (n0 / 1009 + 69621) % 2147483647
      n1 * (n1 / 2003 + 39373 + k) % 2147483629) := if_neg hc
    dsimp only at hv
    rw [hv]
    refine sset 2 (er (em (eb (eb (ev 0 rfl rfl) (em ei (ev 1 rfl rfl) (.inl (by decide)))) ei) ei (.inr (by decide))) ei (by decide)) ?_
    have b0 := Int.emod_nonneg ((c + 7919 * k + 1) * 48271) (show (2147483647 : Int) ≠ 0 by decide)
    have b1 := Int.emod_lt_of_pos ((c + 7919 * k + 1) * 48271) (show (0 : Int) < 2147483647 by decide)
    generalize (c + 7919 * k + 1) * 48271 % 2147483647 = n0 at *
    refine sset 2 (er (em (ev 2 rfl rfl) (eb (ed (ev 2 rfl rfl) ei (by decide)) ei) (.inl (by omega))) ei (by decide)) ?_
    have b2 := Int.emod_nonneg (n0 * (n0 / 1009 + 69621)) (show (2147483647 : Int) ≠ 0 by decide)
    have b3 := Int.emod_lt_of_pos (n0 * (n0 / 1009 + 69621)) (show (0 : Int) < 2147483647 by decide)
    generalize n0 * (n0 / 1009 + 69621) % 2147483647 = n1 at *
    exact sret (er (em (ev 2 rfl rfl) (eb (eb (ed (ev 2 rfl rfl) ei (by decide)) ei) (ev 1 rfl rfl)) (.inl (by omega))) ei (by decide)) rfl
def ldraws (c : Int) (m : Nat) : List Int := (List.range m).map fun k => lmix c (k : Nat)
theorem ldraws_len (c : Int) (m : Nat) : (ldraws c m).length = m := by simp [ldraws]
theorem ldraws_mem {c : Int} {m : Nat} : ∀ x ∈ ldraws c m, 0 ≤ x ∧ x < 2147483648 := fun x hx => by
  obtain ⟨k, _, rfl⟩ := List.mem_map.mp hx
  exact ⟨lmix_lo _ _, lmix_hi _ _⟩
def Rldraws : List D → D → Prop := fun ds d => ∃ (c : Int) (m : Nat), ds = [.int c, .int m] ∧ m ≤ 1000 ∧ d = .lst ((ldraws c m).map D.int)
theorem ok_law_draws (F : FnP g "_law_draws" s_law_draws f fd) (B : Bl g) (c1 : Cal g "_law_mixed" 1 (spR g.K Rlmixed)) : OkD g 2 f fd p_law_draws Rldraws := by
  refine pure_def F sc_law_draws (fun ds d ⟨a, _, h1, h2⟩ => by rw [h1]; rfl) ?_
  rintro ds d ⟨c, m, rfl, hm, rfl⟩
  refine sret (lcx [("_law_k", 2)] (List.range m) (fun k => .int (k : Nat)) (fun k => .int (lmix c (k : Nat))) (by unfold ldraws; rw [List.map_map]; rfl) (idr (ev 1 rfl rfl) ⟨by omega, by omega⟩ B.range) (by unfold rangeD; rw [Int.toNat_natCast]) (fun k hk => te (gn 2) fun _ => cl c1 (ac (ev 0 rfl rfl) (ac (ev 2 rfl rfl) an)) ⟨c, k, rfl, by omega, ?_, rfl⟩) (small_size (by rw [List.length_range]; omega))) rfl
  have := List.mem_range.mp hk
  omega
end
end Lk
/-! the law's corners -/
namespace Lk
open PySem L2 DL
def cSc (n : Int) : Int := [2, 8, 1, 2].getD (n / 4 % 4).toNat 0
def cTm (n : Int) : Int := 1 + n / 16 % 3
def lcor (L : List Int) (m : Nat) : Corner :=
  if L.getD 0 0 % 4 = 3 then ⟨L.getD 2 0 % 2000001 - 1000000, L.getD 3 0 % 2000001 - 1000000, 1 + L.getD 4 0 % 1000000, 1 + L.getD 5 0 % 1000000, (List.range m).map fun (j : Nat) => L.getD (6 + (j : Int)).toNat 0 % 2000001 - 1000000⟩
  else if L.getD 0 0 % 4 = 2 then ⟨L.getD 2 0 % 2001 - 1000, cTm (L.getD 0 0) * (L.getD 1 0 % (cSc (L.getD 0 0) * 8 + 1) - cSc (L.getD 0 0)), 1 + L.getD 1 0 / 4096 % 300, [1, cSc (L.getD 0 0) * cTm (L.getD 0 0), 1 + L.getD 1 0 / 512 % 9, cSc (L.getD 0 0) * cTm (L.getD 0 0)].getD (L.getD 1 0 / 32 % 4).toNat 0, (List.range m).map fun (j : Nat) => L.getD (6 + (j : Int)).toNat 0 % 41 - 10⟩
  else ⟨cTm (L.getD 0 0) * (L.getD 0 0 / 64 % (cSc (L.getD 0 0) * 8 + 1) - cSc (L.getD 0 0)), cTm (L.getD 0 0) * (L.getD 1 0 % (cSc (L.getD 0 0) * 8 + 1) - cSc (L.getD 0 0)), cSc (L.getD 0 0) * cTm (L.getD 0 0), [1, cSc (L.getD 0 0) * cTm (L.getD 0 0), 1 + L.getD 1 0 / 512 % 9, cSc (L.getD 0 0) * cTm (L.getD 0 0)].getD (L.getD 1 0 / 32 % 4).toNat 0, (List.range m).map fun (j : Nat) => L.getD (6 + (j : Int)).toNat 0 % 41 - 10⟩
theorem four {k : Int} : k % 4 = 0 ∨ k % 4 = 1 ∨ k % 4 = 2 ∨ k % 4 = 3 := by omega
theorem cSc_bd (n : Int) : 1 ≤ cSc n ∧ cSc n ≤ 8 := by
  unfold cSc
  rcases four (k := n / 4) with h | h | h | h <;> rw [h] <;> decide
theorem cTm_bd (n : Int) : 1 ≤ cTm n ∧ cTm n ≤ 3 := by
  unfold cTm
  omega
theorem prod_bd {a b : Int} {m n : Nat} (ha : a.natAbs ≤ m) (hb : b.natAbs ≤ n) : (a * b).natAbs ≤ m * n := by
  rw [Int.natAbs_mul]
  exact Nat.mul_le_mul ha hb
theorem off_bd {n sc : Int} (h1 : 1 ≤ sc) (h2 : sc ≤ 8) : (n % (sc * 8 + 1) - sc).natAbs ≤ 100 := by
  have b0 := Int.emod_nonneg n (show sc * 8 + 1 ≠ 0 by omega)
  have b1 := Int.emod_lt_of_pos n (show 0 < sc * 8 + 1 by omega)
  omega
theorem wd_bd (n : Int) : 1 ≤ cSc n * cTm n ∧ cSc n * cTm n ≤ 24 := by
  have h1 := cSc_bd n
  have h2 := cTm_bd n
  generalize cSc n = a at *
  generalize cTm n = b at *
  have hb : b = 1 ∨ b = 2 ∨ b = 3 := by omega
  rcases hb with rfl | rfl | rfl <;> omega
theorem hd_bd (w o : Int) (h1 : 1 ≤ w) (h2 : w ≤ 24) : 1 ≤ [1, w, 1 + o / 512 % 9, w].getD (o / 32 % 4).toNat 0 ∧ [1, w, 1 + o / 512 % 9, w].getD (o / 32 % 4).toNat 0 ≤ 24 := by
  rcases four (k := o / 32) with h | h | h | h <;> rw [h]
  · show 1 ≤ (1 : Int) ∧ (1 : Int) ≤ 24
    decide
  · exact ⟨h1, h2⟩
  · show 1 ≤ 1 + o / 512 % 9 ∧ 1 + o / 512 % 9 ≤ 24
    omega
  · exact ⟨h1, h2⟩
structure LCor (m : Nat) (c : Corner) : Prop where
  ok : m ≤ 3 → OkC c
  len : c.vs.length = m
  bd : Bd (2 ^ 20) c
theorem lcor_ok (L : List Int) (m : Nat) : LCor m (lcor L m) := by
  have hs := cSc_bd (L.getD 0 0)
  have ht := cTm_bd (L.getD 0 0)
  have hw := wd_bd (L.getD 0 0)
  have hh := hd_bd (cSc (L.getD 0 0) * cTm (L.getD 0 0)) (L.getD 1 0) hw.1 hw.2
  have p1 := prod_bd (m := 3) (n := 100) (a := cTm (L.getD 0 0)) (by omega) (off_bd (n := L.getD 0 0 / 64) hs.1 hs.2)
  have p2 := prod_bd (m := 3) (n := 100) (a := cTm (L.getD 0 0)) (by omega) (off_bd (n := L.getD 1 0) hs.1 hs.2)
  unfold lcor
  generalize cTm (L.getD 0 0) * (L.getD 0 0 / 64 % (cSc (L.getD 0 0) * 8 + 1) - cSc (L.getD 0 0)) = x0 at *
  generalize cTm (L.getD 0 0) * (L.getD 1 0 % (cSc (L.getD 0 0) * 8 + 1) - cSc (L.getD 0 0)) = y0 at *
  generalize [1, cSc (L.getD 0 0) * cTm (L.getD 0 0), 1 + L.getD 1 0 / 512 % 9, cSc (L.getD 0 0) * cTm (L.getD 0 0)].getD (L.getD 1 0 / 32 % 4).toNat 0 = h0 at *
  generalize cSc (L.getD 0 0) * cTm (L.getD 0 0) = w0 at *
  have e1 := Int.emod_nonneg (L.getD 2 0) (show (2000001 : Int) ≠ 0 by decide)
  have e2 := Int.emod_lt_of_pos (L.getD 2 0) (show (0 : Int) < 2000001 by decide)
  have e3 := Int.emod_nonneg (L.getD 3 0) (show (2000001 : Int) ≠ 0 by decide)
  have e4 := Int.emod_lt_of_pos (L.getD 3 0) (show (0 : Int) < 2000001 by decide)
  have e5 := Int.emod_nonneg (L.getD 4 0) (show (1000000 : Int) ≠ 0 by decide)
  have e6 := Int.emod_lt_of_pos (L.getD 4 0) (show (0 : Int) < 1000000 by decide)
  have e7 := Int.emod_nonneg (L.getD 5 0) (show (1000000 : Int) ≠ 0 by decide)
  have e8 := Int.emod_lt_of_pos (L.getD 5 0) (show (0 : Int) < 1000000 by decide)
  split
  · refine ⟨fun hm => ⟨by show 1 ≤ 1 + _; omega, by show 0 < 1 + _; omega, by simp; exact hm⟩, by simp, ⟨by show (_ - _ : Int).natAbs < _; omega, by show (_ - _ : Int).natAbs < _; omega, by show (1 + _ : Int).natAbs < _; omega, by show (1 + _ : Int).natAbs < _; omega, fun v hv => ?_⟩⟩
    obtain ⟨j, _, rfl⟩ := List.mem_map.mp hv
    have f1 := Int.emod_nonneg (L.getD (6 + (j : Int)).toNat 0) (show (2000001 : Int) ≠ 0 by decide)
    have f2 := Int.emod_lt_of_pos (L.getD (6 + (j : Int)).toNat 0) (show (0 : Int) < 2000001 by decide)
    omega
  · split
    · refine ⟨fun hm => ⟨hh.1, by show 0 < 1 + _; omega, by simp; exact hm⟩, by simp, ⟨by show (_ - _ : Int).natAbs < _; omega, by show y0.natAbs < _; omega, by show (1 + _ : Int).natAbs < _; omega, by show h0.natAbs < _; omega, fun v hv => ?_⟩⟩
      obtain ⟨j, _, rfl⟩ := List.mem_map.mp hv
      omega
    · refine ⟨fun hm => ⟨hh.1, by show 0 < w0; omega, by simp; exact hm⟩, by simp, ⟨by show x0.natAbs < _; omega, by show y0.natAbs < _; omega, by show w0.natAbs < _; omega, by show h0.natAbs < _; omega, fun v hv => ?_⟩⟩
      obtain ⟨j, _, rfl⟩ := List.mem_map.mp hv
      omega
theorem ixL {C : CxD} {δ : DS} {μ : Mu} {a b : Expr} {pos : Pos} {i : Int} {L : List Int} (j : Nat) (h1 : ED C δ μ a (.lst (L.map D.int))) (h2 : ED C δ μ b (.int i)) (hj : i = (j : Int)) (hl : j < L.length) (hp : PlainIx b := by intro _ _; rfl) : ED C δ μ (.Subscript a b pos) (.int (L.getD j 0)) := by
  refine ix j h1 h2 hj ?_ hp
  rw [List.getElem?_map, List.getElem?_eq_getElem hl, List.getD_eq_getElem?_getD, List.getElem?_eq_getElem hl]
  rfl
section
variable {g : GE} {f : Addr} {fd : FuncData} {A : CA}
def Rlcorner : List D → D → Prop := fun ds d => ∃ (L : List Int) (m : Nat), ds = [.lst (L.map D.int), .int m] ∧ 6 + m ≤ L.length ∧ m ≤ 3 ∧ d = dC (lcor L m)
def corE (L : List Int) (m : Nat) (o x y w h : Int) (vs : List Int) : Corner :=
  if L.getD 0 0 % 4 = 3 then ⟨L.getD 2 0 % 2000001 - 1000000, L.getD 3 0 % 2000001 - 1000000, 1 + L.getD 4 0 % 1000000, 1 + L.getD 5 0 % 1000000, (List.range m).map fun (j : Nat) => L.getD (6 + (j : Int)).toNat 0 % 2000001 - 1000000⟩
  else if L.getD 0 0 % 4 = 2 then ⟨L.getD 2 0 % 2001 - 1000, y, 1 + o / 4096 % 300, h, vs⟩
  else ⟨x, y, w, h, vs⟩
theorem corner_tail (B : Bl g) {L : List Int} {m : Nat} (hl : 6 + m ≤ L.length) (hm : m ≤ 3) (o x y w h : Int) (vs : List Int) (s4 s5 : Option D) :
    SDs ⟨g, n_law_corner, defScope s_law_corner, 0, true⟩ [some (.lst (L.map D.int)), some (.int m), some (.int (L.getD 0 0)), some (.int o), s4, s5, some (.int x), some (.int y), some (.int w), some (.int h), some (.tup (vs.map D.int)), none] [] ((defBody s_law_corner).drop 8) (retE (dC (corE L m o x y w h vs))) := by
  have e6 : ∀ {δ : DS} {μ : Mu} {j1 j2 p1 p2 pos}, ED ⟨g, n_law_corner, defScope s_law_corner, 0, true⟩ δ μ (.BinOp (.Constant (.int 10) j1 p1) .Pow (.Constant (.int 6) j2 p2) pos) (.int 1000000) := fun {_ _ _ _ _ _ _} => ED.to (ebx ei ei (bPow ⟨by decide, by decide, by decide⟩)) (congrArg D.int (show (10 : Int) ^ (6 : Int).toNat = 1000000 from by decide))
  by_cases h3 : L.getD 0 0 % 4 = 3
  · have e : corE L m o x y w h vs = ⟨L.getD 2 0 % 2000001 - 1000000, L.getD 3 0 % 2000001 - 1000000, 1 + L.getD 4 0 % 1000000, 1 + L.getD 5 0 % 1000000, (List.range m).map fun (j : Nat) => L.getD (6 + (j : Int)).toNat 0 % 2000001 - 1000000⟩ := if_pos h3
    rw [e]
    refine sifT (tc (er (ev 2 rfl rfl) ei (by decide)) ei (decide_eq_true h3)) ?_
    refine sset 6 (eb (er (ixL 2 (ev 0 rfl rfl) ei rfl (by omega)) ei (by decide)) e6) ?_
    generalize L.getD 2 0 % 2000001 - 1000000 = X2
    refine sset 7 (eb (er (ixL 3 (ev 0 rfl rfl) ei rfl (by omega)) ei (by decide)) e6) ?_
    generalize L.getD 3 0 % 2000001 - 1000000 = X3
    refine sset 8 (eb ei (er (ixL 4 (ev 0 rfl rfl) ei rfl (by omega)) e6 (by decide))) ?_
    generalize 1 + L.getD 4 0 % 1000000 = X4
    refine sset 9 (eb ei (er (ixL 5 (ev 0 rfl rfl) ei rfl (by omega)) e6 (by decide))) ?_
    generalize 1 + L.getD 5 0 % 1000000 = X5
    have e6b : ∀ {δ : DS} {μ : Mu} {j1 j2 p1 p2 pos scope}, ED (CxD.blk ⟨g, n_law_corner, defScope s_law_corner, 0, true⟩ scope) δ μ (.BinOp (.Constant (.int 10) j1 p1) .Pow (.Constant (.int 6) j2 p2) pos) (.int 1000000) := fun {_ _ _ _ _ _ _ _} => ED.to (ebx ei ei (bPow ⟨by decide, by decide, by decide⟩)) (congrArg D.int (show (10 : Int) ^ (6 : Int).toNat = 1000000 from by decide))
    refine sset 10 (ct (ac (lcx [("_law_j", 11)] (List.range m) (fun (j : Nat) => .int (j : Nat)) (fun (j : Nat) => .int (L.getD (6 + (j : Int)).toNat 0 % 2000001 - 1000000)) (show _ = ((List.range m).map fun (j : Nat) => L.getD (6 + (j : Int)).toNat 0 % 2000001 - 1000000).map D.int from by rw [List.map_map]; rfl) (idr (ev 1 rfl rfl) ⟨by omega, by omega⟩ B.range) (by unfold rangeD; rw [Int.toNat_natCast]) (fun j hj => te (gn 11) fun _ => eb (er (ixI (ev 0 rfl rfl) (eb ei (ev 11 rfl rfl)) (by omega) (by have := List.mem_range.mp hj; omega)) ei (by decide)) e6b) (small_size (by rw [List.length_range]; omega))) an) kTp B.tuple) (s0 ?_)
    generalize ((List.range m).map fun (j : Nat) => L.getD (6 + (j : Int)).toNat 0 % 2000001 - 1000000) = X6
    refine sifN (tc (er (ev 2 rfl rfl) ei (by decide)) ei (decide_eq_false (by omega))) ?_
    exact sret (et (ac (ev 6 rfl rfl) (ac (ev 7 rfl rfl) (ac (ev 8 rfl rfl) (ac (ev 9 rfl rfl) (ac (ev 10 rfl rfl) an)))))) rfl
  · refine sifN (tc (er (ev 2 rfl rfl) ei (by decide)) ei (decide_eq_false h3)) ?_
    by_cases h4 : L.getD 0 0 % 4 = 2
    · refine sifT (tc (er (ev 2 rfl rfl) ei (by decide)) ei (decide_eq_true h4)) ?_
      refine sset 8 (eb ei (er (ed (ev 3 rfl rfl) ei (by decide)) ei (by decide))) ?_
      refine sset 6 (eb (er (ixL 2 (ev 0 rfl rfl) ei rfl (by omega)) ei (by decide)) ei) (s0 ?_)
      have e := (if_neg h3).trans (if_pos h4) (a := corE L m o x y w h vs)
      rw [e]
      exact sret (et (ac (ev 6 rfl rfl) (ac (ev 7 rfl rfl) (ac (ev 8 rfl rfl) (ac (ev 9 rfl rfl) (ac (ev 10 rfl rfl) an)))))) rfl
    · refine sifN (tc (er (ev 2 rfl rfl) ei (by decide)) ei (decide_eq_false h4)) ?_
      have e := (if_neg h3).trans (if_neg h4) (a := corE L m o x y w h vs)
      rw [e]
      exact sret (et (ac (ev 6 rfl rfl) (ac (ev 7 rfl rfl) (ac (ev 8 rfl rfl) (ac (ev 9 rfl rfl) (ac (ev 10 rfl rfl) an)))))) rfl
set_option maxHeartbeats 400000 in
theorem ok_law_corner (F : FnP g "_law_corner" s_law_corner f fd) (B : Bl g) : OkD g 1 f fd p_law_corner Rlcorner := by
  refine pure_def F sc_law_corner (fun ds d ⟨a, _, h1, h2⟩ => by rw [h1]; rfl) ?_
  rintro ds d ⟨L, m, rfl, hl, hm, rfl⟩
  have h2 : D.lst (cutD (L.map D.int) none (some 2)) = .lst [.int (L.getD 0 0), .int (L.getD 1 0)] := by
    show D.lst (cutD (L.map D.int) none (some ((2 : Nat) : Int))) = _
    rw [cutD_take]
    match L, hl with
    | a :: b :: L, _ => rfl
    | [_], h => exact absurd h (by simp <;> omega)
    | [], h => exact absurd h (by simp <;> omega)
  have hs := cSc_bd (L.getD 0 0)
  have ht := cTm_bd (L.getD 0 0)
  refine sasg (ED.to (slL (ev 0 rfl rfl) p0 (p1 ei)) h2) (gl (gs (gn 2) (gs (gn 3) gs0))) ?_
  refine sset 4 (ixI (L := [2, 8, 1, 2]) (el (ac ei (ac ei (ac ei (ac ei an))))) (er (ed (ev 2 rfl rfl) ei (by decide)) ei (by decide)) (by omega) (by show _ < (4 : Int); omega)) ?_
  refine sset 5 (eb ei (er (ed (ev 2 rfl rfl) ei (by decide)) ei (by decide))) ?_
  refine sset 6 (em (ev 5 rfl rfl) (eb (er (ed (ev 2 rfl rfl) ei (by decide)) (eb (em (ev 4 rfl rfl) ei (.inr (by decide))) ei) (by show 0 < cSc (L.getD 0 0) * 8 + 1; omega)) (ev 4 rfl rfl)) (.inl (by show -(2 ^ 64) < cTm (L.getD 0 0) ∧ cTm (L.getD 0 0) < 2 ^ 64; omega))) ?_
  refine sset 7 (em (ev 5 rfl rfl) (eb (er (ev 3 rfl rfl) (eb (em (ev 4 rfl rfl) ei (.inr (by decide))) ei) (by show 0 < cSc (L.getD 0 0) * 8 + 1; omega)) (ev 4 rfl rfl)) (.inl (by show -(2 ^ 64) < cTm (L.getD 0 0) ∧ cTm (L.getD 0 0) < 2 ^ 64; omega))) ?_
  refine sset 8 (em (ev 4 rfl rfl) (ev 5 rfl rfl) (.inl (by show -(2 ^ 64) < cSc (L.getD 0 0) ∧ cSc (L.getD 0 0) < 2 ^ 64; omega))) ?_
  refine sset 9 (ixI (L := [1, cSc (L.getD 0 0) * cTm (L.getD 0 0), 1 + L.getD 1 0 / 512 % 9, cSc (L.getD 0 0) * cTm (L.getD 0 0)]) (el (ac ei (ac (ev 8 rfl rfl) (ac (eb ei (er (ed (ev 3 rfl rfl) ei (by decide)) ei (by decide))) (ac (ev 8 rfl rfl) an))))) (er (ed (ev 3 rfl rfl) ei (by decide)) ei (by decide)) (by omega) (by show _ < (4 : Int); omega)) ?_
  refine sset 10 (ct (ac (lcx [("_law_j", 11)] (List.range m) (fun (j : Nat) => .int (j : Nat)) (fun (j : Nat) => .int (L.getD (6 + (j : Int)).toNat 0 % 41 - 10)) (show _ = ((List.range m).map fun (j : Nat) => L.getD (6 + (j : Int)).toNat 0 % 41 - 10).map D.int from by rw [List.map_map]; rfl) (idr (ev 1 rfl rfl) ⟨by omega, by omega⟩ B.range) (by unfold rangeD; rw [Int.toNat_natCast]) (fun j hj => te (gn 11) fun _ => eb (er (ixI (ev 0 rfl rfl) (eb ei (ev 11 rfl rfl)) (by omega) (by have := List.mem_range.mp hj; omega)) ei (by decide)) ei) (small_size (by rw [List.length_range]; omega))) an) kTp B.tuple) ?_
  exact corner_tail B hl hm _ _ _ _ _ _ _ _
end
end Lk
/-! the law's triangles -/
namespace Lk
open PySem L2 DL
def lrows (ns : List Int) (m : Nat) : List (List Int) := (List.range 6).map fun (k : Nat) => ldraws (ns.getD k 0) (3 * (6 + m))
def lpool (ns : List Int) (m : Nat) : List Corner := (lrows ns m).map fun row => lcor (row.take (6 + m)) m
def c0 : Corner := ⟨0, 0, 0, 0, []⟩
def lsub (ns : List Int) (m k j : Nat) : Corner := lcor ((((lrows ns m).getD k []).drop ((6 + m) * j)).take (6 + m)) m
def lpick (ns : List Int) (m : Nat) (i : Int) : Corner := (lpool ns m).getD i.toNat c0
def ltriN (ns : List Int) (m k : Nat) (n : Int) : Tri := if n / 216 % 4 = 1 then ⟨lsub ns m k 0, lsub ns m k 1, lsub ns m k 2⟩ else ⟨lpick ns m (n % 6), lpick ns m (n / 6 % 6), lpick ns m (n / 36 % 6)⟩
def ltri (ns : List Int) (m k : Nat) : Tri := ltriN ns m k ((ldraws (ns.getD 6 0) 6).getD (1 + (k : Int)).toNat 0)
def ltris (ns : List Int) (m : Nat) : List Tri := (List.range ((ldraws (ns.getD 6 0) 6).getD 0 0 % (5 + 1)).toNat).map (ltri ns m)
structure LTri (m : Nat) (t : Tri) : Prop where
  cs : ∀ c ∈ t.cs, LCor m c
theorem LTri.ok {m : Nat} {t : Tri} (h : LTri m t) (hm : m ≤ 3) : OkT t := by
  have ha := h.cs t.a (by simp)
  have hb := h.cs t.b (by simp)
  have hc := h.cs t.c (by simp)
  exact ⟨ha.ok hm, hb.ok hm, hc.ok hm, hb.len.trans ha.len.symm, hc.len.trans ha.len.symm⟩
theorem lrows_len (ns : List Int) (m : Nat) : (lrows ns m).length = 6 := by simp [lrows]
theorem lpool_len (ns : List Int) (m : Nat) : (lpool ns m).length = 6 := by simp [lpool, lrows]
theorem lpick_ok {ns : List Int} {m : Nat} {i : Int} (h0 : 0 ≤ i) (h1 : i < 6) : LCor m (lpick ns m i) := by
  have hl : i.toNat < (lpool ns m).length := by rw [lpool_len]; omega
  unfold lpick
  rw [List.getD_eq_getElem?_getD, List.getElem?_eq_getElem hl]
  have hm : (lpool ns m)[i.toNat] ∈ lpool ns m := List.getElem_mem hl
  obtain ⟨r, _, hr⟩ := List.mem_map.mp hm
  show LCor m ((lpool ns m)[i.toNat])
  rw [← hr]
  exact lcor_ok _ _
theorem ltriN_ok {ns : List Int} {m k : Nat} {n : Int} : LTri m (ltriN ns m k n) := by
  unfold ltriN
  split
  · refine ⟨fun c hc => ?_⟩
    simp only [Tri.cs, List.mem_cons, List.not_mem_nil, or_false] at hc
    rcases hc with rfl | rfl | rfl <;> exact lcor_ok _ _
  · refine ⟨fun c hc => ?_⟩
    simp only [Tri.cs, List.mem_cons, List.not_mem_nil, or_false] at hc
    rcases hc with rfl | rfl | rfl <;> exact lpick_ok (by omega) (by omega)
theorem ltris_ok {ns : List Int} {m : Nat} : ∀ t ∈ ltris ns m, LTri m t := fun t ht => by
  obtain ⟨k, _, rfl⟩ := List.mem_map.mp ht
  exact ltriN_ok
theorem ltris_len (ns : List Int) (m : Nat) : (ltris ns m).length ≤ 5 := by
  unfold ltris
  rw [List.length_map, List.length_range]
  omega
theorem cutD_mid {ds : List D} {a b : Nat} (hab : a ≤ b) (hb : b ≤ ds.length) : cutD ds (some (a : Int)) (some (b : Int)) = (ds.drop a).take (b - a) := by
  unfold cutD
  rw [HT.sIx_nat, HT.sIx_nat, Nat.min_eq_left hb, Nat.min_eq_left (by omega)]
theorem getD_nn {c : Int} {m : Nat} (j : Nat) : 0 ≤ (ldraws c m).getD j 0 ∧ (ldraws c m).getD j 0 < 2147483648 := by
  rw [List.getD_eq_getElem?_getD]
  cases h : (ldraws c m)[j]? with
  | none => exact ⟨by decide, by decide⟩
  | some x => exact ldraws_mem x (List.mem_of_getElem? h)
section
variable {g : GE} {f : Addr} {fd : FuncData} {A : CA}
def Rltriangles : List D → D → Prop := fun ds d => ∃ (ns : List Int) (m : Nat), ds = [.lsr (ns.map D.int), .int 0, .int 5, .int m] ∧ m ≤ 3 ∧ d = .lst ((ltris ns m).map dT)
abbrev dRw (r : List Int) : D := .lst (r.map D.int)
theorem tri_body (B : Bl g) (c3 : Cal g "_law_corner" 1 (spR g.K Rlcorner)) {ns : List Int} {m k : Nat} {n : Int} {q : Addr} {acc : List Tri} (hm : m ≤ 3) (hk : k < 5) (hn : 0 ≤ n) (ha : acc.length ≤ 10) (sA sB sC : D) (s11 : Option D) (E : EndsD)
    (hE : ∀ s11, E.nx [some sA, some sB, some sC, some (.int m), some (.int ((6 + m : Nat) : Int)), some (.lst ((lrows ns m).map dRw)), some (.lst ((lpool ns m).map dC)), some (dRw (ldraws (ns.getD 6 0) 6)), some (.ptr q), some (.int k), some (.int n), s11, none, none] [(q, .lst ((acc ++ [ltriN ns m k n]).map dT))]) :
    SDs ⟨g, n_law_triangles, defScope s_law_triangles, 2, true⟩ [some sA, some sB, some sC, some (.int m), some (.int ((6 + m : Nat) : Int)), some (.lst ((lrows ns m).map dRw)), some (.lst ((lpool ns m).map dC)), some (dRw (ldraws (ns.getD 6 0) 6)), some (.ptr q), some (.int k), some (.int n), s11, none, none] [(q, .lst (acc.map dT))] ((match (defBody s_law_triangles).getD 5 (.Pass ⟨0, 0, 0, 0⟩) with | .For _ _ b _ _ => b | _ => []).drop 1) E := by
  have hpl := lpool_len ns m
  have hrl := lrows_len ns m
  refine sset 11 (el (ac (ixG (L := lpool ns m) c0 (ev 6 rfl rfl) (er (ev 10 rfl rfl) ei (by decide)) (by omega) (by omega)) (ac (ixG (L := lpool ns m) c0 (ev 6 rfl rfl) (er (ed (ev 10 rfl rfl) ei (by decide)) ei (by decide)) (by omega) (by omega)) (ac (ixG (L := lpool ns m) c0 (ev 6 rfl rfl) (er (ed (ev 10 rfl rfl) ei (by decide)) ei (by decide)) (by omega) (by omega)) an)))) ?_
  by_cases hc : n / 216 % 4 = 1
  · refine sifT (tc (er (ed (ev 10 rfl rfl) ei (by decide)) ei (by decide)) ei (decide_eq_true hc)) ?_
    refine slx 11 [("_law_j", 13)] (List.range 3) (fun (j : Nat) => .int (j : Nat)) (fun (j : Nat) => dC (lsub ns m k j)) (idr ei ⟨by decide, by decide⟩ B.range) rfl (fun j hj => te (gn 13) fun _ => cl c3 (ac (ED.to (slL (ixG (L := lrows ns m) (g := dRw) [] (ev 5 rfl rfl) (ev 9 rfl rfl) (by omega) (by omega)) (p1 (em (ev 4 rfl rfl) (ev 13 rfl rfl) (.inl (by omega)))) (p1 (eb (em (ev 4 rfl rfl) (ev 13 rfl rfl) (.inl (by omega))) (ev 4 rfl rfl)))) (show _ = D.lst (((((lrows ns m).getD k []).drop ((6 + m) * j)).take (6 + m)).map D.int) from ?_)) (ac (ev 3 rfl rfl) an)) ⟨_, m, rfl, ?_, hm, rfl⟩) (tiny_size rfl) (s0 ?_)
    · have hj := List.mem_range.mp hj
      have hkk : (lrows ns m).getD (Int.toNat k) [] = (lrows ns m).getD k [] := by rw [Int.toNat_natCast]
      have hlen : ((lrows ns m).getD k []).length = 3 * (6 + m) := by
        rw [List.getD_eq_getElem?_getD, List.getElem?_eq_getElem (by omega)]
        have hmem : (lrows ns m)[k]'(by omega) ∈ lrows ns m := List.getElem_mem _
        obtain ⟨i, _, hi⟩ := List.mem_map.mp hmem
        show ((lrows ns m)[k]'(by omega)).length = _
        rw [← hi, ldraws_len]
      rw [hkk]
      have e1 : (((6 + m : Nat) : Int) * (j : Int)) = (((6 + m) * j : Nat) : Int) := by rw [Int.natCast_mul]
      have e2 : ((((6 + m) * j : Nat) : Int) + ((6 + m : Nat) : Int)) = (((6 + m) * j + (6 + m) : Nat) : Int) := by rw [← Int.natCast_add]
      have hb : (6 + m) * j + (6 + m) ≤ 3 * (6 + m) := by
        have : (6 + m) * j ≤ (6 + m) * 2 := Nat.mul_le_mul_left _ (by omega)
        omega
      rw [e1, e2, cutD_mid (by omega) (by rw [List.length_map, hlen]; exact hb), Nat.add_sub_cancel_left, List.map_take, List.map_drop]
    · have hj := List.mem_range.mp hj
      have hlen : ((lrows ns m).getD k []).length = 3 * (6 + m) := by
        rw [List.getD_eq_getElem?_getD, List.getElem?_eq_getElem (by omega)]
        have hmem : (lrows ns m)[k]'(by omega) ∈ lrows ns m := List.getElem_mem _
        obtain ⟨i, _, hi⟩ := List.mem_map.mp hmem
        show ((lrows ns m)[k]'(by omega)).length = _
        rw [← hi, ldraws_len]
      have : (6 + m) * j ≤ (6 + m) * 2 := Nat.mul_le_mul_left _ (by omega)
      rw [List.length_take, List.length_drop, hlen]
      omega
    refine sapp 0 (ev 8 rfl rfl) (et (ac (ix 0 (ev 11 rfl rfl) ei rfl rfl) (ac (ix 1 (ev 11 rfl rfl) ei rfl rfl) (ac (ix 2 (ev 11 rfl rfl) ei rfl rfl) an)))) ?_ ?_
    · exact small_size (by rw [List.length_map]; omega)
    refine s0 ?_
    have e : ltriN ns m k n = ⟨lsub ns m k 0, lsub ns m k 1, lsub ns m k 2⟩ := if_pos hc
    have := hE (some (.lst ((List.range 3).map fun (j : Nat) => dC (lsub ns m k j))))
    rw [e, List.map_append] at this
    exact this
  · refine sifN (tc (er (ed (ev 10 rfl rfl) ei (by decide)) ei (by decide)) ei (decide_eq_false hc)) ?_
    refine sapp 0 (ev 8 rfl rfl) (et (ac (ix 0 (ev 11 rfl rfl) ei rfl rfl) (ac (ix 1 (ev 11 rfl rfl) ei rfl rfl) (ac (ix 2 (ev 11 rfl rfl) ei rfl rfl) an)))) ?_ ?_
    · exact small_size (by rw [List.length_map]; omega)
    refine s0 ?_
    have e : ltriN ns m k n = ⟨lpick ns m (n % 6), lpick ns m (n / 6 % 6), lpick ns m (n / 36 % 6)⟩ := if_neg hc
    have := hE (some (.lst [dC (lpick ns m (n % 6)), dC (lpick ns m (n / 6 % 6)), dC (lpick ns m (n / 36 % 6))]))
    rw [e, List.map_append] at this
    exact this
theorem ok_law_triangles (F : FnP g "_law_triangles" s_law_triangles f fd) (B : Bl g) (c1 : Cal g "_law_draws" 2 (spR g.K Rldraws)) (c2 : Cal g "_law_cell_at" 1 (spR g.K Rcell_at)) (c3 : Cal g "_law_corner" 1 (spR g.K Rlcorner)) : OkD g 3 f fd p_law_triangles Rltriangles := by
  refine pure_def F sc_law_triangles (fun ds d ⟨a, _, h1, h2⟩ => by rw [h1]; rfl) ?_
  rintro ds d ⟨ns, m, rfl, hm, rfl⟩
  refine sset 4 (ED.to (eb ei (ev 3 rfl rfl)) (show _ = D.int ((6 + m : Nat) : Int) from congrArg D.int (by omega))) ?_
  refine ssetC 5 (lcx (es := (lrows ns m).map dRw) [("_law_k", 9)] (List.range 6) (fun (k : Nat) => .int (k : Nat)) (fun (k : Nat) => dRw (ldraws (ns.getD k 0) (3 * (6 + m)))) (by unfold lrows; rw [List.map_map]; rfl) (idr ei ⟨by decide, by decide⟩ B.range) rfl (fun k _ => te (gn 9) fun _ => cl c1 (ac (cl c2 (ac (ev 0 rfl rfl) (ac (ED.to (eb (ev 1 rfl rfl) (ev 9 rfl rfl)) (show _ = D.int (k : Nat) from congrArg D.int (by omega))) an)) ⟨ns, k, rfl, rfl⟩) (ac (ED.to (em ei (ev 4 rfl rfl) (.inl (by decide))) (show _ = D.int ((3 * (6 + m) : Nat) : Int) from congrArg D.int (by omega))) an)) ⟨_, 3 * (6 + m), rfl, by omega, rfl⟩) (tiny_size rfl)) ?_
  refine slx 6 [("_law_row", 12)] (lrows ns m) dRw (fun row => dC (lcor (row.take (6 + m)) m)) (idl (ev 5 rfl rfl)) rfl (fun row hr => te (gn 12) fun _ => cl c3 (ac (ED.to (slL (ev 12 rfl rfl) p0 (p1 (ev 4 rfl rfl))) (show _ = D.lst ((row.take (6 + m)).map D.int) from by rw [cutD_take, List.map_take])) (ac (ev 3 rfl rfl) an)) ⟨_, m, rfl, ?_, hm, rfl⟩) (small_size (by rw [lrows_len]; omega)) ?_
  · obtain ⟨k, _, rfl⟩ := List.mem_map.mp hr
    rw [List.length_take, ldraws_len]
    omega
  have e2 : (lrows ns m).map (fun row => dC (lcor (row.take (6 + m)) m)) = (lpool ns m).map dC := by unfold lpool; rw [List.map_map]; rfl
  rw [e2]
  refine sset 7 (cl c1 (ac (cl c2 (ac (ev 0 rfl rfl) (ac (ED.to (eb (ev 1 rfl rfl) ei) (show _ = D.int ((6 : Nat) : Int) from rfl)) an)) ⟨ns, 6, rfl, rfl⟩) (ac (ED.to (eb (ev 2 rfl rfl) ei) (show _ = D.int ((6 : Nat) : Int) from rfl)) an)) ⟨_, 6, rfl, by omega, rfl⟩) ?_
  refine snewL 8 an fun q => ?_
  have hd := getD_nn (c := ns.getD 6 0) (m := 6) 0
  refine sfor (fun i δ μ => (∃ o9 o10 o11, δ = [some (.lsr (ns.map D.int)), some (.int 0), some (.int 5), some (.int m), some (.int ((6 + m : Nat) : Int)), some (.lst ((lrows ns m).map dRw)), some (.lst ((lpool ns m).map dC)), some (dRw (ldraws (ns.getD 6 0) 6)), some (.ptr q), o9, o10, o11, none, none]) ∧ μ = [(q, .lst (((List.range i).map (ltri ns m)).map dT))]) (idr (er (ixL 0 (ev 7 rfl rfl) ei rfl (by rw [ldraws_len]; omega)) (eb (ev 2 rfl rfl) ei) (by decide)) ⟨by omega, by omega⟩ B.range) ⟨⟨_, _, _, rfl⟩, rfl⟩ ?_ ?_
  · rintro i d δ μ hd ⟨⟨o9, o10, o11, rfl⟩, rfl⟩
    unfold rangeD at hd
    rw [List.getElem?_map] at hd
    obtain ⟨k, hk, rfl⟩ := Option.map_eq_some_iff.mp hd
    have hk' := List.getElem?_eq_some_iff.mp hk
    obtain ⟨hk1, hk2⟩ := hk'
    rw [List.getElem_range] at hk2
    subst hk2
    rw [List.length_range] at hk1
    have hi5 : i < 5 := by omega
    refine ⟨_, _, gn 9, ?_⟩
    refine sset 10 (ixI (ev 7 rfl rfl) (eb ei (ev 9 rfl rfl)) (by omega) (by rw [ldraws_len]; omega)) ?_
    refine tri_body B c3 (acc := (List.range i).map (ltri ns m)) hm hi5 (getD_nn _).1 (by rw [List.length_map, List.length_range]; omega) _ _ _ _ _ fun s11 => ⟨⟨_, _, _, rfl⟩, ?_⟩
    simp only [List.range_succ, List.map_append]
    rfl
  · rintro δ μ ⟨⟨o9, o10, o11, rfl⟩, rfl⟩
    refine SDs.freeze 8 rfl ?_
    refine sret (ev 8 rfl rfl) ?_
    show D.lst _ = D.lst _
    unfold rangeD ltris
    rw [List.length_map, List.length_range]
end
end Lk
/-! the law's patterns and things -/
namespace Lk
open PySem L2 DL
theorem rat_ok {t b : Int} (hb : 0 < b) (h1 : t.natAbs < 10 ^ 30) (h2 : b.natAbs < 10 ^ 30) : OkF (rat t b) := by
  have hg : 0 < Int.gcd t b := Int.gcd_pos_of_ne_zero_right t (by omega)
  have hd : ((Int.gcd t b : Nat) : Int) ∣ b := Int.gcd_dvd_right _ _
  refine ⟨?_, ?_, ?_, ?_⟩
  · exact div_pos_of_dvd (by omega) hb hd
  · exact Int.gcd_ediv_gcd_ediv_gcd hg
  · exact Nat.lt_of_le_of_lt (Int.natAbs_ediv_le_natAbs _ _) h1
  · exact Nat.lt_of_le_of_lt (Int.natAbs_ediv_le_natAbs _ _) h2
theorem one_ok {t : Int} (h1 : t.natAbs < 10 ^ 30) : OkF (t, 1) := ⟨by show (0 : Int) < 1; decide, by simp, h1, by show (1 : Nat) < 10 ^ 30; decide⟩
def lpr (n : Int) : Int := [1, 2, 4, 16].getD (n % 4).toNat 0
def lpc (n : Int) : Int := [1, 2, 8, 4].getD (n / 4 % 4).toNat 0
theorem lpr_bd (n : Int) : lpr n ∈ sides := by
  unfold lpr
  rcases four (k := n) with h | h | h | h <;> rw [h] <;> decide
theorem lpc_bd (n : Int) : lpc n ∈ sides := by
  unfold lpc
  rcases four (k := n / 4) with h | h | h | h <;> rw [h] <;> decide
def lcell (n x : Int) : F2 := [(x % 7, 1), rat (x - 1000000000) (1 + x / 9 % 99)].getD (n / 16 % 2).toNat (0, 1)
def lrow (n more : Int) (r : Nat) : List F2 := (List.range (lpc n).toNat).map fun (c : Nat) => lcell n (lmix more (20 * (r : Int) + (c : Int)))
def lpat (n more : Int) : Pat := (List.range (lpr n).toNat).map (lrow n more)
theorem lcell_ok {n x : Int} (h0 : 0 ≤ x) (h1 : x < 2147483648) : OkF (lcell n x) := by
  unfold lcell
  have h : n / 16 % 2 = 0 ∨ n / 16 % 2 = 1 := by omega
  rcases h with h | h <;> rw [h]
  · exact one_ok (small30 (n := 7) (by omega) (by decide))
  · exact rat_ok (by omega) (small30 (n := 10000000000) (by omega) (by decide)) (small30 (n := 100) (by omega) (by decide))
theorem lpat_ok (n more : Int) : OkP (lpat n more) := by
  have h1 := sides16 _ (lpr_bd n)
  have h2 := sides16 _ (lpc_bd n)
  have hl : ∀ r, (lrow n more r).length = (lpc n).toNat := fun r => by simp [lrow]
  have hall : ∀ r ∈ lpat n more, r.length = (lpc n).toNat := fun r hr => by
    obtain ⟨i, _, rfl⟩ := List.mem_map.mp hr
    exact hl i
  have hlen : (lpat n more).length = (lpr n).toNat := by simp [lpat]
  refine ⟨?_, fun r hr => ⟨?_, ?_⟩, fun r hr f hf => ?_⟩
  · rw [hlen, Int.toNat_of_nonneg (by omega)]
    exact lpr_bd n
  · rw [hall r hr, Int.toNat_of_nonneg (by omega)]
    exact lpc_bd n
  · rw [hall r hr]
    cases hp : lpat n more with
    | nil => rw [hp] at hr; cases hr
    | cons q qs =>
      have := hall q (by rw [hp]; simp)
      rw [List.headD_cons, this]
  · obtain ⟨i, _, rfl⟩ := List.mem_map.mp hr
    obtain ⟨c, _, rfl⟩ := List.mem_map.mp hf
    exact lcell_ok (lmix_lo _ _) (lmix_hi _ _)
theorem rg {K i : Nat} {d : D} (h : (rangeD K)[i]? = some d) : d = .int (i : Nat) ∧ i < K := by
  unfold rangeD at h
  rw [List.getElem?_map] at h
  obtain ⟨k, hk, rfl⟩ := Option.map_eq_some_iff.mp h
  obtain ⟨hk1, hk2⟩ := List.getElem?_eq_some_iff.mp hk
  rw [List.getElem_range] at hk2
  subst hk2
  rw [List.length_range] at hk1
  exact ⟨rfl, hk1⟩
theorem rg_len (K : Nat) : (rangeD K).length = K := by simp [rangeD]
section
variable {g : GE} {f : Addr} {fd : FuncData} {A : CA}
def Rlpattern : List D → D → Prop := fun ds d => ∃ n more : Int, ds = [.int n, .int more] ∧ 0 ≤ n ∧ d = dP (lpat n more)
theorem e9 {C : CxD} {δ : DS} {μ : Mu} {j1 j2 p1 p2 pos} : ED C δ μ (.BinOp (.Constant (.int 10) j1 p1) .Pow (.Constant (.int 9) j2 p2) pos) (.int 1000000000) := ED.to (ebx ei ei (bPow ⟨by decide, by decide, by decide⟩)) (congrArg D.int (show (10 : Int) ^ (9 : Int).toNat = 1000000000 from by decide))
theorem small_log {b : Int} (h : b.natAbs < 10 ^ 30) : b.natAbs.log2 < 9000 := by
  have := log_of (n := b.natAbs) (k := 100) (by omega) (by decide)
  omega
theorem ok_law_pattern (F : FnP g "_law_pattern" s_law_pattern f fd) (B : Bl g) (c1 : Cal g "_law_mixed" 1 (spR g.K Rlmixed)) (c2 : Cal g "ratio" 2 (spR g.K Rratio)) : OkD g 3 f fd p_law_pattern Rlpattern := by
  refine pure_def F sc_law_pattern (fun ds d ⟨a, _, h1, h2⟩ => by rw [h1]; rfl) ?_
  rintro ds d ⟨n, more, rfl, hn, rfl⟩
  have hr := sides16 _ (lpr_bd n)
  have hc := sides16 _ (lpc_bd n)
  refine sset 2 (ED.to (ixI (L := [1, 2, 4, 16]) (el (ac ei (ac ei (ac ei (ac ei an))))) (er (ev 0 rfl rfl) ei (by decide)) (by omega) (by show _ < (4 : Int); omega)) (show _ = D.int (lpr n) from rfl)) ?_
  refine sset 3 (ED.to (ixI (L := [1, 2, 8, 4]) (el (ac ei (ac ei (ac ei (ac ei an))))) (er (ed (ev 0 rfl rfl) ei (by decide)) ei (by decide)) (by omega) (by show _ < (4 : Int); omega)) (show _ = D.int (lpc n) from rfl)) ?_
  refine snewL 4 an fun q => ?_
  refine sfor (fun i δ μ => (∃ o5 o6 o7 o8, δ = [some (.int n), some (.int more), some (.int (lpr n)), some (.int (lpc n)), some (.ptr q), o5, o6, o7, o8]) ∧ μ = [(q, .lst (((List.range i).map (lrow n more)).map dRow))]) (idr (ev 2 rfl rfl) ⟨by omega, by omega⟩ B.range) ⟨⟨_, _, _, _, rfl⟩, rfl⟩ ?_ ?_
  · rintro i d δ μ hd ⟨⟨o5, o6, o7, o8, rfl⟩, rfl⟩
    obtain ⟨rfl, hi⟩ := rg hd
    refine ⟨_, _, gn 5, ?_⟩
    refine snewL 6 an fun w => ?_
    refine sfor (fun j δ μ => (∃ o7 o8, δ = [some (.int n), some (.int more), some (.int (lpr n)), some (.int (lpc n)), some (.ptr q), some (.int i), some (.ptr w), o7, o8]) ∧ μ = [(w, .lst (((List.range j).map fun (c : Nat) => lcell n (lmix more (20 * (i : Int) + (c : Int)))).map dF)), (q, .lst (((List.range i).map (lrow n more)).map dRow))]) (idr (ev 3 rfl rfl) ⟨by omega, by omega⟩ B.range) ⟨⟨_, _, rfl⟩, rfl⟩ ?_ ?_
    · rintro j d δ μ hd ⟨⟨o7, o8, rfl⟩, rfl⟩
      obtain ⟨rfl, hj⟩ := rg hd
      refine ⟨_, _, gn 7, ?_⟩
      refine sset 8 (cl c1 (ac (ev 1 rfl rfl) (ac (eb (em ei (ev 5 rfl rfl) (.inl (by decide))) (ev 7 rfl rfl)) an)) ⟨more, _, rfl, by omega, by omega, rfl⟩) ?_
      have hx := lmix_lo more (20 * (i : Int) + (j : Int))
      have hx2 := lmix_hi more (20 * (i : Int) + (j : Int))
      generalize hx0 : lmix more (20 * (i : Int) + (j : Int)) = x at *
      refine sapp 0 (ev 6 rfl rfl) (ixG (L := [(x % 7, (1 : Int)), rat (x - 1000000000) (1 + x / 9 % 99)]) (g := dF) (0, 1) (el (ac (et (ac (er (ev 8 rfl rfl) ei (by decide)) (ac ei an))) (ac (cl c2 (ac (eb (ev 8 rfl rfl) e9) (ac (eb ei (er (ed (ev 8 rfl rfl) ei (by decide)) ei (by decide))) an)) ⟨x - 1000000000, 1 + x / 9 % 99, rfl, by omega, small_log (small30 (n := 100) (by omega) (by decide)), rfl⟩) an))) (er (ed (ev 0 rfl rfl) ei (by decide)) ei (by decide)) (by omega) (by show _ < (2 : Int); omega)) ?_ ?_
      · exact small_size (by rw [List.length_map, List.length_map, List.length_range]; omega)
      refine s0 ⟨⟨_, _, rfl⟩, ?_⟩
      simp only [List.range_succ, List.map_append, List.map_cons, List.map_nil, hx0]
      rfl
    · rintro δ μ ⟨⟨o7, o8, rfl⟩, rfl⟩
      rw [rg_len]
      refine SDs.freeze 6 rfl ?_
      refine sapp 0 (ev 4 rfl rfl) (ev 6 rfl rfl) ?_ ?_
      · exact small_size (by rw [List.length_map, List.length_map, List.length_range]; omega)
      refine s0 ⟨⟨_, _, _, _, rfl⟩, ?_⟩
      simp only [List.range_succ, List.map_append, List.map_cons, List.map_nil]
      rfl
  · rintro δ μ ⟨⟨o5, o6, o7, o8, rfl⟩, rfl⟩
    rw [rg_len]
    refine SDs.freeze 4 rfl ?_
    exact sret (ev 4 rfl rfl) rfl
/-! ### things -/
def lcol (n top bot : Int) : F2 := [(n / 8 % 9 - 2, 1), rat (2 * (n / 8 % 9) + 1) 2, rat (top - 1000000000) (1 + bot)].getD (n / 128 % 3).toNat (0, 1)
def lpart (n top more : Int) : F2 := [(0, 1), (1, 2), (1, 3), (2, 3), (1, 1), rat (more % (1 + top)) (1 + top)].getD (n / 512 % 6).toNat (0, 1)
def lfewC (n : Int) (c : Corner) : Corner := ⟨c.x, c.y, c.w, c.h, c.vs.take (1 + n / 8 % 3).toNat⟩
def lthing (n top bot more : Int) (t : Tri) : Thing :=
  if n % 5 = 0 then ⟨.shaded, ⟨lfewC n t.a, lfewC n t.b, lfewC n t.c⟩⟩
  else if n % 5 = 1 then ⟨.patterned (lpat (n / 512) more), t⟩
  else if n % 5 = 2 then ⟨.plain (lcol n top bot), t⟩
  else ⟨.glass (lcol n top bot) (lpart n top more), t⟩
theorem lcol_ok {n top bot : Int} (h1 : 0 ≤ top) (h2 : top < 2147483648) (h3 : 0 ≤ bot) (h4 : bot < 2147483648) : OkF (lcol n top bot) := by
  unfold lcol
  have h : n / 128 % 3 = 0 ∨ n / 128 % 3 = 1 ∨ n / 128 % 3 = 2 := by omega
  rcases h with h | h | h <;> rw [h]
  · exact one_ok (small30 (n := 20) (by omega) (by decide))
  · exact rat_ok (by decide) (small30 (n := 100) (by omega) (by decide)) (by decide)
  · exact rat_ok (by omega) (small30 (n := 10000000000) (by omega) (by decide)) (small30 (n := 10000000000) (by omega) (by decide))
theorem rat_part {t b : Int} (h0 : 0 ≤ t) (h1 : t ≤ b) (hb : 0 < b) : 0 ≤ (rat t b).1 ∧ (rat t b).1 ≤ (rat t b).2 := by
  have hg : 0 < Int.gcd t b := Int.gcd_pos_of_ne_zero_right t (by omega)
  exact ⟨Int.ediv_nonneg h0 (by omega), Int.ediv_le_ediv (by omega) h1⟩
theorem lpart_ok {n top more : Int} (h1 : 0 ≤ top) (h2 : top < 2147483648) : OkF (lpart n top more) ∧ 0 ≤ (lpart n top more).1 ∧ (lpart n top more).1 ≤ (lpart n top more).2 := by
  have b0 := Int.emod_nonneg more (show 1 + top ≠ 0 by omega)
  have b1 := Int.emod_lt_of_pos more (show 0 < 1 + top by omega)
  unfold lpart
  have h : n / 512 % 6 = 0 ∨ n / 512 % 6 = 1 ∨ n / 512 % 6 = 2 ∨ n / 512 % 6 = 3 ∨ n / 512 % 6 = 4 ∨ n / 512 % 6 = 5 := by omega
  rcases h with h | h | h | h | h | h <;> rw [h]
  · exact (show OkF ((0, 1) : F2) ∧ 0 ≤ ((0, 1) : F2).1 ∧ ((0, 1) : F2).1 ≤ ((0, 1) : F2).2 from ⟨⟨by decide, by decide, by decide, by decide⟩, by decide, by decide⟩)
  · exact (show OkF ((1, 2) : F2) ∧ 0 ≤ ((1, 2) : F2).1 ∧ ((1, 2) : F2).1 ≤ ((1, 2) : F2).2 from ⟨⟨by decide, by decide, by decide, by decide⟩, by decide, by decide⟩)
  · exact (show OkF ((1, 3) : F2) ∧ 0 ≤ ((1, 3) : F2).1 ∧ ((1, 3) : F2).1 ≤ ((1, 3) : F2).2 from ⟨⟨by decide, by decide, by decide, by decide⟩, by decide, by decide⟩)
  · exact (show OkF ((2, 3) : F2) ∧ 0 ≤ ((2, 3) : F2).1 ∧ ((2, 3) : F2).1 ≤ ((2, 3) : F2).2 from ⟨⟨by decide, by decide, by decide, by decide⟩, by decide, by decide⟩)
  · exact (show OkF ((1, 1) : F2) ∧ 0 ≤ ((1, 1) : F2).1 ∧ ((1, 1) : F2).1 ≤ ((1, 1) : F2).2 from ⟨⟨by decide, by decide, by decide, by decide⟩, by decide, by decide⟩)
  · exact ⟨rat_ok (by omega) (small30 (n := 10000000000) (by omega) (by decide)) (small30 (n := 10000000000) (by omega) (by decide)), rat_part b0 (by omega) (by omega)⟩
structure LThing (z : Thing) : Prop where
  o : OkTh z
  s : ∀ c ∈ z.t.cs, Bd (2 ^ 20) c ∧ c.vs.length ≤ 3
theorem lthing_ok {n top bot more : Int} {m : Nat} {t : Tri} (hm : 2 ≤ m ∧ m ≤ 3) (h1 : 0 ≤ top) (h2 : top < 2147483648) (h3 : 0 ≤ bot) (h4 : bot < 2147483648) (ht : LTri m t) : LThing (lthing n top bot more t) := by
  have ot := ht.ok hm.2
  have ha := ht.cs t.a (by simp); have hb := ht.cs t.b (by simp); have hc := ht.cs t.c (by simp)
  have hs : ∀ c ∈ t.cs, Bd (2 ^ 20) c ∧ c.vs.length ≤ 3 := fun c h => ⟨(ht.cs c h).bd, by rw [(ht.cs c h).len]; exact hm.2⟩
  have hlen : t.a.vs.length = m := ha.len
  unfold lthing
  split
  · have hl : ∀ c, LCor m c → (lfewC n c).vs.length = min (1 + n / 8 % 3).toNat m := fun c h => by
      show (c.vs.take _).length = _
      rw [List.length_take, h.len]
    have hk : ∀ c, LCor m c → OkC (lfewC n c) := fun c h => ⟨(h.ok hm.2).h, (h.ok hm.2).w, by rw [hl c h]; omega⟩
    have hbd : ∀ c, LCor m c → Bd (2 ^ 20) (lfewC n c) := fun c h => ⟨h.bd.x, h.bd.y, h.bd.w, h.bd.h, fun v hv => h.bd.vs v (List.mem_of_mem_take hv)⟩
    refine ⟨⟨⟨hk _ ha, hk _ hb, hk _ hc, (hl _ hb).trans (hl _ ha).symm, (hl _ hc).trans (hl _ ha).symm⟩, ?_⟩, fun c hcm => ?_⟩
    · show 1 ≤ (lfewC n t.a).vs.length
      rw [hl _ ha]
      omega
    · simp only [Tri.cs, List.mem_cons, List.not_mem_nil, or_false] at hcm
      rcases hcm with rfl | rfl | rfl
      · exact ⟨hbd _ ha, (hk _ ha).vs⟩
      · exact ⟨hbd _ hb, (hk _ hb).vs⟩
      · exact ⟨hbd _ hc, (hk _ hc).vs⟩
  · split
    · exact ⟨⟨ot, ⟨by rw [hlen]; exact hm.1, lpat_ok _ _⟩⟩, hs⟩
    · split
      · exact ⟨⟨ot, lcol_ok h1 h2 h3 h4⟩, hs⟩
      · have hp := lpart_ok (n := n) (more := more) h1 h2
        exact ⟨⟨ot, ⟨lcol_ok h1 h2 h3 h4, hp.1, hp.2.1, hp.2.2⟩⟩, hs⟩
end
end Lk
/-! the law's things and spots -/
namespace Lk
open PySem L2 DL
section
variable {g : GE} {f : Addr} {fd : FuncData} {A : CA}
def Rlthing (A : CA) : List D → D → Prop := fun ds d => ∃ (n top bot more : Int) (m : Nat) (t : Tri), ds = [.lst [.int n, .int top, .int bot, .int more], dT t] ∧ 2 ≤ m ∧ m ≤ 3 ∧ LTri m t ∧ 0 ≤ n ∧ n < 2147483648 ∧ 0 ≤ top ∧ top < 2147483648 ∧ 0 ≤ bot ∧ bot < 2147483648 ∧ 0 ≤ more ∧ more < 2147483648 ∧ d = dTh A (lthing n top bot more t)
theorem lpart_def (n top more : Int) : [((0 : Int), (1 : Int)), (1, 2), (1, 3), (2, 3), (1, 1), rat (more % (1 + top)) (1 + top)].getD (n / 512 % 6).toNat (0, 1) = lpart n top more := rfl
theorem lcol_def (n top bot : Int) : [(n / 8 % 9 - 2, (1 : Int)), rat (2 * (n / 8 % 9) + 1) 2, rat (top - 1000000000) (1 + bot)].getD (n / 128 % 3).toNat (0, 1) = lcol n top bot := rfl
theorem thing_tail (B : Bl g) (T : TG g A) (c1 : Cal g "_law_pattern" 3 (spR g.K Rlpattern)) (c2 : Cal g "ratio" 2 (spR g.K Rratio)) {n top more : Int} {t : Tri} {col part : F2} {pat : Pat} {z : Thing} (ok : LThing z) (hcol : OkF col) (hpart : OkF part ∧ 0 ≤ part.1 ∧ part.1 ≤ part.2) (hpt : lpat (n / 512) more = pat) (hpd : [((0 : Int), (1 : Int)), (1, 2), (1, 3), (2, 3), (1, 1), rat (more % (1 + top)) (1 + top)].getD (n / 512 % 6).toNat (0, 1) = part) (q0 : n % 5 = 0 → z = ⟨.shaded, ⟨lfewC n t.a, lfewC n t.b, lfewC n t.c⟩⟩) (q1 : n % 5 = 1 → z = ⟨.patterned pat, t⟩) (q2 : n % 5 = 2 → z = ⟨.plain col, t⟩) (q3 : ¬ n % 5 = 0 → ¬ n % 5 = 1 → ¬ n % 5 = 2 → z = ⟨.glass col part, t⟩) (hn0 : 0 ≤ n) (t0 : 0 ≤ top) (t1 : top < 2147483648) (bot : D) (s0_ : D) :
    SDs ⟨g, n_law_thing, defScope s_law_thing, 7, true⟩ [some s0_, some (dT t), some (.int n), some (.int top), some bot, some (.int more), some (dF col), none, none, none, none] [] ((defBody s_law_thing).drop 3) (retE (dTh A z)) := by
  have ot := ok.o.t
  have okk := ok.o.k
  refine sset 7 (er (ev 2 rfl rfl) ei (by decide)) ?_
  by_cases h0 : n % 5 = 0
  · have e := q0 h0
    rw [e] at ot okk ⊢
    refine sifT (tc (ev 7 rfl rfl) ei (decide_eq_true h0)) ?_
    refine sset 8 (ED.to (eb ei (er (ed (ev 2 rfl rfl) ei (by decide)) ei (by decide))) (show _ = D.int ((1 + n / 8 % 3).toNat : Int) from congrArg D.int (by omega))) ?_
    refine sret (mk T.mkS (ac (ct (ac (lcx (es := [dC (lfewC n t.a), dC (lfewC n t.b), dC (lfewC n t.c)]) [("_law_corner_here", 10)] t.cs dC (fun c => dC (lfewC n c)) rfl (idt (ev 1 rfl rfl)) rfl (fun c hc => te (gn 10) fun _ => ebx (slT (ev 10 rfl rfl) p0 (p1 ei)) (et (ac (ED.to (slT (ix 4 (ev 10 rfl rfl) ei rfl rfl) p0 (p1 (ev 8 rfl rfl))) (show _ = D.tup ((c.vs.take (1 + n / 8 % 3).toNat).map D.int) from by rw [cutD_take, List.map_take])) an)) (bCatT (Nat.le_of_ble_eq_true rfl))) (tiny_size rfl)) an) kTp B.tuple) an) ⟨_, ⟨lfewC n t.a, lfewC n t.b, lfewC n t.c⟩, T.shaded, ot, okk, rfl, rfl, rfl, rfl⟩) rfl
  · refine sifN (tc (ev 7 rfl rfl) ei (decide_eq_false h0)) ?_
    by_cases h1 : n % 5 = 1
    · have e := q1 h1
      rw [e] at ot okk ⊢
      refine sifT (tc (ev 7 rfl rfl) ei (decide_eq_true h1)) ?_
      exact sret (mk T.mkT (ac (ev 1 rfl rfl) (ac (cl c1 (ac (ed (ev 2 rfl rfl) ei (by decide)) (ac (ev 5 rfl rfl) an)) ⟨n / 512, more, rfl, by omega, by rw [hpt]⟩) an)) ⟨_, t, pat, T.patterned, ot, okk.1, okk.2, rfl, rfl, rfl, rfl⟩) rfl
    · refine sifN (tc (ev 7 rfl rfl) ei (decide_eq_false h1)) ?_
      by_cases h2 : n % 5 = 2
      · have e := q2 h2
        rw [e] at ot okk ⊢
        refine sifT (tc (ev 7 rfl rfl) ei (decide_eq_true h2)) ?_
        exact sret (mk T.mkP (ac (ev 1 rfl rfl) (ac (ev 6 rfl rfl) an)) ⟨_, t, col, T.plain, ot, hcol, rfl, rfl, rfl, rfl⟩) rfl
      · have e := q3 h0 h1 h2
        rw [e] at ot okk ⊢
        refine sifN (tc (ev 7 rfl rfl) ei (decide_eq_false h2)) ?_
        refine SDs.cons ?_
        refine @SD.set _ _ _ _ (dF part) _ _ _ _ 9 ?_ ?_ (ndB_ok (by kernel_rfl)) rfl (stoB_ok (by kernel_rfl)) (by intro _ _; kernel_rfl)
        · refine @ED.to _ _ _ _ _ _ (@ixG _ _ _ _ _ _ _ _ [((0 : Int), (1 : Int)), (1, 2), (1, 3), (2, 3), (1, 1), rat (more % (1 + top)) (1 + top)] dF (0, 1) ?_ (er (ed (ev 2 rfl rfl) ei (by decide)) ei (by decide)) (by omega) (by show _ < (6 : Int); omega) (by intro _ _; rfl)) (congrArg dF hpd)
          refine @el _ _ _ _ _ _ ?_ (Nat.le_of_ble_eq_true rfl)
          refine @ac _ _ _ _ _ _ _ (et (ac ei (ac ei an))) ?_ (by intro _; rfl)
          refine @ac _ _ _ _ _ _ _ (et (ac ei (ac ei an))) ?_ (by intro _; rfl)
          refine @ac _ _ _ _ _ _ _ (et (ac ei (ac ei an))) ?_ (by intro _; rfl)
          refine @ac _ _ _ _ _ _ _ (et (ac ei (ac ei an))) ?_ (by intro _; rfl)
          refine @ac _ _ _ _ _ _ _ (et (ac ei (ac ei an))) ?_ (by intro _; rfl)
          refine @ac _ _ _ _ _ _ _ (cl c2 (ac (er (ev 5 rfl rfl) (eb ei (ev 3 rfl rfl)) (by omega)) (ac (eb ei (ev 3 rfl rfl)) an)) ⟨_, _, rfl, by omega, small_log (small30 (n := 10000000000) (by omega) (by decide)), rfl⟩) ?_ (by intro _; rfl)
          exact an
        exact sret (mk T.mkG (ac (ev 1 rfl rfl) (ac (ev 6 rfl rfl) (ac (ev 9 rfl rfl) an))) ⟨_, t, col, part, T.glass, ot, hcol, hpart.1, hpart.2.1, hpart.2.2, rfl, rfl, rfl, rfl⟩) rfl
end
end Lk
/-! the law's things and spots -/
namespace Lk
open PySem L2 DL
def lmany (ns : List Int) : Nat := (2 + ns.getD 7 0 / 2 % 2).toNat
theorem lmany_bd (ns : List Int) : 2 ≤ lmany ns ∧ lmany ns ≤ 3 := by unfold lmany; omega
def t0 : Tri := ⟨c0, c0, c0⟩
def lthingK (ns : List Int) (k : Nat) : Thing := lthing ((ldraws (ns.getD 7 0) 20).getD (4 * k) 0) ((ldraws (ns.getD 7 0) 20).getD (4 * k + 1) 0) ((ldraws (ns.getD 7 0) 20).getD (4 * k + 2) 0) ((ldraws (ns.getD 7 0) 20).getD (4 * k + 3) 0) ((ltris ns (lmany ns)).getD k t0)
def lthings (ns : List Int) : List Thing := (List.range (ltris ns (lmany ns)).length).map (lthingK ns)
theorem getD_mem {α : Type} {L : List α} {k : Nat} (z : α) (h : k < L.length) : L.getD k z ∈ L := by
  rw [List.getD_eq_getElem?_getD, List.getElem?_eq_getElem h]
  exact List.getElem_mem h
theorem lthings_ok {ns : List Int} : ∀ z ∈ lthings ns, LThing z := fun z hz => by
  obtain ⟨k, hk, rfl⟩ := List.mem_map.mp hz
  have hk := List.mem_range.mp hk
  have b := fun j => getD_nn (c := ns.getD 7 0) (m := 20) j
  exact lthing_ok (lmany_bd ns) (b _).1 (b _).2 (b _).1 (b _).2 (ltris_ok _ (getD_mem _ hk))
theorem lthings_len (ns : List Int) : (lthings ns).length ≤ 5 := by
  unfold lthings
  rw [List.length_map, List.length_range]
  exact ltris_len _ _
theorem four_of {L : List Int} {k : Nat} (h : 4 * k + 4 ≤ L.length) : (L.drop (4 * k)).take 4 = [L.getD (4 * k) 0, L.getD (4 * k + 1) 0, L.getD (4 * k + 2) 0, L.getD (4 * k + 3) 0] := by
  have e : ∀ j, L.getD (4 * k + j) 0 = (L.drop (4 * k)).getD j 0 := fun j => by
    rw [List.getD_eq_getElem?_getD, List.getD_eq_getElem?_getD, List.getElem?_drop]
  rw [show L.getD (4 * k) 0 = (L.drop (4 * k)).getD 0 0 from e 0, e 1, e 2, e 3]
  have hl : 4 ≤ (L.drop (4 * k)).length := by rw [List.length_drop]; omega
  generalize L.drop (4 * k) = M at *
  match M, hl with
  | a :: b :: c :: d :: M, _ => rfl
section
variable {g : GE} {f : Addr} {fd : FuncData} {A : CA}
theorem col_list (c2 : Cal g "ratio" 2 (spR g.K Rratio)) {n top bot more : Int} {t : Tri} (t0 : 0 ≤ top) (t1 : top < 2147483648) (b0 : 0 ≤ bot) (b1 : bot < 2147483648) (E : EndsD) (sA : D)
    (k : SDs ⟨g, n_law_thing, defScope s_law_thing, 7, true⟩ [some sA, some (dT t), some (.int n), some (.int top), some (.int bot), some (.int more), some (dF (lcol n top bot)), none, none, none, none] [] ((defBody s_law_thing).drop 3) E) :
    SDs ⟨g, n_law_thing, defScope s_law_thing, 7, true⟩ [some sA, some (dT t), some (.int n), some (.int top), some (.int bot), some (.int more), none, none, none, none, none] [] ((defBody s_law_thing).drop 1) E := by
  have hcd := lcol_def n top bot
  generalize lcol n top bot = col at *
  refine SDs.cons ?_
  refine @SD.set _ _ _ _ (.lst ([(n / 8 % 9 - 2, (1 : Int)), rat (2 * (n / 8 % 9) + 1) 2, rat (top - 1000000000) (1 + bot)].map dF)) _ _ _ _ 6 ?_ ?_ (ndB_ok (by kernel_rfl)) rfl (stoB_ok (by kernel_rfl)) (by intro _ _; kernel_rfl)
  · refine @el _ _ _ _ _ _ ?_ (Nat.le_of_ble_eq_true rfl)
    refine @ac _ _ _ _ _ _ _ (et (ac (eb (er (ed (ev 2 rfl rfl) ei (by decide)) ei (by decide)) ei) (ac ei an))) ?_ (by intro _; rfl)
    refine @ac _ _ _ _ _ _ _ (cl c2 (ac (eb (em ei (er (ed (ev 2 rfl rfl) ei (by decide)) ei (by decide)) (.inl (by decide))) ei) (ac ei an)) ⟨_, _, rfl, by decide, small_log (by decide), rfl⟩) ?_ (by intro _; rfl)
    refine @ac _ _ _ _ _ _ _ (cl c2 (ac (eb (ev 3 rfl rfl) e9) (ac (eb ei (ev 4 rfl rfl)) an)) ⟨_, _, rfl, by omega, small_log (small30 (n := 10000000000) (by omega) (by decide)), rfl⟩) ?_ (by intro _; rfl)
    exact an
  refine SDs.cons ?_
  refine @SD.set _ _ _ _ (dF col) _ _ _ _ 6 ?_ ?_ (ndB_ok (by kernel_rfl)) rfl (stoB_ok (by kernel_rfl)) (by intro _ _; kernel_rfl)
  · exact @ED.to _ _ _ _ _ _ (@ixG _ _ _ _ _ _ _ _ [(n / 8 % 9 - 2, (1 : Int)), rat (2 * (n / 8 % 9) + 1) 2, rat (top - 1000000000) (1 + bot)] dF (0, 1) (ev 6 rfl rfl) (er (ed (ev 2 rfl rfl) ei (by decide)) ei (by decide)) (by omega) (by show _ < (3 : Int); omega) (by intro _ _; rfl)) (congrArg dF hcd)
  exact k
theorem ok_law_thing (F : FnP g "_law_thing" s_law_thing f fd) (B : Bl g) (T : TG g A) (c1 : Cal g "_law_pattern" 3 (spR g.K Rlpattern)) (c2 : Cal g "ratio" 2 (spR g.K Rratio)) : OkD g 8 f fd p_law_thing (Rlthing A) := by
  refine pure_def F sc_law_thing (fun ds d ⟨_, _, _, _, _, _, h1, h2⟩ => by rw [h1]; rfl) ?_
  rintro ds d ⟨n, top, bot, more, m, t, rfl, hm1, hm2, ht, n0, n1, t0, t1, b0, b1, o0, o1, rfl⟩
  refine sasg (ev 0 rfl rfl) (gl (gs (gn 2) (gs (gn 3) (gs (gn 4) (gs (gn 5) gs0))))) ?_
  refine col_list c2 t0 t1 b0 b1 _ _ ?_
  exact thing_tail B T c1 c2 (lthing_ok ⟨hm1, hm2⟩ t0 t1 b0 b1 ht) (lcol_ok t0 t1 b0 b1) (lpart_ok t0 t1) rfl (lpart_def n top more) (fun h => if_pos h) (fun h => (if_neg (by omega)).trans (if_pos h)) (fun h => (if_neg (by omega)).trans ((if_neg (by omega)).trans (if_pos h))) (fun h1 h2 h3 => (if_neg h1).trans ((if_neg h2).trans (if_neg h3))) n0 t0 t1 _ _
def Rlthings (A : CA) : List D → D → Prop := fun ds d => ∃ ns : List Int, ds = [.lsr (ns.map D.int), .int 0, .int 5] ∧ d = .lst ((lthings ns).map (dTh A))
theorem enum_at {ds : List D} {i : Nat} {d : D} (h : (enumD ds)[i]? = some d) : ∃ e, ds[i]? = some e ∧ d = .tup [.int (i : Nat), e] := by
  unfold enumD zipD at h
  rw [List.getElem?_zipWith] at h
  cases h1 : (rangeD ds.length)[i]? with
  | none => rw [h1] at h; cases h
  | some r =>
    rw [h1] at h
    obtain ⟨rfl, _⟩ := rg h1
    cases h2 : ds[i]? with
    | none => rw [h2] at h; cases h
    | some e =>
      rw [h2] at h
      exact ⟨e, rfl, (Option.some.inj h).symm⟩
theorem enum_len (ds : List D) : (enumD ds).length = ds.length := by simp [enumD, zipD, rangeD]
theorem ok_law_things (F : FnP g "_law_things" s_law_things f fd) (B : Bl g) (c1 : Cal g "_law_draws" 2 (spR g.K Rldraws)) (c2 : Cal g "_law_cell_at" 1 (spR g.K Rcell_at)) (c3 : Cal g "_law_triangles" 3 (spR g.K Rltriangles)) (c4 : Cal g "_law_thing" 8 (spR g.K (Rlthing A))) : OkD g 9 f fd p_law_things (Rlthings A) := by
  refine pure_def F sc_law_things (fun ds d ⟨_, h1, h2⟩ => by rw [h1]; rfl) ?_
  rintro ds d ⟨ns, rfl, rfl⟩
  have hm := lmany_bd ns
  refine sset 3 (cl c1 (ac (cl c2 (ac (ev 0 rfl rfl) (ac (ED.to (eb (ev 1 rfl rfl) ei) (show _ = D.int ((7 : Nat) : Int) from rfl)) an)) ⟨ns, 7, rfl, rfl⟩) (ac (ED.to (em ei (ev 2 rfl rfl) (.inl (by decide))) (show _ = D.int ((20 : Nat) : Int) from rfl)) an)) ⟨_, 20, rfl, by decide, rfl⟩) ?_
  refine snewL 4 an fun q => ?_
  refine sset 5 (ED.to (eb ei (er (ed (cl c2 (ac (ev 0 rfl rfl) (ac (ED.to (eb (ev 1 rfl rfl) ei) (show _ = D.int ((7 : Nat) : Int) from rfl)) an)) ⟨ns, 7, rfl, rfl⟩) ei (by decide)) ei (by decide))) (show _ = D.int (lmany ns : Int) from congrArg D.int (by unfold lmany; omega))) ?_
  have hlen := ltris_len ns (lmany ns)
  refine sfor (fun i δ μ => (∃ o6 o7, δ = [some (.lsr (ns.map D.int)), some (.int 0), some (.int 5), some (dRw (ldraws (ns.getD 7 0) 20)), some (.ptr q), some (.int (lmany ns : Int)), o6, o7]) ∧ μ = [(q, .lst (((List.range i).map (lthingK ns)).map (dTh A)))]) (ide (cl c3 (ac (ev 0 rfl rfl) (ac (ev 1 rfl rfl) (ac (ev 2 rfl rfl) (ac (ev 5 rfl rfl) an)))) ⟨ns, lmany ns, rfl, hm.2, rfl⟩) B.enumerate) ⟨⟨_, _, rfl⟩, rfl⟩ ?_ ?_
  · rintro i d δ μ hd ⟨⟨o6, o7, rfl⟩, rfl⟩
    obtain ⟨e, he, rfl⟩ := enum_at hd
    rw [List.getElem?_map] at he
    obtain ⟨t, ht, rfl⟩ := Option.map_eq_some_iff.mp he
    obtain ⟨hi, hti⟩ := List.getElem?_eq_some_iff.mp ht
    have hget : (ltris ns (lmany ns)).getD i t0 = t := by rw [List.getD_eq_getElem?_getD, ht]; rfl
    refine ⟨_, _, gt (gs (gn 6) (gs (gn 7) gs0)), ?_⟩
    have b := fun j => getD_nn (c := ns.getD 7 0) (m := 20) j
    refine sapp 0 (ev 4 rfl rfl) (cl c4 (ac (ED.to (slL (ev 3 rfl rfl) (p1 (em ei (ev 6 rfl rfl) (.inl (by decide)))) (p1 (eb (em ei (ev 6 rfl rfl) (.inl (by decide))) ei))) (show _ = D.lst ([(ldraws (ns.getD 7 0) 20).getD (4 * i) 0, (ldraws (ns.getD 7 0) 20).getD (4 * i + 1) 0, (ldraws (ns.getD 7 0) 20).getD (4 * i + 2) 0, (ldraws (ns.getD 7 0) 20).getD (4 * i + 3) 0].map D.int) from ?_)) (ac (ev 7 rfl rfl) an)) ⟨_, _, _, _, lmany ns, t, rfl, hm.1, hm.2, ltris_ok t (List.mem_of_getElem? ht), (b _).1, (b _).2, (b _).1, (b _).2, (b _).1, (b _).2, (b _).1, (b _).2, rfl⟩) ?_ ?_
    · have e1 : (4 * (i : Int)) = ((4 * i : Nat) : Int) := by omega
      have e2 : (((4 * i : Nat) : Int) + 4) = ((4 * i + 4 : Nat) : Int) := by omega
      rw [e1, e2, cutD_mid (by omega) (by rw [List.length_map, ldraws_len]; omega), Nat.add_sub_cancel_left, ← List.map_drop, ← List.map_take, four_of (by rw [ldraws_len]; omega)]
    · exact small_size (by rw [List.length_map, List.length_map, List.length_range]; omega)
    refine s0 ⟨⟨_, _, rfl⟩, ?_⟩
    simp only [List.range_succ, List.map_append, List.map_cons, List.map_nil, lthingK, hget]
    rfl
  · rintro δ μ ⟨⟨o6, o7, rfl⟩, rfl⟩
    refine SDs.freeze 4 rfl ?_
    refine sret (ev 4 rfl rfl) ?_
    show D.lst _ = D.lst _
    rw [enum_len, List.length_map]
    rfl
end
end Lk
/-! the law's spots -/
namespace Lk
open PySem L2 DL
def lspot (x : Int) : F2 := if x / 64 % 3 = 0 then (4, 4) else (1 + x % 7, 1 + x / 7 % 7)
def lspotF (acc : List F2) (x : Int) : List F2 := if lspot x ∈ acc then acc else acc ++ [lspot x]
def lspotN (d0 : Int) : Int := [d0 / 8 % 3, d0 / 8 % 16].getD (if decide (d0 % 8 = 7) then (1 : Int) else 0).toNat 0
def lseg (c : Int) : List Int := ((ldraws c 17).drop 1).take ((2 + lspotN ((ldraws c 17).getD 0 0)).toNat - 1)
def lspots (c : Int) : List F2 := (lseg c).foldl lspotF []
theorem lspot_ok {x : Int} : OkSp (lspot x) := by
  unfold lspot
  split
  · exact ⟨by decide, by decide, by decide, by decide⟩
  · exact ⟨by show 1 ≤ 1 + x % 7; omega, by show 1 + x % 7 ≤ 7; omega, by show 1 ≤ 1 + x / 7 % 7; omega, by show 1 + x / 7 % 7 ≤ 7; omega⟩
structure SpInv (l : List F2) : Prop where
  o : ∀ s ∈ l, OkSp s
  d : l.Nodup
theorem lspotF_inv {acc : List F2} {x : Int} (h : SpInv acc) : SpInv (lspotF acc x) := by
  unfold lspotF
  split
  · exact h
  · rename_i hn
    refine ⟨fun s hs => ?_, ?_⟩
    · rcases List.mem_append.mp hs with hs | hs
      · exact h.o s hs
      · rw [List.mem_singleton.mp hs]; exact lspot_ok
    · rw [List.nodup_append]
      exact ⟨h.d, List.nodup_cons.mpr ⟨by simp, List.nodup_nil⟩, fun a ha b hb => by rw [List.mem_singleton.mp hb]; exact fun e => hn (e ▸ ha)⟩
theorem fold_inv : ∀ (l : List Int) (acc : List F2), SpInv acc → SpInv (l.foldl lspotF acc)
  | [], _, h => h
  | x :: l, acc, h => fold_inv l _ (lspotF_inv h)
theorem fold_ne : ∀ (l : List Int) (acc : List F2), acc ≠ [] → l.foldl lspotF acc ≠ []
  | [], _, h => h
  | x :: l, acc, h => fold_ne l _ (by
    unfold lspotF
    split
    · exact h
    · simp)
theorem lspotN_bd (d0 : Int) : 0 ≤ lspotN d0 ∧ lspotN d0 ≤ 15 := by
  unfold lspotN
  by_cases h : d0 % 8 = 7
  · rw [if_pos (by simpa using h)]
    show 0 ≤ d0 / 8 % 16 ∧ d0 / 8 % 16 ≤ 15
    omega
  · rw [if_neg (by simpa using h)]
    show 0 ≤ d0 / 8 % 3 ∧ d0 / 8 % 3 ≤ 15
    omega
theorem fold_len : ∀ (l : List Int) (acc : List F2), (l.foldl lspotF acc).length ≤ acc.length + l.length
  | [], _ => Nat.le_refl _
  | x :: l, acc => by
    have h := fold_len l (lspotF acc x)
    have h2 : (lspotF acc x).length ≤ acc.length + 1 := by
      unfold lspotF
      split <;> simp
    rw [List.foldl_cons, List.length_cons]
    omega
theorem lspots_ok (c : Int) : SpInv (lspots c) := fold_inv _ _ ⟨fun _ h => by (cases h), List.nodup_nil⟩
theorem lspots_ne (c : Int) : lspots c ≠ [] := by
  have h1 := lspotN_bd ((ldraws c 17).getD 0 0)
  unfold lspots
  have hs : lseg c ≠ [] := fun e => by
    have h2 : (lseg c).length = 0 := by rw [e]; rfl
    unfold lseg at h2
    rw [List.length_take, List.length_drop, ldraws_len] at h2
    omega
  obtain ⟨x, l, hx⟩ := List.exists_cons_of_ne_nil hs
  rw [hx, List.foldl_cons]
  refine fold_ne l _ ?_
  unfold lspotF
  rw [if_neg (by simp)]
  simp
def lspots2 (c : Int) : List F2 := (lspots c).take 2
theorem lspots2_ok (c : Int) : OkSps (lspots2 c) ∧ lspots2 c ≠ [] := by
  have h := lspots_ok c
  have hne := lspots_ne c
  refine ⟨⟨fun s hs => h.o s (List.mem_of_mem_take hs), (List.take_sublist 2 _).nodup h.d, by unfold lspots2; rw [List.length_take]; omega⟩, ?_⟩
  obtain ⟨x, l, hx⟩ := List.exists_cons_of_ne_nil hne
  unfold lspots2
  rw [hx]
  simp
/-! pairs in a list, as data -/
theorem plains_F : ∀ l : List F2, plains (l.map dF) = true
  | [] => rfl
  | f :: l => by
    show (plain (dF f) && plains (l.map dF)) = true
    rw [plains_F l]
    rfl
theorem can_F : ∀ l : List F2, PyData.canLayAll0 (pys (l.map dF)) = true ∧ PyData.depthAll (pys (l.map dF)) ≤ 1
  | [] => ⟨rfl, Nat.zero_le _⟩
  | f :: l => by
    obtain ⟨h1, h2⟩ := can_F l
    refine ⟨?_, ?_⟩
    · show (PyData.canLay0 (py (dF f)) && PyData.canLayAll0 (pys (l.map dF))) = true
      rw [h1]
      rfl
    · show max (PyData.depth (py (dF f))) (PyData.depthAll (pys (l.map dF))) ≤ 1
      exact Nat.max_le.mpr ⟨Nat.le_of_ble_eq_true rfl, h2⟩
theorem shaped_F (l : List F2) : SeqAt.shaped (.list (pys (l.map dF))) = true := by
  obtain ⟨h1, h2⟩ := can_F l
  unfold SeqAt.shaped
  have e1 : PyData.canLay0 (.list (pys (l.map dF))) = true := h1
  have e2 : PyData.depth (.list (pys (l.map dF))) ≤ 64 := by
    show PyData.depthAll (pys (l.map dF)) + 1 ≤ 64
    omega
  rw [e1, decide_eq_true e2]
  rfl
theorem any_F (s : F2) : ∀ l : List F2, ((pys (l.map dF)).any fun z => PyData.eqv z (py (dF s))) = decide (s ∈ l)
  | [] => by simp [pys]
  | f :: l => by
    show (PyData.eqv (py (dF f)) (py (dF s)) || (pys (l.map dF)).any fun z => PyData.eqv z (py (dF s))) = _
    rw [any_F s l, eqF]
    by_cases h : s = f
    · subst h; simp
    · have h1 : (f.1 == s.1 && f.2 == s.2) = false := by
        apply Bool.eq_false_iff.mpr
        intro e
        simp only [Bool.and_eq_true, beq_iff_eq] at e
        exact h (Prod.ext e.1.symm e.2.symm)
      rw [h1]
      simp [h]
section
variable {g : GE} {f : Addr} {fd : FuncData} {A : CA}
def Rlspots : List D → D → Prop := fun ds d => ∃ c : Int, ds = [.int c] ∧ d = .lst ((lspots c).map dF)
theorem spot_step {q : Addr} {c x : Int} {acc : List F2} {segs : List D} (hl : acc.length ≤ 100) (s4 : Option D) (sA sB : D) (E : EndsD) (hE : ∀ s4, E.nx [some sA, some sB, some (.ptr q), some (.int x), s4] [(q, .lst ((lspotF acc x).map dF))]) :
    SDs ⟨g, n_law_spots, defScope s_law_spots, 2, true⟩ [some sA, some sB, some (.ptr q), some (.int x), s4] [(q, .lst (acc.map dF))] (match (defBody s_law_spots).getD 2 (.Pass ⟨0, 0, 0, 0⟩) with | .For _ _ b _ _ => b | _ => []) E := by
  have fin : ∀ s : F2, s = lspot x → SDs ⟨g, n_law_spots, defScope s_law_spots, 2, true⟩ [some sA, some sB, some (.ptr q), some (.int x), some (dF s)] [(q, .lst (acc.map dF))] ((match (defBody s_law_spots).getD 2 (.Pass ⟨0, 0, 0, 0⟩) with | .For _ _ b _ _ => b | _ => []).drop 2) E := by
    intro s hs
    subst hs
    have ht : ∀ {a b pos}, ED ⟨g, n_law_spots, defScope s_law_spots, 2, true⟩ [some sA, some sB, some (.ptr q), some (.int x), some (dF (lspot x))] [(q, .lst (acc.map dF))] a (dF (lspot x)) → ED ⟨g, n_law_spots, defScope s_law_spots, 2, true⟩ [some sA, some sB, some (.ptr q), some (.int x), some (dF (lspot x))] [(q, .lst (acc.map dF))] b (.ptr q) → behindInMarks .NotIn b = false → TD ⟨g, n_law_spots, defScope s_law_spots, 2, true⟩ [some sA, some sB, some (.ptr q), some (.int x), some (dF (lspot x))] [(q, .lst (acc.map dF))] (.Compare a [.NotIn] [b] pos) (!decide (lspot x ∈ acc)) := fun h1 h2 h3 => ED.notInM h1 h2 (List.mem_singleton.mpr rfl) rfl (plains_F _) rfl (shaped_F _) (by rw [any_F]) (Nat.le_of_ble_eq_true rfl) h3
    by_cases hm : lspot x ∈ acc
    · have e : lspotF acc x = acc := if_pos hm
      refine sifN (TD.to (ht (ev 4 rfl rfl) (ev 2 rfl rfl) rfl) (by rw [decide_eq_true hm]; rfl)) (s0 ?_)
      have := hE (some (dF (lspot x)))
      rw [e] at this
      exact this
    · have e : lspotF acc x = acc ++ [lspot x] := if_neg hm
      refine sifT (TD.to (ht (ev 4 rfl rfl) (ev 2 rfl rfl) rfl) (by rw [decide_eq_false hm]; rfl)) (sapp 0 (ev 2 rfl rfl) (ev 4 rfl rfl) ?_ (s0 (s0 ?_)))
      · exact small_size (by rw [List.length_map]; omega)
      have := hE (some (dF (lspot x)))
      rw [e, List.map_append] at this
      exact this
  refine sset 4 (et (ac (eb ei (er (ev 3 rfl rfl) ei (by decide))) (ac (eb ei (er (ed (ev 3 rfl rfl) ei (by decide)) ei (by decide))) an))) ?_
  by_cases h : x / 64 % 3 = 0
  · refine sifT (tc (er (ed (ev 3 rfl rfl) ei (by decide)) ei (by decide)) ei (decide_eq_true h)) (sset 4 (et (ac ei (ac ei an))) (s0 ?_))
    exact fin (4, 4) (if_pos h).symm
  · refine sifN (tc (er (ed (ev 3 rfl rfl) ei (by decide)) ei (by decide)) ei (decide_eq_false h)) ?_
    exact fin (1 + x % 7, 1 + x / 7 % 7) (if_neg h).symm
theorem ok_law_spots (F : FnP g "_law_spots" s_law_spots f fd) (B : Bl g) (c1 : Cal g "_law_draws" 2 (spR g.K Rldraws)) : OkD g 3 f fd p_law_spots Rlspots := by
  refine pure_def F sc_law_spots (fun ds d ⟨_, h1, h2⟩ => by rw [h1]; rfl) ?_
  rintro ds d ⟨c, rfl, rfl⟩
  refine sset 1 (cl c1 (ac (ev 0 rfl rfl) (ac (ED.to ei (show _ = D.int ((17 : Nat) : Int) from rfl)) an)) ⟨c, 17, rfl, by decide, rfl⟩) ?_
  refine snewL 2 an fun q => ?_
  have hN := lspotN_bd ((ldraws c 17).getD 0 0)
  have hsl : (lseg c).length ≤ 16 := by unfold lseg; rw [List.length_take, List.length_drop, ldraws_len]; omega
  refine sfor (fun i δ μ => (∃ o3 o4, δ = [some (.int c), some (dRw (ldraws c 17)), some (.ptr q), o3, o4]) ∧ μ = [(q, .lst ((((lseg c).take i).foldl lspotF []).map dF))]) (idl (ED.to (slL (ev 1 rfl rfl) (p1 ei) (p1 (eb ei (ED.to (ixI (L := [(ldraws c 17).getD 0 0 / 8 % 3, (ldraws c 17).getD 0 0 / 8 % 16]) (el (ac (er (ed (ixL 0 (ev 1 rfl rfl) ei rfl (by rw [ldraws_len]; decide)) ei (by decide)) ei (by decide)) (ac (er (ed (ixL 0 (ev 1 rfl rfl) ei rfl (by rw [ldraws_len]; decide)) ei (by decide)) ei (by decide)) an))) (ct (ac (ec (er (ixL 0 (ev 1 rfl rfl) ei rfl (by rw [ldraws_len]; decide)) ei (by decide)) ei) an) kIntB B.int) (by split <;> decide) (by show _ < (2 : Int); split <;> decide)) (show _ = D.int (lspotN ((ldraws c 17).getD 0 0)) from rfl))))) (show _ = D.lst ((lseg c).map D.int) from ?_))) ⟨⟨_, _, rfl⟩, rfl⟩ ?_ ?_
  · have e2 : (2 + lspotN ((ldraws c 17).getD 0 0)) = (((2 + lspotN ((ldraws c 17).getD 0 0)).toNat : Nat) : Int) := by omega
    show D.lst (cutD ((ldraws c 17).map D.int) (some ((1 : Nat) : Int)) (some (2 + lspotN ((ldraws c 17).getD 0 0)))) = _
    rw [e2, cutD_mid (by omega) (by rw [List.length_map, ldraws_len]; omega), ← List.map_drop, ← List.map_take]
    rfl
  · rintro i d δ μ hd ⟨⟨o3, o4, rfl⟩, rfl⟩
    rw [List.getElem?_map] at hd
    obtain ⟨x, hx, rfl⟩ := Option.map_eq_some_iff.mp hd
    refine ⟨_, _, gn 3, ?_⟩
    refine spot_step (c := c) (segs := []) (acc := ((lseg c).take i).foldl lspotF []) ?_ _ _ _ _ fun s4 => ⟨⟨_, _, rfl⟩, ?_⟩
    · have := fold_len ((lseg c).take i) []
      rw [List.length_take] at this
      simp at this
      omega
    · rw [List.take_add_one, hx, List.foldl_append]
      rfl
  · rintro δ μ ⟨⟨o3, o4, rfl⟩, rfl⟩
    rw [List.length_map, List.take_length]
    refine SDs.freeze 2 rfl ?_
    exact sret (ev 2 rfl rfl) rfl
end
end Lk
/-! what is told -/
namespace Lk
open PySem L2 DL
def lgr (n : Int) : F2 := [(n % 9 - 2, 1), (2 * (n % 9) + 1, 2)].getD (n / 16 % 2).toNat (0, 1)
theorem lgr_ok (n : Int) : OkF (lgr n) := by
  unfold lgr
  have h : n / 16 % 2 = 0 ∨ n / 16 % 2 = 1 := by omega
  rcases h with h | h <;> rw [h]
  · exact one_ok (small30 (n := 20) (by omega) (by decide))
  · show OkF (2 * (n % 9) + 1, 2)
    have h2 : n % 9 = 0 ∨ n % 9 = 1 ∨ n % 9 = 2 ∨ n % 9 = 3 ∨ n % 9 = 4 ∨ n % 9 = 5 ∨ n % 9 = 6 ∨ n % 9 = 7 ∨ n % 9 = 8 := by omega
    rcases h2 with h | h | h | h | h | h | h | h | h <;> rw [h] <;> exact ⟨by decide, by decide, by decide, by decide⟩
def lrowT (s : Scene) (cuts way n : Int) (z : Thing) : Row :=
  if way = 0 then .floor (1 + n % 5) (1 + n / 8 % 4)
  else if way = 1 then .ground (lgr n)
  else if way = 2 then .spots (lspots2 n)
  else if way = 3 ∧ s.ts ≠ [] then .drop (n % (s.ts.length : Int)).toNat
  else if way = 4 ∧ cuts < 2 then .near (1 + n % 6) (1 + n / 8 % 4)
  else if 4 < s.ts.length then .drop 0
  else .thing z
def Row.cuts (c : Int) : Row → Int
  | .near _ _ => c + 1
  | _ => c
abbrev stD (A : CA) (s : Scene) (cuts : Int) : MC := .lst [.int s.w, .int s.h, dF s.g, .lst (s.sp.map dF), .lst (s.ts.map (dTh A)), .int cuts]
structure OkTold (s : Scene) (cuts n : Int) (z : Thing) : Prop where
  n0 : 0 ≤ n
  n1 : n < 2147483648
  o : OkWT z
  b : cuts < 2 → ∀ x ∈ s.ts, ∀ c ∈ x.t.cs, Bd (2 ^ 48) c
  s : OkSc s
section
variable {g : GE} {f : Addr} {fd : FuncData} {A : CA}
theorem wl_of (n : Int) : Wl (1 + n % 6) (1 + n / 8 % 4) := ⟨by omega, by omega, by omega, by omega⟩
def Rltold (A : CA) : MC → List D → D → MC → Prop := fun c ds d c' => ∃ (s : Scene) (cuts way n : Int) (z : Thing), OkTold s cuts n z ∧ c = stD A s cuts ∧ ds = [.int way, .int n, dTh A z] ∧ d = .str (lrowT s cuts way n z).text ∧ c' = stD A ((lrowT s cuts way n z).next s) ((lrowT s cuts way n z).cuts cuts)
/-- the near part -/
theorem sIx {C : CxD} {δ : DS} {μ : Mu} {e o i_ : Expr} {d : D} {ds : List D} {rest : List Stmt} {pos pos' : Pos} {E : EndsD} {q : Addr} {n : Int} (k j : Nat) (he : ED C δ μ e d) (ho : ED C δ μ o (.ptr q)) (hi : ED C δ μ i_ (.int n)) (kk : SDs C δ (μ.set k (q, .lst (ds.set j d))) rest E) (hk : μ[k]? = some (q, .lst ds) := by rfl) (hj : j < ds.length := by exact Nat.lt_of_lt_of_le (Nat.lt_succ_self _) (Nat.le_of_ble_eq_true rfl)) (hn : n = (j : Int) := by rfl)
    (ha : ∀ env v, assign (.Subscript o i_ pos') env v = (do
      let ov ← holding [v] (eval o env)
      let iv ← holding [v, ov] (eval i_ env)
      standAt pos'
      holding [v, ov, iv] (setItem ov iv v)
      release [v, ov, iv] []) := by intro _ _; rfl)
    (hs : ∀ env, swapsWithSole [.Subscript o i_ pos'] e pos.line env = pure false := by intro _; rfl) (hw : ∀ env, swappedStores [.Subscript o i_ pos'] e env = pure none := by intro _; rfl) (h1 : ∀ env, (assignEach [.Subscript o i_ pos'] env).map (·.2) = [assign (.Subscript o i_ pos') env] := by intro _; rfl) :
    SDs C δ μ (.Assign [.Subscript o i_ pos'] e pos :: rest) E := ssetIx k j he ho hi kk hj hn hk ha hs hw h1
theorem told_near (B : Bl g) (T : TG g A) (c3 : Cal g "cut" 4 (spR g.K Rcut)) (c4 : Cal g "_law_like" 8 (spR g.K (Rlike A))) {y : Addr} {s : Scene} {cuts n : Int} (hc : cuts < 2) (z : D) (ok : OkSc s) (hb : ∀ z ∈ s.ts, ∀ c ∈ z.t.cs, Bd (2 ^ 48) c) (s4 s5 s6 s7 s10 : Option D) :
    SDs ⟨g, n_law_told, defScope s_law_told, 8, true⟩ [some (.ptr y), some (.int 4), some (.int n), some z, s4, s5, s6, s7, some (.lst (s.ts.map (dTh A))), some (.int cuts), s10, none, none, none, none, none, none, none] [(y, stD A s cuts)]
      ((defBody s_law_told).drop 5) (retM y (.str (Row.text (.near (1 + n % 6) (1 + n / 8 % 4)))) (stD A (Row.next s (.near (1 + n % 6) (1 + n / 8 % 4))) (cuts + 1))) := by
  have w := wl_of n
  refine sifT (BD.td (BD.andT (tc (ev 1 rfl rfl) ei (by decide)) (BD.and1 (tc (ev 9 rfl rfl) ei (decide_eq_true hc))))) ?_
  refine sset 11 (eb ei (er (ev 2 rfl rfl) ei (by decide))) ?_
  refine sset 12 (eb ei (er (ed (ev 2 rfl rfl) ei (by decide)) ei (by decide))) ?_
  have w1 := w.a0; have w2 := w.a1; have w3 := w.b0; have w4 := w.b1
  generalize 1 + n % 6 = a at *
  generalize 1 + n / 8 % 4 = b at *
  refine sset 13 (el an) ?_
  have hn := ok.n
  refine sfor (fun i δ μ => (∃ o14, δ = [some (.ptr y), some (.int 4), some (.int n), some z, s4, s5, s6, s7, some (.lst (s.ts.map (dTh A))), some (.int cuts), s10, some (.int a), some (.int b), some (.lst ((cutTs a b (s.ts.take i)).map (dTh A))), o14, none, none, none]) ∧ μ = [(y, stD A s cuts)]) (idl (ev 8 rfl rfl)) ⟨⟨_, rfl⟩, rfl⟩ ?_ ?_
  · rintro i d δ μ hd ⟨⟨o14, rfl⟩, rfl⟩
    rw [List.getElem?_map] at hd
    obtain ⟨x, hx, rfl⟩ := Option.map_eq_some_iff.mp hd
    have hm := List.mem_of_getElem? hx
    have ox := (ok.ts x hm).o
    have hi := (List.getElem?_eq_some_iff.mp hx).1
    have hlen := cutTs_len a b (s.ts.take i)
    have hlen2 := cutM_len a b x.t
    rw [List.length_take] at hlen
    refine ⟨_, _, gn 14, ?_⟩
    refine sset 13 (ED.to (ebx (ev 13 rfl rfl) (lcx [("_law_piece", 17)] (cutM a b x.t).1 dT (fun t => dTh A ⟨x.k, t⟩) rfl (idl (ix 0 (cl c3 (ac (triX T (ev 14 rfl rfl)) (ac (et (ac ei (ac ei (ac (ev 12 rfl rfl) (ac (eb ei (ev 11 rfl rfl)) an))))) an)) ⟨a, b, x.t, rfl, ⟨w, hb x hm, ox.t⟩, rfl⟩) ei rfl rfl)) rfl (fun u hu => te (gn 17) fun _ => cl c4 (ac (ev 14 rfl rfl) (ac (ev 17 rfl rfl) an)) ⟨x, u, rfl, ox, (cut_piece w (n := 2 ^ 48) (by decide) (Nat.le_refl _) ox.t (hb x hm) hu).ok, (cut_piece w (n := 2 ^ 48) (by decide) (Nat.le_refl _) ox.t (hb x hm) hu).len, rfl⟩) (small_size (by omega))) (bCat ?_)) (show _ = D.lst ((cutTs a b (s.ts.take (i + 1))).map (dTh A)) from ?_)) ?_
    · rw [List.length_map, List.length_map]
      exact sz (by omega)
    · rw [cutTs_take hx, List.map_append, List.map_map]
      rfl
    · exact s0 ⟨⟨_, rfl⟩, rfl⟩
  · rintro δ μ ⟨⟨o14, rfl⟩, rfl⟩
    rw [List.length_map, List.take_length]
    refine sIx 0 4 (ev 13 rfl rfl) (ev 0 rfl rfl) ei ?_
    refine sIx 0 5 (eb (ev 9 rfl rfl) ei) (ev 0 rfl rfl) ei ?_
    have h1 : (Str.ofString (toString a)).length ≤ 31 := sI_len (i := a) (small30 (n := 7) (by omega) (by decide))
    have h2 : (Str.ofString (toString b)).length ≤ 31 := sI_len (i := b) (small30 (n := 7) (by omega) (by decide))
    have e4 := near_len
    have e5 := blank_len
    have l1 := len_app "near " (Str.ofString (toString a))
    have l2 := len_app ("near " ++ Str.ofString (toString a)) " "
    exact sret (ebx (ebx (ebx es_ (ct (ac (ev 11 rfl rfl) an) (kStr (log30 (small30 (n := 7) (by omega) (by decide)))) B.str) (bAddS (sz (by omega)))) es_ (bAddS (sz (by omega)))) (ct (ac (ev 12 rfl rfl) an) (kStr (log30 (small30 (n := 7) (by omega) (by decide)))) B.str) (bAddS (sz (by omega)))) ⟨rfl, List.mem_singleton.mpr rfl⟩
end
end Lk
/-! told -/
namespace Lk
open PySem L2 DL
section
variable {g : GE} {f : Addr} {fd : FuncData} {A : CA}
theorem gr_list {n : Int} : [(n % 9 - 2, (1 : Int)), (2 * (n % 9) + 1, 2)].getD (n / 16 % 2).toNat (0, 1) = lgr n := rfl
/-- ground -/
theorem told_ground (c1 : Cal g "_law_word" 1 (spR g.K Rfraction_word)) {y : Addr} {s : Scene} {cuts n : Int} (z : D) (s4 s5 s6 s7 s8 s9 : Option D) :
    SDs ⟨g, n_law_told, defScope s_law_told, 8, true⟩ [some (.ptr y), some (.int 1), some (.int n), some z, s4, s5, s6, s7, s8, s9, none, none, none, none, none, none, none, none] [(y, stD A s cuts)]
      ((defBody s_law_told).drop 2) (retM y (.str (Row.text (.ground (lgr n)))) (stD A (Row.next s (.ground (lgr n))) cuts)) := by
  have ok := lgr_ok n
  have hg := gr_list (n := n)
  generalize lgr n = gr at *
  have hl := wF_len ok
  refine sifT (tc (ev 1 rfl rfl) ei (by decide)) ?_
  refine sIx (d := dF gr) 0 2 ?_ (ev 0 rfl rfl) ei ?_
  · refine @ED.to _ _ _ _ _ _ (@ixG _ _ _ _ _ _ _ _ [(n % 9 - 2, (1 : Int)), (2 * (n % 9) + 1, 2)] dF (0, 1) ?_ (er (ed (ev 2 rfl rfl) ei (by decide)) ei (by decide)) (by omega) (by show _ < (2 : Int); omega) (by intro _ _; rfl)) (congrArg dF hg)
    refine @el _ _ _ _ _ _ ?_ (Nat.le_of_ble_eq_true rfl)
    refine @ac _ _ _ _ _ _ _ (et (ac (eb (er (ev 2 rfl rfl) ei (by decide)) ei) (ac ei an))) ?_ (by intro _; rfl)
    refine @ac _ _ _ _ _ _ _ (et (ac (eb (em ei (er (ev 2 rfl rfl) ei (by decide)) (.inl (by decide))) ei) (ac ei an))) ?_ (by intro _; rfl)
    exact an
  · exact sret (ebx es_ (cl c1 (ac (ixM 2 0 (ev 0 rfl rfl) ei rfl rfl rfl) an) ⟨gr, rfl, ok, rfl⟩) (bAddS (sz (by have := ground_len; omega)))) ⟨rfl, List.mem_singleton.mpr rfl⟩
/-- spots -/
theorem told_spots (B : Bl g) (c1 : Cal g "_law_spots" 3 (spR g.K Rlspots)) {y : Addr} {s : Scene} {cuts n : Int} (z : D) (s4 s5 s6 s7 s8 s9 : Option D) :
    SDs ⟨g, n_law_told, defScope s_law_told, 8, true⟩ [some (.ptr y), some (.int 2), some (.int n), some z, s4, s5, s6, s7, s8, s9, none, none, none, none, none, none, none, none] [(y, stD A s cuts)]
      ((defBody s_law_told).drop 3) (retM y (.str (Row.text (.spots (lspots2 n)))) (stD A (Row.next s (.spots (lspots2 n))) cuts)) := by
  have ok := (lspots2_ok n).1
  have hd : lspots2 n = (lspots n).take 2 := rfl
  generalize lspots2 n = l at *
  have hn := ok.n
  have hl := wSps_len ok
  have hc := comma_len
  refine sifT (tc (ev 1 rfl rfl) ei (by decide)) ?_
  refine sIx (d := .lst (l.map dF)) 0 3 (ED.to (slL (cl c1 (ac (ev 2 rfl rfl) an) ⟨n, rfl, rfl⟩) p0 (p1 ei)) (show D.lst (cutD ((lspots n).map dF) none (some ((2 : Nat) : Int))) = _ from by rw [cutD_take, hd, List.map_take])) (ev 0 rfl rfl) ei ?_
  refine sret (ebx es_ (jn es_ (lcx [("_law_dx", 15), ("_law_dy", 16)] l dF (fun s => .str (wSp s)) (show _ = (l.map wSp).map D.str from by rw [List.map_map]; rfl) (idl (ixM 3 0 (ev 0 rfl rfl) ei rfl rfl rfl)) rfl (fun s hs => te (gt (gs (gn 15) (gs (gn 16) gs0))) fun _ => ebx (ebx (ct (ac (ev 15 rfl rfl) an) (kStr (log30 (ok.o s hs).s1)) B.str) es_ (bAddS ?_)) (ct (ac (ev 16 rfl rfl) an) (kStr (log30 (ok.o s hs).s2)) B.str) (bAddS ?_)) (small_size (by omega))) ?_) (bAddS ?_)) ⟨rfl, List.mem_singleton.mpr rfl⟩
  · have h1 : (Str.ofString (toString s.1)).length ≤ 31 := sI_len (ok.o s hs).s1
    exact sz (by rw [hc]; omega)
  · have h1 : (Str.ofString (toString s.1)).length ≤ 31 := sI_len (ok.o s hs).s1
    have h2 : (Str.ofString (toString s.2)).length ≤ 31 := sI_len (ok.o s hs).s2
    exact sz (by rw [len_app, hc]; omega)
  · exact jz 16 63 1 (by rw [List.length_map]; exact hn) (fun y hy => by
      obtain ⟨z, hz, rfl⟩ := List.mem_map.mp hy
      exact wSp_len (ok.o z hz)) blank_len (by decide)
  · have hl : (Txt.join " " (l.map wSp)).length ≤ 1024 := hl
    have := spots_len
    exact sz (by omega)
/-- drop, or the new thing -/
theorem told_last (B : Bl g) (c1 : Cal g "thing_text" 4 (spR g.K (Rthing_text A))) {y : Addr} {s : Scene} {cuts way n : Int} {z : Thing} (ok : OkSc s) (oz : OkWT z) (s4 s5 s6 s7 s10 : Option D) :
    SDs ⟨g, n_law_told, defScope s_law_told, 8, true⟩ [some (.ptr y), some (.int way), some (.int n), some (dTh A z), s4, s5, s6, s7, some (.lst (s.ts.map (dTh A))), some (.int cuts), s10, none, none, none, none, none, none, none] [(y, stD A s cuts)]
      ((defBody s_law_told).drop 6) (retM y (.str (Row.text (if 4 < s.ts.length then .drop 0 else .thing z))) (stD A (Row.next s (if 4 < s.ts.length then .drop 0 else .thing z)) cuts)) := by
  have hn := ok.n
  by_cases h : 4 < s.ts.length
  · rw [if_pos h]
    refine sifT (tc (cb (ac (ev 8 rfl rfl) an) kLn B.len) ei (decide_eq_true (by rw [List.length_map]; omega))) ?_
    refine sIx (d := .lst ((s.ts.take 0 ++ s.ts.drop (0 + 1)).map (dTh A))) 0 4 (ED.to (slL (ev 8 rfl rfl) (p1 ei) p0) (show D.lst (cutD (s.ts.map (dTh A)) (some ((1 : Nat) : Int)) none) = _ from by rw [cutD_drop, List.take_zero, List.nil_append, List.map_drop])) (ev 0 rfl rfl) ei ?_
    refine sret (ED.to es_ (show _ = D.str (Row.text (.drop 0)) from congrArg D.str ?_)) ⟨rfl, List.mem_singleton.mpr rfl⟩
    kernel_rfl
  · rw [if_neg h]
    refine sifN (tc (cb (ac (ev 8 rfl rfl) an) kLn B.len) ei (decide_eq_false (by rw [List.length_map]; omega))) ?_
    refine sIx (d := .lst ((s.ts ++ [z]).map (dTh A))) 0 4 (ED.to (ebx (ev 8 rfl rfl) (el (ac (ev 3 rfl rfl) an)) (bCat ?_)) (show D.lst (s.ts.map (dTh A) ++ [dTh A z]) = _ from by rw [List.map_append]; rfl)) (ev 0 rfl rfl) ei ?_
    · rw [List.length_map]
      exact sz (by simp; omega)
    exact sret (cl c1 (ac (ev 3 rfl rfl) an) ⟨z, rfl, oz, rfl⟩) ⟨rfl, List.mem_singleton.mpr rfl⟩
/-- drop -/
theorem told_drop (B : Bl g) {y : Addr} {s : Scene} {cuts n : Int} (n0 : 0 ≤ n) (hne : s.ts ≠ []) (ok : OkSc s) (z : D) (s4 s5 s6 s7 s9 : Option D) :
    SDs ⟨g, n_law_told, defScope s_law_told, 8, true⟩ [some (.ptr y), some (.int 3), some (.int n), some z, s4, s5, s6, s7, some (.lst (s.ts.map (dTh A))), s9, none, none, none, none, none, none, none, none] [(y, stD A s cuts)]
      ((defBody s_law_told).drop 4) (retM y (.str (Row.text (.drop (n % (s.ts.length : Int)).toNat))) (stD A (Row.next s (.drop (n % (s.ts.length : Int)).toNat)) cuts)) := by
  have hn := ok.n
  have hl : 0 < s.ts.length := List.length_pos_iff.mpr hne
  have b0 := Int.emod_nonneg n (show (s.ts.length : Int) ≠ 0 by omega)
  have b1 := Int.emod_lt_of_pos n (show 0 < (s.ts.length : Int) by omega)
  refine sifT (BD.td (BD.andT (tc (ev 1 rfl rfl) ei (by decide)) (BD.and1 (tcx (ev 8 rfl rfl) (el an) cNeNil (by
    obtain ⟨x, xs, hx⟩ := List.exists_cons_of_ne_nil hne
    rw [hx]
    rfl))))) ?_
  refine sset 10 (ED.to (er (ev 2 rfl rfl) (cb (ac (ev 8 rfl rfl) an) kLn B.len) (by rw [List.length_map]; omega)) (show _ = D.int ((n % (s.ts.length : Int)).toNat : Int) from congrArg D.int (by rw [List.length_map]; omega))) ?_
  have hi : (n % (s.ts.length : Int)).toNat < s.ts.length := by omega
  generalize (n % (s.ts.length : Int)).toNat = i at *
  refine sIx (d := .lst ((s.ts.take i ++ s.ts.drop (i + 1)).map (dTh A))) 0 4 (ED.to (ebx (slL (ev 8 rfl rfl) p0 (p1 (ev 10 rfl rfl))) (slL (ev 8 rfl rfl) (p1 (eb (ev 10 rfl rfl) ei)) p0) (bCat ?_)) (show D.lst (cutD (s.ts.map (dTh A)) none (some (i : Int)) ++ cutD (s.ts.map (dTh A)) (some ((i + 1 : Nat) : Int)) none) = _ from by rw [cutD_take, cutD_drop, List.map_append, List.map_take, List.map_drop])) (ev 0 rfl rfl) ei ?_
  · show (cutD (s.ts.map (dTh A)) none (some (i : Int))).length + (cutD (s.ts.map (dTh A)) (some ((i + 1 : Nat) : Int)) none).length ≤ sizeLine
    rw [cutD_take, cutD_drop, List.length_take, List.length_drop, List.length_map]
    exact sz (by omega)
  have h1 : (Str.ofString (toString (i : Int))).length ≤ 31 := sI_len (i := (i : Int)) (small30 (n := 100) (by omega) (by decide))
  have e4 := drop_len
  exact sret (ebx es_ (ct (ac (ev 10 rfl rfl) an) (kStr (log30 (small30 (n := 100) (by omega) (by decide)))) B.str) (bAddS (sz (by omega)))) ⟨rfl, List.mem_singleton.mpr rfl⟩
end
end Lk
/-! told, whole; what holds from row to row -/
namespace Lk
open PySem L2 DL
section
variable {g : GE} {f : Addr} {fd : FuncData} {A : CA}
theorem told_floor (B : Bl g) {y : Addr} {s : Scene} {cuts n : Int} (z : D) (s4 s5 s6 s7 s8 s9 : Option D) :
    SDs ⟨g, n_law_told, defScope s_law_told, 8, true⟩ [some (.ptr y), some (.int 0), some (.int n), some z, s4, s5, s6, s7, s8, s9, none, none, none, none, none, none, none, none] [(y, stD A s cuts)]
      ((defBody s_law_told).drop 1) (retM y (.str (Row.text (.floor (1 + n % 5) (1 + n / 8 % 4)))) (stD A (Row.next s (.floor (1 + n % 5) (1 + n / 8 % 4))) cuts)) := by
  refine sifT (tc (ev 1 rfl rfl) ei (by decide)) ?_
  refine sIx (d := .int (1 + n % 5)) 0 0 (eb ei (er (ev 2 rfl rfl) ei (by decide))) (ev 0 rfl rfl) ei ?_
  refine sIx (d := .int (1 + n / 8 % 4)) 0 1 (eb ei (er (ed (ev 2 rfl rfl) ei (by decide)) ei (by decide))) (ev 0 rfl rfl) ei ?_
  have w1 : 1 ≤ 1 + n % 5 ∧ 1 + n % 5 ≤ 64 := by omega
  have w2 : 1 ≤ 1 + n / 8 % 4 ∧ 1 + n / 8 % 4 ≤ 64 := by omega
  generalize 1 + n % 5 = a at *
  generalize 1 + n / 8 % 4 = b at *
  have h1 : (Str.ofString (toString a)).length ≤ 31 := sI_len (side30 w1.1 w1.2)
  have h2 : (Str.ofString (toString b)).length ≤ 31 := sI_len (side30 w2.1 w2.2)
  have e4 := floor_len
  have e5 := blank_len
  have l1 := len_app "floor " (Str.ofString (toString a))
  have l2 := len_app ("floor " ++ Str.ofString (toString a)) " "
  exact sret (ebx (ebx (ebx es_ (ct (ac (ixM 0 0 (ev 0 rfl rfl) ei rfl rfl rfl) an) (kStr (log30 (side30 w1.1 w1.2))) B.str) (bAddS (sz (by omega)))) es_ (bAddS (sz (by omega)))) (ct (ac (ixM 1 0 (ev 0 rfl rfl) ei rfl rfl rfl) an) (kStr (log30 (side30 w2.1 w2.2))) B.str) (bAddS (sz (by omega)))) ⟨rfl, List.mem_singleton.mpr rfl⟩
theorem ok_law_told (F : FnP g "_law_told" s_law_told f fd) (B : Bl g) (T : TG g A) (c1 : Cal g "_law_word" 1 (spR g.K Rfraction_word)) (c2 : Cal g "_law_spots" 3 (spR g.K Rlspots)) (c3 : Cal g "cut" 4 (spR g.K Rcut)) (c4 : Cal g "_law_like" 8 (spR g.K (Rlike A))) (c5 : Cal g "thing_text" 4 (spR g.K (Rthing_text A))) : OkM g 9 f fd p_law_told (Rltold A) := by
  refine mut_def F sc_law_told (fun c ds d c' ⟨_, _, _, _, _, _, _, h, _⟩ => by rw [h]; rfl) ?_
  rintro y c ds d c' ⟨s, cuts, way, n, z, ok, rfl, rfl, rfl, rfl⟩
  have n0 := ok.n0
  refine sasgM 0 (ev 0 rfl rfl) (gs (gn 4) (gs (gn 5) (gs (gn 6) (gs (gn 7) (gs (gn 8) (gs (gn 9) gs0)))))) ?_
  by_cases h0 : way = 0
  · subst h0
    exact told_floor (A := A) B _ _ _ _ _ _ _
  · refine sifN (tc (ev 1 rfl rfl) ei (decide_eq_false h0)) ?_
    by_cases h1 : way = 1
    · subst h1
      exact told_ground (A := A) c1 _ _ _ _ _ _ _
    · refine sifN (tc (ev 1 rfl rfl) ei (decide_eq_false h1)) ?_
      by_cases h2 : way = 2
      · subst h2
        exact told_spots (A := A) B c2 _ _ _ _ _ _ _
      · refine sifN (tc (ev 1 rfl rfl) ei (decide_eq_false h2)) ?_
        by_cases h3 : way = 3 ∧ s.ts ≠ []
        · have e : lrowT s cuts way n z = .drop (n % (s.ts.length : Int)).toNat := (if_neg h0).trans ((if_neg h1).trans ((if_neg h2).trans (if_pos h3)))
          obtain ⟨h3, hne⟩ := h3
          rw [e]
          subst h3
          exact told_drop (A := A) B n0 hne ok.s _ _ _ _ _ _
        · refine sifN (BD.td (BD.to (BD.and (tc (ev 1 rfl rfl) ei rfl) fun _ => BD.and1 (tcx (ev 8 rfl rfl) (el an) cNeNil rfl)) ?_)) ?_
          · rw [Bool.and_eq_false_iff]
            by_cases hw : way = 3
            · right
              have : s.ts = [] := Classical.byContradiction fun hne => h3 ⟨hw, hne⟩
              rw [this]
              rfl
            · left
              exact decide_eq_false hw
          by_cases h4 : way = 4 ∧ cuts < 2
          · have e : lrowT s cuts way n z = .near (1 + n % 6) (1 + n / 8 % 4) := (if_neg h0).trans ((if_neg h1).trans ((if_neg h2).trans ((if_neg h3).trans (if_pos h4))))
            obtain ⟨h4, hc⟩ := h4
            rw [e]
            subst h4
            exact told_near (A := A) B T c3 c4 hc _ ok.s (ok.b hc) _ _ _ _ _
          · have e : lrowT s cuts way n z = if 4 < s.ts.length then .drop 0 else .thing z := (if_neg h0).trans ((if_neg h1).trans ((if_neg h2).trans ((if_neg h3).trans (if_neg h4))))
            have ec : Row.cuts cuts (if 4 < s.ts.length then .drop 0 else .thing z) = cuts := by split <;> rfl
            rw [e, ec]
            refine sifN (BD.td (BD.to (BD.and (tc (ev 1 rfl rfl) ei rfl) fun _ => BD.and1 (tc (ev 9 rfl rfl) ei rfl)) ?_)) ?_
            · rw [← Bool.decide_and]
              exact decide_eq_false h4
            exact told_last (A := A) B c5 ok.s ok.o _ _ _ _ _
end
/-! ### from row to row -/
def bdOf (c : Int) : Nat := if c = 0 then 2 ^ 20 else if c = 1 then 2 ^ 45 else 2 ^ 95
theorem bdOf_le (c : Int) : bdOf c ≤ 10 ^ 30 := by
  unfold bdOf
  split
  · decide
  · split <;> decide
theorem bdOf_lo (c : Int) : 2 ^ 20 ≤ bdOf c := by
  unfold bdOf
  split
  · decide
  · split <;> decide
theorem bdOf_cut {c : Int} (h0 : 0 ≤ c) (h : c < 2) : bdOf c ≤ 2 ^ 48 ∧ 2 * (16 * bdOf c * bdOf c) = bdOf (c + 1) := by
  have hc : c = 0 ∨ c = 1 := by omega
  rcases hc with rfl | rfl <;> decide
def mostTs (c : Int) : Nat := if c = 0 then 5 else if c = 1 then 10 else 20
theorem mostTs_cut {c : Int} (h0 : 0 ≤ c) (h : c < 2) : mostTs (c + 1) = 2 * mostTs c := by
  have hc : c = 0 ∨ c = 1 := by omega
  rcases hc with rfl | rfl <;> decide
theorem mostTs_bd (c : Int) : 5 ≤ mostTs c ∧ mostTs c ≤ 20 := by
  unfold mostTs
  split
  · decide
  · split <;> decide
structure LZ (c : Int) (z : Thing) : Prop where
  o : OkTh z
  s : ∀ x ∈ z.t.cs, Bd (bdOf c) x ∧ x.vs.length ≤ 3
theorem LZ.wt {c : Int} {z : Thing} (h : LZ c z) : OkWT z := ⟨h.o, fun x hx => ⟨(h.s x hx).1.mono (bdOf_le c), (h.s x hx).2⟩⟩
theorem LThing.lz {z : Thing} (h : LThing z) (c : Int) : LZ c z := ⟨h.o, fun x hx => ⟨(h.s x hx).1.mono (bdOf_lo c), (h.s x hx).2⟩⟩
structure LInv (s : Scene) (c : Int) : Prop where
  c0 : 0 ≤ c
  c2 : c ≤ 2
  w0 : 1 ≤ s.w
  w1 : s.w ≤ 64
  h0 : 1 ≤ s.h
  h1 : s.h ≤ 64
  g : OkF s.g
  sp : OkSps s.sp
  ts : ∀ z ∈ s.ts, LZ c z
  n : s.ts.length ≤ mostTs c
theorem LInv.sc {s : Scene} {c : Int} (h : LInv s c) : OkSc s := ⟨h.w0, h.w1, h.h0, h.h1, h.g, h.sp, fun z hz => (h.ts z hz).wt, by have := mostTs_bd c; have := h.n; omega⟩
theorem LInv.bd {s : Scene} {c : Int} (h : LInv s c) (hc : c < 2) : ∀ x ∈ s.ts, ∀ y ∈ x.t.cs, Bd (2 ^ 48) y := fun x hx y hy => ((h.ts x hx).s y hy).1.mono (bdOf_cut h.c0 hc).1
theorem LInv.told {s : Scene} {c n : Int} {z : Thing} (h : LInv s c) (n0 : 0 ≤ n) (n1 : n < 2147483648) (hz : LThing z) : OkTold s c n z := ⟨n0, n1, (hz.lz c).wt, h.bd, h.sc⟩
theorem LInv.step {s : Scene} {c way n : Int} {z : Thing} (h : LInv s c) (n0 : 0 ≤ n) (hz : LThing z) : OkRow s (lrowT s c way n z) ∧ LInv ((lrowT s c way n z).next s) ((lrowT s c way n z).cuts c) := by
  unfold lrowT
  split
  · exact ⟨⟨by omega, by omega, by omega, by omega⟩, ⟨h.c0, h.c2, by show 1 ≤ 1 + n % 5; omega, by show 1 + n % 5 ≤ 64; omega, by show 1 ≤ 1 + n / 8 % 4; omega, by show 1 + n / 8 % 4 ≤ 64; omega, h.g, h.sp, h.ts, h.n⟩⟩
  · split
    · exact ⟨lgr_ok n, ⟨h.c0, h.c2, h.w0, h.w1, h.h0, h.h1, lgr_ok n, h.sp, h.ts, h.n⟩⟩
    · split
      · exact ⟨lspots2_ok n, ⟨h.c0, h.c2, h.w0, h.w1, h.h0, h.h1, h.g, (lspots2_ok n).1, h.ts, h.n⟩⟩
      · have drop : ∀ i, i < s.ts.length → OkRow s (.drop i) ∧ LInv (Row.next s (.drop i)) (Row.cuts c (.drop i)) := fun i hi => ⟨hi, ⟨h.c0, h.c2, h.w0, h.w1, h.h0, h.h1, h.g, h.sp, fun x hx => by
            rcases List.mem_append.mp hx with hx | hx
            · exact h.ts x (List.mem_of_mem_take hx)
            · exact h.ts x (List.mem_of_mem_drop hx), by
            show (s.ts.take i ++ s.ts.drop (i + 1)).length ≤ _
            have := h.n
            rw [List.length_append, List.length_take, List.length_drop]
            show _ ≤ mostTs c
            omega⟩⟩
        split
        · rename_i h3
          have hl : 0 < s.ts.length := List.length_pos_iff.mpr h3.2
          have b0 := Int.emod_nonneg n (show (s.ts.length : Int) ≠ 0 by omega)
          have b1 := Int.emod_lt_of_pos n (show 0 < (s.ts.length : Int) by omega)
          exact drop _ (by omega)
        · split
          · rename_i h4
            have hb := bdOf_cut h.c0 h4.2
            have w := wl_of n
            refine ⟨⟨w, h.bd h4.2⟩, ⟨by show 0 ≤ c + 1; have := h.c0; omega, by show c + 1 ≤ 2; omega, h.w0, h.w1, h.h0, h.h1, h.g, h.sp, fun x hx => ?_, ?_⟩⟩
            · obtain ⟨y, hy, hx⟩ := List.mem_flatMap.mp hx
              obtain ⟨u, hu, rfl⟩ := List.mem_map.mp hx
              have zy := h.ts y hy
              have p := cut_piece w (Nat.le_trans (by decide) (bdOf_lo c)) hb.1 zy.o.t (fun q hq => (zy.s q hq).1) hu
              have pk := zy.o.k
              rw [← p.len] at pk
              refine ⟨⟨p.ok, pk⟩, fun q hq => ⟨?_, ?_⟩⟩
              · have := p.bd q hq
                rw [hb.2] at this
                exact this
              · exact (p.ok.all q hq).1.vs
            · have e1 := cutTs_len (1 + n % 6) (1 + n / 8 % 4) s.ts
              have e2 := mostTs_cut h.c0 h4.2
              have e3 := h.n
              show (cutTs _ _ s.ts).length ≤ mostTs (c + 1)
              omega
          · split
            · rename_i h5
              exact drop 0 (by omega)
            · rename_i h5
              refine ⟨(hz.lz c).wt, ⟨h.c0, h.c2, h.w0, h.w1, h.h0, h.h1, h.g, h.sp, fun x hx => ?_, ?_⟩⟩
              · rcases List.mem_append.mp hx with hx | hx
                · exact h.ts x hx
                · rw [List.mem_singleton.mp hx]; exact hz.lz c
              · show (s.ts ++ [z]).length ≤ mostTs c
                have := (mostTs_bd c).1
                rw [List.length_append, List.length_singleton]
                omega
end Lk
/-! the law -/
namespace DL
open PySem L2
section
variable {C : CxD} {δ : DS} {μ : Mu} {a b : Expr} {pos : Pos}
theorem cNeSS {x : Str} : CmpD C .NotEq (.str x) (.str x) (.bl false) := by
  have h := cNeS (C := C) (x := x) (y := x)
  rw [decide_eq_true rfl] at h
  exact h
theorem cEqSS {x : Str} : CmpD C .Eq (.str x) (.str x) (.bl true) := by
  have h := cEqS (C := C) (x := x) (y := x)
  rw [decide_eq_true rfl] at h
  exact h
theorem txNe {PB : Bool → Mu → Prop} (ha : EX C δ μ a (fun d μ' => ∃ x, d = .str x ∧ ED C δ μ' b (.str x) ∧ PB false μ')) (hm : behindInMarks .NotEq b = false := by rfl) : TX C δ μ (.Compare a [.NotEq] [b] pos) PB :=
  TX.cmp (fun X hX B σ H s Q q => ha X hX B σ H s Q fun d μ' v H' ⟨x, e, h1, h2⟩ s' r => q d μ' v H' ⟨_, false, h1, by rw [e]; exact cNeSS, h2⟩ s' r) hm ⟨_, fun _ _ => op_ne⟩
end
end DL
namespace Lk
open PySem L2 DL
def zP : Thing := ⟨.plain (3, 1), ⟨⟨0, 0, 1, 2, []⟩, ⟨5, 0, 2, 1, []⟩, ⟨0, 5, 3, 4, []⟩⟩⟩
theorem bd0 {x y w h : Int} (hx : x.natAbs < 2 ^ 20) (hy : y.natAbs < 2 ^ 20) (hw : w.natAbs < 2 ^ 20) (hh : h.natAbs < 2 ^ 20) : Bd (2 ^ 20) ⟨x, y, w, h, []⟩ := ⟨hx, hy, hw, hh, fun v hv => by cases hv⟩
theorem zP_ok : LThing zP := by
  refine ⟨⟨⟨⟨by decide, by decide, by decide⟩, ⟨by decide, by decide, by decide⟩, ⟨by decide, by decide, by decide⟩, rfl, rfl⟩, ⟨by decide, by decide, by decide, by decide⟩⟩, fun c hc => ?_⟩
  simp only [zP, Tri.cs, List.mem_cons, List.not_mem_nil, or_false] at hc
  rcases hc with rfl | rfl | rfl
  · exact ⟨bd0 (by decide) (by decide) (by decide) (by decide), by decide⟩
  · exact ⟨bd0 (by decide) (by decide) (by decide) (by decide), by decide⟩
  · exact ⟨bd0 (by decide) (by decide) (by decide) (by decide), by decide⟩
def lsome (ns : List Int) : List Thing := lthings ns ++ [zP]
theorem lsome_ok {ns : List Int} : ∀ z ∈ lsome ns, LThing z := fun z hz => by
  rcases List.mem_append.mp hz with hz | hz
  · exact lthings_ok z hz
  · rw [List.mem_singleton.mp hz]; exact zP_ok
theorem lsome_len (ns : List Int) : 1 ≤ (lsome ns).length ∧ (lsome ns).length ≤ 6 := by
  have := lthings_len ns
  unfold lsome
  rw [List.length_append, List.length_singleton]
  omega
def sc0 : Scene := ⟨8, 8, (0, 1), [(4, 4)], []⟩
def sc1 : Scene := ⟨8, 8, (7, 2), [(4, 4)], []⟩
theorem inv0 : LInv sc0 0 := ⟨by decide, by decide, by decide, by decide, by decide, by decide, ⟨by decide, by decide, by decide, by decide⟩, ⟨fun s hs => by rw [List.mem_singleton.mp hs]; exact ⟨by decide, by decide, by decide, by decide⟩, by decide, by decide⟩, fun z hz => by (cases hz), by decide⟩
theorem f72 : OkF (7, 2) := ⟨by decide, by decide, by decide, by decide⟩
theorem inv1 : LInv sc1 0 := ⟨by decide, by decide, by decide, by decide, by decide, by decide, f72, inv0.sp, fun z hz => by (cases hz), by decide⟩
theorem show0 : wSc sc0 = "floor 8 8\nground 0\nspots 4,4" := by kernel_rfl
theorem show1 : wSc sc1 = "floor 8 8\nground 7/2\nspots 4,4" := by kernel_rfl
theorem ground1 : Row.text (.ground (7, 2)) = "ground 7/2" := by kernel_rfl
section
variable {g : GE} {f : Addr} {fd : FuncData} {A : CA}
def Rlaw : List D → D → Prop := fun ds d => ∃ ns : List Int, ds = [.lsr (ns.map D.int)] ∧ d = .bl true
structure LG (g : GE) (A : CA) (Cl : Addr) : Prop where
  B : Bl g
  T : TG g A
  K : DCl g Cl
  mkD : Mak g "Desk" Cl 1 (spM g.K (RDesk g A))
  say : Mth g Cl "say" 12 (spM g.K (Rsay g A))
  things : Cal g "_law_things" 9 (spR g.K (Rlthings A))
  cell : Cal g "_law_cell_at" 1 (spR g.K Rcell_at)
  draws : Cal g "_law_draws" 2 (spR g.K Rldraws)
  told : Cal g "_law_told" 9 (spM g.K (Rltold A))
  text : Cal g "scene_text" 5 (spR g.K (Rscene_text A))
abbrev CxL (g : GE) : CxD := ⟨g, n_law, defScope s_law, 12, true⟩
theorem ans_tell {s : Scene} {r : Row} (h : r.ans s = "ok") : D.str (r.ans s) = .str "ok" := by rw [h]
theorem lrowT_ans (s : Scene) (c way n : Int) (z : Thing) : (lrowT s c way n z).ans s = "ok" := by
  unfold lrowT
  split
  · rfl
  · split
    · rfl
    · split
      · rfl
      · split
        · rfl
        · split
          · rfl
          · split <;> rfl
/-- a turn of the loop -/
theorem law_turn {Cl : Addr} (L : LG g A Cl) {ns : List Int} {y1 y2 y3 : Addr} {s : Scene} {c n1 n2 : Int} (inv : LInv s c) (k : Nat) (s7 s8 s9 : Option D) (sF : D) (E : EndsD)
    (hE : ∀ s' c' n1' s7 s8 s9, LInv s' c' → E.nx [some (.lsr (ns.map D.int)), some (.ptr y1), some (.ptr y2), some sF, some (.lst ((lsome ns).map (dTh A))), some (.ptr y3), some (.int k), s7, s8, s9] [(y3, stD A s' c'), (y2, dk Cl A n2 sc1), (y1, dk Cl A n1' s')]) :
    SDs (CxL g) [some (.lsr (ns.map D.int)), some (.ptr y1), some (.ptr y2), some sF, some (.lst ((lsome ns).map (dTh A))), some (.ptr y3), some (.int k), s7, s8, s9] [(y3, stD A s c), (y2, dk Cl A n2 sc1), (y1, dk Cl A n1 s)]
      (match (defBody s_law).getD 6 (.Pass ⟨0, 0, 0, 0⟩) with | .For _ _ b _ _ => b | _ => []) E := by
  have B := L.B
  have K := L.K
  refine sasg (ED.to (cl L.draws (ac (eb (cl L.cell (ac (ev 0 rfl rfl) (ac (ED.to (eb ei (ev 6 rfl rfl)) (show _ = D.int ((8 + k : Nat) : Int) from congrArg D.int (by omega))) an)) ⟨ns, 8 + k, rfl, rfl⟩) (er (ev 6 rfl rfl) ei (by decide))) (ac (ED.to ei (show _ = D.int ((2 : Nat) : Int) from rfl)) an)) ⟨_, 2, rfl, by decide, rfl⟩) (show _ = D.lst [.int (lmix (ns.getD (8 + k) 0 + (k : Int) % 3) ((0 : Nat) : Int)), .int (lmix (ns.getD (8 + k) 0 + (k : Int) % 3) ((1 : Nat) : Int))] from rfl)) (gl (gs (gn 7) (gs (gn 8) gs0))) ?_
  have m0 := lmix_lo (ns.getD (8 + k) 0 + (k : Int) % 3) ((1 : Nat) : Int)
  have m1 := lmix_hi (ns.getD (8 + k) 0 + (k : Int) % 3) ((1 : Nat) : Int)
  generalize lmix (ns.getD (8 + k) 0 + (k : Int) % 3) ((1 : Nat) : Int) = nb at *
  generalize lmix (ns.getD (8 + k) 0 + (k : Int) % 3) ((0 : Nat) : Int) = wy at *
  have hlen := lsome_len ns
  have b0 := Int.emod_nonneg (k : Int) (show ((lsome ns).length : Int) ≠ 0 by omega)
  have b1 := Int.emod_lt_of_pos (k : Int) (show 0 < ((lsome ns).length : Int) by omega)
  have hz : LThing ((lsome ns).getD ((k : Int) % ((lsome ns).length : Int)).toNat zP) := lsome_ok _ (getD_mem _ (by omega))
  have hpick : ∀ {δ : DS} {μ : Mu} {a b pos}, ED (CxL g) δ μ a (.lst ((lsome ns).map (dTh A))) → ED (CxL g) δ μ b (.int ((k : Int) % (((lsome ns).map (dTh A)).length : Int))) → PlainIx b → ED (CxL g) δ μ (.Subscript a b pos) (dTh A ((lsome ns).getD ((k : Int) % ((lsome ns).length : Int)).toNat zP)) := fun h1 h2 hp => ixG zP h1 (ED.to h2 (by rw [List.length_map])) b0 b1 hp
  generalize (lsome ns).getD ((k : Int) % ((lsome ns).length : Int)).toNat zP = z at *
  refine ssetX 9 (xc 0 L.told (ac (ev 5 rfl rfl) (ac (er (ev 7 rfl rfl) ei (by decide)) (ac (ev 8 rfl rfl) (ac (hpick (ev 4 rfl rfl) (er (ev 6 rfl rfl) (cb (ac (ev 4 rfl rfl) an) kLn B.len) (by rw [List.length_map]; omega)) (by intro _ _; rfl)) an)))) ⟨s, c, wy % 8, nb, z, inv.told m0 m1 hz, rfl, rfl, rfl, rfl⟩ ?_)
  obtain ⟨okr, inv'⟩ := inv.step (way := wy % 8) m0 hz
  have hans := lrowT_ans s c (wy % 8) nb z
  generalize lrowT s c (wy % 8) nb z = r at *
  refine sifX (BX.td (BX.or (txNe (xm 2 (ev 1 rfl rfl) L.say (ac (ev 9 rfl rfl) an) ⟨Cl, n1, s, r, K, ⟨okr, inv.sc⟩, rfl, rfl, rfl, rfl⟩ ⟨"ok", by rw [hans], es_, fun h => by (cases h), fun _ => BX.or1 (txNe (xm 2 (ev 1 rfl rfl) L.say (ac es_ an) ⟨Cl, n1 + 1, r.next s, .show_, K, ⟨trivial, inv'.sc⟩, rfl, rfl, rfl, rfl⟩ ⟨wSc (r.next s), rfl, cl L.text (ac (ct (ac (ED.slM (ev 5 rfl rfl) (List.mem_of_getElem? (i := 0) rfl) p0 (p1 ei)) an) kTp B.tuple) an) ⟨r.next s, rfl, inv'.sc, rfl⟩, ?_⟩ K.cls))⟩ K.cls))))
  refine ⟨fun h => by (cases h), fun _ => s0 (s0 ?_)⟩
  exact hE _ _ _ _ _ _ inv'
end
end Lk
/-! the law, whole -/
namespace Lk
open PySem L2 DL
section
variable {g : GE} {f : Addr} {fd : FuncData} {A : CA}
theorem cutD_le {ds : List D} {a b : Nat} : (cutD ds (some (a : Int)) (some (b : Int))).length ≤ b - a := by
  unfold cutD
  rw [HT.sIx_nat, HT.sIx_nat, List.length_take]
  omega
theorem corner_lit {C : CxD} {δ : DS} {μ : Mu} {x y w h : Int} {j1 j2 j3 j4 k1 k2} {p1 p2 p3 p4 p5 p6 : Pos} : ED C δ μ (.Tuple [.Constant (.int x) j1 p1, .Constant (.int y) j2 p2, .Constant (.int w) j3 p3, .Constant (.int h) j4 p4, .Tuple [] k1 p5] k2 p6) (dC ⟨x, y, w, h, []⟩) := et (ac ei (ac ei (ac ei (ac ei (ac (et an) an)))))
theorem tri_lit {C : CxD} {δ : DS} {μ : Mu} {a b c : Expr} {k} {p : Pos} {x y z : Corner} (h1 : ED C δ μ a (dC x)) (h2 : ED C δ μ b (dC y)) (h3 : ED C δ μ c (dC z)) (s1 : Star a [b, c]) (s2 : Star b [c]) (s3 : Star c []) : ED C δ μ (.Tuple [a, b, c] k p) (dT ⟨x, y, z⟩) := et (ac h1 (ac h2 (ac h3 an s3) s2) s1)
theorem some_ed {C : CxD} {δ : DS} {μ : Mu} {e1 e2 : Expr} {p pos : Pos} {ns : List Int} (h1 : ED C δ μ e1 (.lst ((lthings ns).map (dTh A)))) (h2 : ED C δ μ e2 (dTh A zP)) (hs : Star e2 []) : ED C δ μ (.BinOp e1 .Add (.List [e2] p) pos) (.lst ((lsome ns).map (dTh A))) := by
  have hlen := lthings_len ns
  have h := ebx (pos := pos) h1 (el (pos := p) (ac h2 an hs)) (bCat (by rw [List.length_map]; exact sz (by simp; omega)))
  unfold lsome
  rw [List.map_append]
  exact h
theorem plain_ed (T : TG g A) {δ : DS} {μ : Mu} {e1 e2 : Expr} {p pos : Pos} {x : Str} (hx : x = "Plain") (h1 : ED (CxL g) δ μ e1 (dT ⟨⟨0, 0, 1, 2, []⟩, ⟨5, 0, 2, 1, []⟩, ⟨0, 5, 3, 4, []⟩⟩)) (h2 : ED (CxL g) δ μ e2 (dF (3, 1))) (s1 : Star e1 [e2]) (s2 : Star e2 []) (hpl : NoStar [e2]) : ED (CxL g) δ μ (.Call (.Name x p) [e1, e2] [] pos) (dTh A zP) := by
  subst hx
  exact mk (ds := [dT zP.t, dF (3, 1)]) T.mkP (ac h1 (ac h2 an s2) s1) ⟨_, zP.t, (3, 1), T.plain, zP_ok.o.t, zP_ok.o.k, rfl, rfl, rfl, rfl⟩ (Nat.le_of_ble_eq_true rfl) (by kernel_rfl) s1 hpl
theorem law_some {Cl : Addr} (L : LG g A Cl) {ns : List Int} {y1 y2 : Addr} (sF : D) (μ : Mu) (E : EndsD)
    (hE : SDs (CxL g) [some (.lsr (ns.map D.int)), some (.ptr y1), some (.ptr y2), some sF, some (.lst ((lsome ns).map (dTh A))), none, none, none, none, none] μ ((defBody s_law).drop 5) E) :
    SDs (CxL g) [some (.lsr (ns.map D.int)), some (.ptr y1), some (.ptr y2), some sF, none, none, none, none, none, none] μ ((defBody s_law).drop 4) E := by
  have T := L.T
  refine @sset _ _ _ _ _ (.lst ((lsome ns).map (dTh A))) _ _ _ _ 4 ?_ ?_ rfl (by intro _ _; kernel_rfl) (by kernel_rfl) (by kernel_rfl)
  · apply some_ed
    · exact cl L.things (ac (ev 0 rfl rfl) (ac ei (ac ei an))) ⟨ns, rfl, rfl⟩
    · refine @plain_ed _ _ T _ _ _ _ _ _ _ (by kernel_rfl) ?_ ?_ ?_ ?_ ?_
      · refine @tri_lit _ _ _ _ _ _ _ _ ⟨0, 0, 1, 2, []⟩ ⟨5, 0, 2, 1, []⟩ ⟨0, 5, 3, 4, []⟩ ?_ ?_ ?_ ?_ ?_ ?_
        · exact corner_lit
        · exact corner_lit
        · exact corner_lit
        · intro _; rfl
        · intro _; rfl
        · intro _; rfl
      · exact et (ac ei (ac ei an))
      · intro _; rfl
      · intro _; rfl
      · intro _ _; rfl
    · intro _; rfl
  · assumption
theorem law_end {Cl : Addr} (L : LG g A Cl) {ns : List Int} {y1 y2 y3 : Addr} {s : Scene} {c n1 n2 : Int} (s3 s4 s6 s7 s8 s9 : Option D) :
    SDs (CxL g) [some (.lsr (ns.map D.int)), some (.ptr y1), some (.ptr y2), s3, s4, some (.ptr y3), s6, s7, s8, s9] [(y3, stD A s c), (y2, dk Cl A n2 sc1), (y1, dk Cl A n1 s)] ((defBody s_law).drop 7) (retE (.bl true)) := by
  have K := L.K
  refine sretX ?_
  refine EX.cmp ?_
  refine xm (d := .str (wSc sc1)) (cm' := dk Cl A (n2 + 1) sc1) 1 (ev 2 rfl rfl) L.say (ac es_ an) ⟨Cl, n2, sc1, .show_, K, ⟨trivial, inv1.sc⟩, rfl, rfl, rfl, rfl⟩ ?_ K.cls
  refine ⟨.str (wSc sc1), true, ?_, cEqSS, rfl⟩
  rw [show1]
  exact es_
theorem law_open {Cl : Addr} (L : LG g A Cl) {ns : List Int} (E : EndsD)
    (hE : ∀ y1 y2, SDs (CxL g) [some (.lsr (ns.map D.int)), some (.ptr y1), some (.ptr y2), some (.str "floor 8 8\nground 0\nspots 4,4"), none, none, none, none, none, none] [(y2, dk Cl A 1 sc1), (y1, dk Cl A 1 sc0)] ((defBody s_law).drop 4) E) :
    SDs (CxL g) [some (.lsr (ns.map D.int)), none, none, none, none, none, none, none, none, none] [] (defBody s_law) E := by
  have B := L.B
  have K := L.K
  refine ssetX 1 (xn L.mkD ⟨Cl, K, rfl, rfl, rfl, rfl⟩ fun y1 => ?_)
  refine ssetX 2 (xn L.mkD ⟨Cl, K, rfl, rfl, rfl, rfl⟩ fun y2 => ?_)
  refine sset 3 es_ ?_
  refine sifX (BX.td (BX.or (txNe (xm 1 (ev 1 rfl rfl) L.say (ac es_ an) ⟨Cl, 0, sc0, .show_, K, ⟨trivial, inv0.sc⟩, rfl, rfl, rfl, rfl⟩ ⟨wSc sc0, rfl, ED.to (ev 3 rfl rfl) (congrArg D.str show0.symm), fun h => by (cases h), fun _ => BX.or1 (txNe (xm 0 (ev 2 rfl rfl) L.say (ac (ED.to es_ (congrArg D.str ground1.symm)) an) ⟨Cl, 0, sc0, .ground (7, 2), K, ⟨f72, inv0.sc⟩, rfl, rfl, rfl, rfl⟩ ⟨"ok", rfl, es_, ?_⟩ K.cls))⟩ K.cls))))
  refine ⟨fun h => by (cases h), fun _ => s0 ?_⟩
  exact hE _ _
theorem state_ad {C : CxD} {δ : DS} {μ : Mu} {j1 j2 j3 j4 j5 j6 j7 k1 k2} {p1 p2 p3 p4 p5 p6 p7 q1 q2 q3 q4 : Pos} (s1 : Star (.Constant (.int 8) j1 p1) [.Constant (.int 8) j2 p2, .Tuple [.Constant (.int 0) j3 p3, .Constant (.int 1) j4 p4] k1 q1, .List [.Tuple [.Constant (.int 4) j5 p5, .Constant (.int 4) j6 p6] k2 q2] q3, .List [] q4, .Constant (.int 0) j7 p7])
    (s2 : Star (.Constant (.int 8) j2 p2) [.Tuple [.Constant (.int 0) j3 p3, .Constant (.int 1) j4 p4] k1 q1, .List [.Tuple [.Constant (.int 4) j5 p5, .Constant (.int 4) j6 p6] k2 q2] q3, .List [] q4, .Constant (.int 0) j7 p7])
    (s3 : Star (.Tuple [.Constant (.int 0) j3 p3, .Constant (.int 1) j4 p4] k1 q1) [.List [.Tuple [.Constant (.int 4) j5 p5, .Constant (.int 4) j6 p6] k2 q2] q3, .List [] q4, .Constant (.int 0) j7 p7])
    (s4 : Star (.List [.Tuple [.Constant (.int 4) j5 p5, .Constant (.int 4) j6 p6] k2 q2] q3) [.List [] q4, .Constant (.int 0) j7 p7]) (s5 : Star (.List [] q4) [.Constant (.int 0) j7 p7]) (s6 : Star (.Constant (.int 0) j7 p7) []) :
    AD C δ μ [.Constant (.int 8) j1 p1, .Constant (.int 8) j2 p2, .Tuple [.Constant (.int 0) j3 p3, .Constant (.int 1) j4 p4] k1 q1, .List [.Tuple [.Constant (.int 4) j5 p5, .Constant (.int 4) j6 p6] k2 q2] q3, .List [] q4, .Constant (.int 0) j7 p7] [.int 8, .int 8, dF (0, 1), .lst [dF (4, 4)], .lst [], .int 0] :=
  ac ei (ac ei (ac (et (ac ei (ac ei an))) (ac (el (ac (et (ac ei (ac ei an))) an)) (ac (el an) (ac ei an s6) s5) s4) s3) s2) s1
theorem law_loop {Cl : Addr} (L : LG g A Cl) {ns : List Int} {y1 y2 : Addr} (s3 : D) (E : EndsD)
    (hE : ∀ y3 s c n1 s6 s7 s8 s9, SDs (CxL g) [some (.lsr (ns.map D.int)), some (.ptr y1), some (.ptr y2), some s3, some (.lst ((lsome ns).map (dTh A))), some (.ptr y3), s6, s7, s8, s9] [(y3, stD A s c), (y2, dk Cl A 1 sc1), (y1, dk Cl A n1 s)] ((defBody s_law).drop 7) E) :
    SDs (CxL g) [some (.lsr (ns.map D.int)), some (.ptr y1), some (.ptr y2), some s3, some (.lst ((lsome ns).map (dTh A))), none, none, none, none, none] [(y2, dk Cl A 1 sc1), (y1, dk Cl A 1 sc0)] ((defBody s_law).drop 5) E := by
  have B := L.B
  have K := L.K
  refine snewL (ds := [.int 8, .int 8, dF (0, 1), .lst [dF (4, 4)], .lst [], .int 0]) 5 ?_ ?_
  · exact state_ad (by intro _; rfl) (by intro _; rfl) (by intro _; rfl) (by intro _; rfl) (by intro _; rfl) (by intro _; rfl)
  intro y3
  refine sfor (fun i δ μ => ∃ s c n1 s6 s7 s8 s9, LInv s c ∧ δ = [some (.lsr (ns.map D.int)), some (.ptr y1), some (.ptr y2), some s3, some (.lst ((lsome ns).map (dTh A))), some (.ptr y3), s6, s7, s8, s9] ∧ μ = [(y3, stD A s c), (y2, dk Cl A 1 sc1), (y1, dk Cl A n1 s)]) (idr (cb (ac ei (ac (cb (ac (slL (ev 0 rfl rfl) (p1 ei) (p1 ei)) an) kLn B.len) an)) kMax2 B.max) ?_ B.range) ⟨sc0, 0, 1, _, _, _, _, inv0, rfl, rfl⟩ ?_ ?_
  · have h : (cutD (ns.map D.int) (some ((8 : Nat) : Int)) (some ((20 : Nat) : Int))).length ≤ 20 - 8 := cutD_le
    show (if ((cutD (ns.map D.int) (some ((8 : Nat) : Int)) (some ((20 : Nat) : Int))).length : Int) > 6 then ((cutD (ns.map D.int) (some ((8 : Nat) : Int)) (some ((20 : Nat) : Int))).length : Int) else 6) < 2 ^ 62 ∧ _
    split <;> constructor <;> omega
  · rintro i d δ μ hd ⟨s, c, n1, s6, s7, s8, s9, inv, rfl, rfl⟩
    obtain ⟨rfl, _⟩ := rg hd
    refine ⟨_, _, gn 6, ?_⟩
    exact law_turn L inv i s7 s8 s9 _ _ fun s' c' n1' s7 s8 s9 inv' => ⟨s', c', n1', _, s7, s8, s9, inv', rfl, rfl⟩
  · rintro δ μ ⟨s, c, n1, s6, s7, s8, s9, inv, rfl, rfl⟩
    have h := hE y3 s c n1 s6 s7 s8 s9
    assumption
theorem law_all3 {Cl : Addr} (L : LG g A Cl) {ns : List Int} (y1 y2 : Addr) : SDs (CxL g) [some (.lsr (ns.map D.int)), some (.ptr y1), some (.ptr y2), some (.str "floor 8 8\nground 0\nspots 4,4"), some (.lst ((lsome ns).map (dTh A))), none, none, none, none, none] [(y2, dk Cl A 1 sc1), (y1, dk Cl A 1 sc0)] ((defBody s_law).drop 5) (retE (.bl true)) := by
  refine @law_loop g A Cl L ns y1 y2 (.str "floor 8 8\nground 0\nspots 4,4") (retE (.bl true)) ?_
  intro y3 s c n1 s6 s7 s8 s9
  exact @law_end g A Cl L ns y1 y2 y3 s c n1 1 _ _ s6 s7 s8 s9
theorem law_all2 {Cl : Addr} (L : LG g A Cl) {ns : List Int} (y1 y2 : Addr) : SDs (CxL g) [some (.lsr (ns.map D.int)), some (.ptr y1), some (.ptr y2), some (.str "floor 8 8\nground 0\nspots 4,4"), none, none, none, none, none, none] [(y2, dk Cl A 1 sc1), (y1, dk Cl A 1 sc0)] ((defBody s_law).drop 4) (retE (.bl true)) := by
  have h := @law_all3 g A Cl L ns y1 y2
  refine @law_some g A Cl L ns y1 y2 (.str "floor 8 8\nground 0\nspots 4,4") _ (retE (.bl true)) ?_
  assumption
theorem law_all {Cl : Addr} (L : LG g A Cl) {ns : List Int} : SDs (CxL g) [some (.lsr (ns.map D.int)), none, none, none, none, none, none, none, none, none] [] (defBody s_law) (retE (.bl true)) := by
  have h := @law_all2 g A Cl L ns
  refine law_open L (ns := ns) (retE (.bl true)) ?_
  intro y1 y2
  have h2 := h y1 y2
  assumption
theorem ok_law {Cl : Addr} (F : FnP g "law" s_law f fd) (L : LG g A Cl) : OkD g 13 f fd p_law Rlaw := by
  refine pure_def F sc_law (fun ds d ⟨_, h1, h2⟩ => by rw [h1]; rfl) ?_
  rintro ds d ⟨ns, rfl, rfl⟩
  have h := law_all L (ns := ns)
  assumption
end
end Lk
/-! each def's promise out of the head's facts -/
namespace Lk
open PySem L2 DL
abbrev caOf (K : PySem.W.Frag) : CA := ⟨He.ga K "Plain", He.ga K "Shaded", He.ga K "Patterned", He.ga K "Glass"⟩
theorem tupAt_ok {K : PySem.W.Frag} {a : Addr} {vs : List He.Dv} (e : tupAt K a vs = true) (H : Hp) : SqT K H a (vs.map (He.Dv.v K)) := by
  unfold tupAt at e
  split at e
  · rename_i c d its n sl q
    simp only [Bool.and_eq_true, decide_eq_true_eq] at e
    obtain ⟨rfl, e3, e4⟩ := e
    exact .inr ⟨_, its, n, q, rfl, rfl, e3, He.relAll_ok e4⟩
  · cases e
theorem clsB_ok {K : PySem.W.Frag} {x : Str} (e : clsB K x = true) : ClX.CRead K (He.ga K x) (.type "type") ∧ ClX.CVal K (He.ga K x) (.type "type") "__init__" (.ref (He.ma K (He.ga K x) "__init__")) (.ref (He.ma K (He.ga K x) "__init__")) := by
  unfold clsB at e
  obtain ⟨e1, e⟩ := He.ba e
  obtain ⟨e2, e3⟩ := He.ba e
  refine ⟨⟨e1, He.eqO_ok e2⟩, ?_, rfl⟩
  split at e3
  · rename_i a q
    rw [q, of_decide_eq_true e3]
  · cases e3
theorem SaysB.fact {K : PySem.W.Frag} (c : SaysB K) (i : Nat) {f : He.Fa} (e : fa[i]? = some f) : f.ok K = true :=
  List.all_eq_true.mp (show (fa.all fun f => f.ok K) = true from congrArg (fun z : AlB => z.1) c) f (List.mem_of_getElem? e)
theorem SaysB.def_ {K : PySem.W.Frag} (c : SaysB K) (i : Nat) {d : He.DefD} (e : fn[i]? = some d) : ∃ fd, FunD K d.name d.qual d.params d.body d.scope (d.dvs K) (d.kws K) (He.fAd K d.at_) fd := by
  have a2 : (fn.all fun d => d.ok K) = true := congrArg (fun z : AlB => z.2.1) c
  have a4 : fn.map (fun d => He.fnW K d.at_) = fn.map He.DefD.val := congrArg (fun z : AlB => z.2.2.2) c
  have a5 := congrArg (fun l => l[i]?) a4
  simp only [List.getElem?_map, e, Option.map_some] at a5
  exact He.DefD.funD (Option.some.inj a5) (List.all_eq_true.mp a2 d (List.mem_of_getElem? e))
theorem SaysB.ex {K : PySem.W.Frag} (c : SaysB K) : exB K = true := congrArg (fun z : AlB => z.2.2.1) c
/-- what the head tells, and the module's names -/
structure GF (g : GE) : Prop where
  says : SaysB g.K
  at_ : ∃ h : Heap, g.K.In h ∧ h.Ns mainGlobals g.mg
section
variable {g : GE}
theorem GF.fact (G : GF g) (i : Nat) {f : He.Fa} (e : fa[i]? = some f) : f.ok g.K = true := G.says.fact i e
theorem GF.def_ (G : GF g) (i : Nat) {d : He.DefD} (e : fn[i]? = some d) : ∃ fd, FunD g.K d.name d.qual d.params d.body d.scope (d.dvs g.K) (d.kws g.K) (He.fAd g.K d.at_) fd := G.says.def_ i e
theorem GF.glo (G : GF g) {x : Str} (c : (He.Fa.glo x).ok g.K = true) : g.mg x = some (.ref (He.ga g.K x)) := let ⟨_, X, N⟩ := G.at_; He.glo_ok X N c
theorem GF.free (G : GF g) {x : Str} (c : (He.Fa.free x).ok g.K = true) : g.mg x = none := let ⟨_, X, N⟩ := G.at_; He.free_ok X N c
theorem GF.int_ (G : GF g) {x : Str} {i : Int} (c : (He.Fa.int x i).ok g.K = true) : ∃ t, g.mg x = some (.int i t) := let ⟨_, X, N⟩ := G.at_; He.int_ok X N c
theorem GF.str_ (G : GF g) {x z : Str} (c : (He.Fa.str x z).ok g.K = true) : ∃ t, g.mg x = some (.str z t) := let ⟨_, X, N⟩ := G.at_; He.str_ok X N c
theorem GF.ex (G : GF g) : exB g.K = true := G.says.ex
theorem GF.cls_Thing (G : GF g) : clsB g.K "Thing" = true := (He.ba (He.ba (He.ba (He.ba (He.ba G.ex).2).2).2).2).1
theorem GF.cls_Coloured (G : GF g) : clsB g.K "Coloured" = true := (He.ba (He.ba (He.ba (He.ba (He.ba G.ex).2).2).2).2).2
theorem gs_SIDES (G : GF g) : GS g "SIDES" (.tup (sides.map D.int)) :=
  ⟨.ref (He.ga g.K "SIDES"), .ref (He.ga g.K "SIDES"), G.glo (G.fact 112 (f := .glo "SIDES") rfl), rfl, fun H => rep_tup.mpr ⟨_, sides.map V.int, rfl, He.tupB_ok (He.ba G.ex).1 H, reps_ints sides⟩⟩
theorem gs_KINDS (G : GF g) : GS g "KINDS" (.tup (kinds.map D.str)) :=
  ⟨.ref (He.ga g.K "KINDS"), .ref (He.ga g.K "KINDS"), G.glo (G.fact 113 (f := .glo "KINDS") rfl), rfl, fun H => rep_tup.mpr ⟨_, kinds.map V.str, rfl, He.tupB_ok (He.ba (He.ba G.ex).2).1 H, reps_strs kinds⟩⟩
theorem gs_MIDDLE (G : GF g) : GS g "MIDDLE" (.lsr [dF (4, 4)]) :=
  ⟨.ref (He.ga g.K "MIDDLE"), .ref (He.ga g.K "MIDDLE"), G.glo (G.fact 114 (f := .glo "MIDDLE") rfl), rfl, fun H => rep_lsr.mpr ⟨_, [.ref (midT g.K)], rfl, He.lstB_ok (He.ba (He.ba (He.ba G.ex).2).2).1 H,
    Reps.cons (rep_tup.mpr ⟨midT g.K, [.int 4, .int 4], rfl, tupAt_ok (He.ba (He.ba (He.ba (He.ba G.ex).2).2).2).1 H, reps_ints [4, 4]⟩) Reps.nil⟩⟩
theorem GF.bl (G : GF g) : Bl g := ⟨G.free (G.fact 1 (f := .free "abs") rfl), G.free (G.fact 0 (f := .free "len") rfl), G.free (G.fact 2 (f := .free "int") rfl), G.free (G.fact 3 (f := .free "str") rfl), G.free (G.fact 4 (f := .free "tuple") rfl), G.free (G.fact 5 (f := .free "list") rfl), G.free (G.fact 6 (f := .free "sum") rfl), G.free (G.fact 7 (f := .free "zip") rfl), G.free (G.fact 8 (f := .free "range") rfl), G.free (G.fact 9 (f := .free "all") rfl), G.free (G.fact 10 (f := .free "isinstance") rfl), G.free (G.fact 11 (f := .free "bool") rfl), G.free (G.fact 12 (f := .free "min") rfl), G.free (G.fact 13 (f := .free "max") rfl), G.free (G.fact 14 (f := .free "set") rfl), G.free (G.fact 15 (f := .free "enumerate") rfl)⟩
theorem GF.dcl (G : GF g) : DCl g (He.ga g.K "Desk") := ⟨He.cls_ok (G.fact 75 (f := .cls "Desk") rfl), G.glo (G.fact 76 (f := .glo "Desk") rfl), He.noat_ok (G.fact 94 (f := .noat "Desk" "taken") rfl), He.noat_ok (G.fact 95 (f := .noat "Desk" "scene") rfl), He.noat_ok (G.fact 96 (f := .noat "Desk" "old") rfl)⟩
theorem GF.desk (G : GF g) {p : Addr → Prop} (k : p (He.ga g.K "Desk")) : ∀ Cl, DCl g Cl → p Cl := fun Cl K => by
  have e := K.at_.symm.trans G.dcl.at_
  have e2 : Cl = He.ga g.K "Desk" := by
    injection e with e
    injection e
  rw [e2]
  exact k
end
theorem cal_divisor {g : GE} (G : GF g) : Cal g "divisor" 1 (spR g.K Rdivisor) := by
  obtain ⟨fd, F⟩ := G.def_ 0 (d := d_divisor) rfl
  exact ⟨⟨_, fd, _, ok_divisor F G.bl, G.glo (G.fact 16 (f := .glo "divisor") rfl), F.kp, (F.bindsN (ps := ["one", "other"]) fun _ _ _ _ _ _ us hl => match us, hl with | [_, _], _ => by kernel_rfl)⟩⟩
theorem cal_ratio {g : GE} (G : GF g) : Cal g "ratio" 2 (spR g.K Rratio) := by
  obtain ⟨fd, F⟩ := G.def_ 1 (d := d_ratio) rfl
  exact ⟨⟨_, fd, _, ok_ratio F (cal_divisor G), G.glo (G.fact 17 (f := .glo "ratio") rfl), F.kp, (F.bindsN (ps := ["top", "bottom"]) fun _ _ _ _ _ _ us hl => match us, hl with | [_, _], _ => by kernel_rfl)⟩⟩
theorem cal_under {g : GE} (G : GF g) : Cal g "under" 1 (spR g.K Runder) := by
  obtain ⟨fd, F⟩ := G.def_ 2 (d := d_under) rfl
  exact ⟨⟨_, fd, _, ok_under F, G.glo (G.fact 18 (f := .glo "under") rfl), F.kp, (F.bindsN (ps := ["one", "other"]) fun _ _ _ _ _ _ us hl => match us, hl with | [_, _], _ => by kernel_rfl)⟩⟩
theorem cal_is_whole {g : GE} (G : GF g) : Cal g "is_whole" 1 (spR g.K Ris_whole) := by
  obtain ⟨fd, F⟩ := G.def_ 3 (d := d_is_whole) rfl
  exact ⟨⟨_, fd, _, ok_is_whole F G.bl, G.glo (G.fact 19 (f := .glo "is_whole") rfl), F.kp, (F.bindsN (ps := ["thing"]) fun _ _ _ _ _ _ us hl => match us, hl with | [_], _ => by kernel_rfl)⟩⟩
theorem cal_is_corner {g : GE} (G : GF g) : Cal g "is_corner" 2 (spR g.K Ris_corner) := by
  obtain ⟨fd, F⟩ := G.def_ 4 (d := d_is_corner) rfl
  exact ⟨⟨_, fd, _, ok_is_corner F G.bl (G.int_ (G.fact 106 (f := .int "MOST_VALUES" 3) rfl)) (cal_is_whole G), G.glo (G.fact 20 (f := .glo "is_corner") rfl), F.kp, (F.bindsN (ps := ["thing"]) fun _ _ _ _ _ _ us hl => match us, hl with | [_], _ => by kernel_rfl)⟩⟩
theorem cal_check_triangle {g : GE} (G : GF g) : Cal g "check_triangle" 3 (spR g.K Rcheck_triangle) := by
  obtain ⟨fd, F⟩ := G.def_ 5 (d := d_check_triangle) rfl
  exact ⟨⟨_, fd, _, ok_check_triangle F G.bl (cal_is_corner G), G.glo (G.fact 21 (f := .glo "check_triangle") rfl), F.kp, (F.bindsN (ps := ["triangle"]) fun _ _ _ _ _ _ us hl => match us, hl with | [_], _ => by kernel_rfl)⟩⟩
theorem cal_numbers_of {g : GE} (G : GF g) : Cal g "numbers_of" 1 (spR g.K Rnumbers_of) := by
  obtain ⟨fd, F⟩ := G.def_ 6 (d := d_numbers_of) rfl
  exact ⟨⟨_, fd, _, ok_numbers_of F G.bl, G.glo (G.fact 22 (f := .glo "numbers_of") rfl), F.kp, (F.bindsN (ps := ["corner"]) fun _ _ _ _ _ _ us hl => match us, hl with | [_], _ => by kernel_rfl)⟩⟩
theorem cal_check_ahead {g : GE} (G : GF g) : Cal g "check_ahead" 1 (spR g.K Rcheck_ahead) := by
  obtain ⟨fd, F⟩ := G.def_ 8 (d := d_check_ahead) rfl
  exact ⟨⟨_, fd, _, ok_check_ahead F G.bl, G.glo (G.fact 24 (f := .glo "check_ahead") rfl), F.kp, (F.bindsN (ps := ["triangle"]) fun _ _ _ _ _ _ us hl => match us, hl with | [_], _ => by kernel_rfl)⟩⟩
theorem cal_mixed {g : GE} (G : GF g) : Cal g "mixed" 2 (spR g.K Rmixed) := by
  obtain ⟨fd, F⟩ := G.def_ 7 (d := d_mixed) rfl
  exact ⟨⟨_, fd, _, ok_mixed F G.bl (cal_numbers_of G) (cal_divisor G), G.glo (G.fact 23 (f := .glo "mixed") rfl), F.kp, (F.bindsN (ps := ["one", "other", "first", "second"]) fun _ _ _ _ _ _ us hl => match us, hl with | [_, _, _, _], _ => by kernel_rfl)⟩⟩
theorem cal_form {g : GE} (G : GF g) : Cal g "form" 1 (spR g.K Rform) := by
  obtain ⟨fd, F⟩ := G.def_ 28 (d := d_form) rfl
  exact ⟨⟨_, fd, _, ok_form F G.bl, G.glo (G.fact 44 (f := .glo "form") rfl), F.kp, (F.bindsN (ps := ["wall", "corner"]) fun _ _ _ _ _ _ us hl => match us, hl with | [_, _], _ => by kernel_rfl)⟩⟩
theorem cal_turned_to {g : GE} (G : GF g) : Cal g "turned_to" 1 (spR g.K Rturned_to) := by
  obtain ⟨fd, F⟩ := G.def_ 29 (d := d_turned_to) rfl
  exact ⟨⟨_, fd, _, ok_turned_to F, G.glo (G.fact 45 (f := .glo "turned_to") rfl), F.kp, (F.bindsN (ps := ["triangle", "first"]) fun _ _ _ _ _ _ us hl => match us, hl with | [_, _], _ => by kernel_rfl)⟩⟩
theorem cal_cut {g : GE} (G : GF g) : Cal g "cut" 4 (spR g.K Rcut) := by
  obtain ⟨fd, F⟩ := G.def_ 30 (d := d_cut) rfl
  exact ⟨⟨_, fd, _, ok_cut F G.bl (cal_form G) (cal_turned_to G) (cal_mixed G), G.glo (G.fact 46 (f := .glo "cut") rfl), F.kp, (F.bindsN (ps := ["triangle", "wall"]) fun _ _ _ _ _ _ us hl => match us, hl with | [_, _], _ => by kernel_rfl)⟩⟩
theorem cal_is_part {g : GE} (G : GF g) : Cal g "is_part" 3 (spR g.K Ris_part) := by
  obtain ⟨fd, F⟩ := G.def_ 9 (d := d_is_part) rfl
  exact ⟨⟨_, fd, _, ok_is_part F G.bl (cal_ratio G), G.glo (G.fact 25 (f := .glo "is_part") rfl), F.kp, (F.bindsN (ps := ["thing"]) fun _ _ _ _ _ _ us hl => match us, hl with | [_], _ => by kernel_rfl)⟩⟩
theorem cal_check_pattern {g : GE} (G : GF g) : Cal g "check_pattern" 4 (spR g.K Rcheck_pattern) := by
  obtain ⟨fd, F⟩ := G.def_ 10 (d := d_check_pattern) rfl
  exact ⟨⟨_, fd, _, ok_check_pattern F G.bl (gs_SIDES G) (cal_is_part G), G.glo (G.fact 26 (f := .glo "check_pattern") rfl), F.kp, (F.bindsN (ps := ["pattern"]) fun _ _ _ _ _ _ us hl => match us, hl with | [_], _ => by kernel_rfl)⟩⟩
theorem cal_is_fraction {g : GE} (G : GF g) : Cal g "is_fraction" 3 (spR g.K Ris_fraction) := by
  obtain ⟨fd, F⟩ := G.def_ 11 (d := d_is_fraction) rfl
  exact ⟨⟨_, fd, _, ok_is_fraction F G.bl (cal_is_whole G) (cal_ratio G), G.glo (G.fact 27 (f := .glo "is_fraction") rfl), F.kp, (F.bindsN (ps := ["thing"]) fun _ _ _ _ _ _ us hl => match us, hl with | [_], _ => by kernel_rfl)⟩⟩
theorem cal_refuse_thing {g : GE} (G : GF g) : Cal g "refuse_thing" 1 (spR g.K Rrefuse) := by
  obtain ⟨fd, F⟩ := G.def_ 12 (d := d_refuse_thing) rfl
  exact ⟨⟨_, fd, _, ok_refuse_thing F, G.glo (G.fact 28 (f := .glo "refuse_thing") rfl), F.kp, (F.bindsN (ps := ["bad"]) fun _ _ _ _ _ _ us hl => match us, hl with | [_], _ => by kernel_rfl)⟩⟩
theorem cal_refuse_if {g : GE} (G : GF g) : Cal g "refuse_if" 1 (spR g.K Rrefuse) := by
  obtain ⟨fd, F⟩ := G.def_ 31 (d := d_refuse_if) rfl
  exact ⟨⟨_, fd, _, ok_refuse_if F, G.glo (G.fact 47 (f := .glo "refuse_if") rfl), F.kp, (F.bindsN (ps := ["bad"]) fun _ _ _ _ _ _ us hl => match us, hl with | [_], _ => by kernel_rfl)⟩⟩
theorem cls_Thing {g : GE} (G : GF g) : ClsFn g "Thing" "__init__" 4 (spM g.K (RThing g)) := by
  obtain ⟨fd, F⟩ := G.def_ 47 (d := d_Thing_init) rfl
  exact ⟨⟨_, _, _, fd, _, ok_Thing_init F G.bl (cal_check_triangle G) (cal_check_ahead G) (cal_refuse_thing G), G.glo (G.fact 115 (f := .glo "Thing") rfl), (clsB_ok G.cls_Thing).1, (clsB_ok G.cls_Thing).2, F.kp, (F.bindsN (ps := ["self", "triangle", "least"]) fun _ _ _ _ _ _ us hl => match us, hl with | [_, _, _], _ => by kernel_rfl)⟩⟩
theorem cls_Coloured {g : GE} (G : GF g) : ClsFn g "Coloured" "__init__" 5 (spM g.K (RColoured g)) := by
  obtain ⟨fd, F⟩ := G.def_ 48 (d := d_Coloured_init) rfl
  exact ⟨⟨_, _, _, fd, _, ok_Coloured_init F G.bl (cls_Thing G) (cal_is_fraction G) (cal_refuse_thing G), G.glo (G.fact 116 (f := .glo "Coloured") rfl), (clsB_ok G.cls_Coloured).1, (clsB_ok G.cls_Coloured).2, F.kp, (F.bindsN (ps := ["self", "triangle", "colour"]) fun _ _ _ _ _ _ us hl => match us, hl with | [_, _, _], _ => by kernel_rfl)⟩⟩
theorem mak_Plain {g : GE} (G : GF g) : Mak g "Plain" (He.ga g.K "Plain") 5 (spM g.K (RColoured g)) := by
  obtain ⟨fd, F⟩ := G.def_ 62 (d := d_Plain_init) rfl
  exact ⟨⟨_, fd, _, ok_Coloured_init F G.bl (cls_Thing G) (cal_is_fraction G) (cal_refuse_thing G), He.mkr_ok (G.fact 65 (f := .mkr "Plain") rfl), G.glo (G.fact 64 (f := .glo "Plain") rfl), (F.bindsN (ps := ["self", "triangle", "colour"]) fun _ _ _ _ _ _ us hl => match us, hl with | [_, _, _], _ => by kernel_rfl)⟩⟩
theorem mak_Shaded {g : GE} (G : GF g) : Mak g "Shaded" (He.ga g.K "Shaded") 5 (spM g.K (RShaded g)) := by
  obtain ⟨fd, F⟩ := G.def_ 50 (d := d_Shaded_init) rfl
  exact ⟨⟨_, fd, _, ok_Shaded_init F G.bl (cls_Thing G), He.mkr_ok (G.fact 68 (f := .mkr "Shaded") rfl), G.glo (G.fact 67 (f := .glo "Shaded") rfl), (F.bindsN (ps := ["self", "triangle"]) fun _ _ _ _ _ _ us hl => match us, hl with | [_, _], _ => by kernel_rfl)⟩⟩
theorem mak_Patterned {g : GE} (G : GF g) : Mak g "Patterned" (He.ga g.K "Patterned") 5 (spM g.K (RPatterned g)) := by
  obtain ⟨fd, F⟩ := G.def_ 52 (d := d_Patterned_init) rfl
  exact ⟨⟨_, fd, _, ok_Patterned_init F G.bl (cls_Thing G) (cal_check_pattern G), He.mkr_ok (G.fact 71 (f := .mkr "Patterned") rfl), G.glo (G.fact 70 (f := .glo "Patterned") rfl), (F.bindsN (ps := ["self", "triangle", "pattern"]) fun _ _ _ _ _ _ us hl => match us, hl with | [_, _, _], _ => by kernel_rfl)⟩⟩
theorem mak_Glass {g : GE} (G : GF g) : Mak g "Glass" (He.ga g.K "Glass") 6 (spM g.K (RGlass g)) := by
  obtain ⟨fd, F⟩ := G.def_ 54 (d := d_Glass_init) rfl
  exact ⟨⟨_, fd, _, ok_Glass_init F G.bl (cls_Coloured G) (cal_is_fraction G) (cal_refuse_thing G) (cal_under G), He.mkr_ok (G.fact 74 (f := .mkr "Glass") rfl), G.glo (G.fact 73 (f := .glo "Glass") rfl), (F.bindsN (ps := ["self", "triangle", "colour", "part"]) fun _ _ _ _ _ _ us hl => match us, hl with | [_, _, _, _], _ => by kernel_rfl)⟩⟩
theorem mth_Plain_word {g : GE} (G : GF g) : Mth g (He.ga g.K "Plain") "word" 1 (spR g.K (Rword "plain")) := by
  obtain ⟨fd, F⟩ := G.def_ 49 (d := d_Plain_word) rfl
  exact ⟨⟨_, fd, _, ok_Plain_word F, He.meth_ok (G.fact 97 (f := .meth "Plain" "word") rfl), (F.bindsN (ps := ["self"]) fun _ _ _ _ _ _ us hl => match us, hl with | [_], _ => by kernel_rfl)⟩⟩
theorem mth_Shaded_word {g : GE} (G : GF g) : Mth g (He.ga g.K "Shaded") "word" 1 (spR g.K (Rword "shaded")) := by
  obtain ⟨fd, F⟩ := G.def_ 51 (d := d_Shaded_word) rfl
  exact ⟨⟨_, fd, _, ok_Shaded_word F, He.meth_ok (G.fact 98 (f := .meth "Shaded" "word") rfl), (F.bindsN (ps := ["self"]) fun _ _ _ _ _ _ us hl => match us, hl with | [_], _ => by kernel_rfl)⟩⟩
theorem mth_Patterned_word {g : GE} (G : GF g) : Mth g (He.ga g.K "Patterned") "word" 1 (spR g.K (Rword "patterned")) := by
  obtain ⟨fd, F⟩ := G.def_ 53 (d := d_Patterned_word) rfl
  exact ⟨⟨_, fd, _, ok_Patterned_word F, He.meth_ok (G.fact 99 (f := .meth "Patterned" "word") rfl), (F.bindsN (ps := ["self"]) fun _ _ _ _ _ _ us hl => match us, hl with | [_], _ => by kernel_rfl)⟩⟩
theorem mth_Glass_word {g : GE} (G : GF g) : Mth g (He.ga g.K "Glass") "word" 1 (spR g.K (Rword "glass")) := by
  obtain ⟨fd, F⟩ := G.def_ 55 (d := d_Glass_word) rfl
  exact ⟨⟨_, fd, _, ok_Glass_word F, He.meth_ok (G.fact 100 (f := .meth "Glass" "word") rfl), (F.bindsN (ps := ["self"]) fun _ _ _ _ _ _ us hl => match us, hl with | [_], _ => by kernel_rfl)⟩⟩
theorem cal_number_in {g : GE} (G : GF g) : Cal g "number_in" 1 (spR g.K Rnumber_in) := by
  obtain ⟨fd, F⟩ := G.def_ 14 (d := d_number_in) rfl
  exact ⟨⟨_, fd, _, ok_number_in F G.bl (G.str_ (G.fact 111 (f := .str "FIGURES" "0123456789") rfl)) (G.int_ (G.fact 107 (f := .int "MOST_FIGURES" 30) rfl)), G.glo (G.fact 30 (f := .glo "number_in") rfl), F.kp, (F.bindsN (ps := ["word", "at"]) fun _ _ _ _ _ _ us hl => match us, hl with | [_, _], _ => by kernel_rfl)⟩⟩
theorem cal_fraction_word {g : GE} (G : GF g) : Cal g "fraction_word" 1 (spR g.K Rfraction_word) := by
  obtain ⟨fd, F⟩ := G.def_ 13 (d := d_fraction_word) rfl
  exact ⟨⟨_, fd, _, ok_fraction_word F G.bl, G.glo (G.fact 29 (f := .glo "fraction_word") rfl), F.kp, (F.bindsN (ps := ["fraction"]) fun _ _ _ _ _ _ us hl => match us, hl with | [_], _ => by kernel_rfl)⟩⟩
theorem cal_law_word {g : GE} (G : GF g) : Cal g "_law_word" 1 (spR g.K Rfraction_word) := by
  obtain ⟨fd, F⟩ := G.def_ 43 (d := d_law_word) rfl
  exact ⟨⟨_, fd, _, ok_law_word F G.bl, G.glo (G.fact 59 (f := .glo "_law_word") rfl), F.kp, (F.bindsN (ps := ["_law_fraction"]) fun _ _ _ _ _ _ us hl => match us, hl with | [_], _ => by kernel_rfl)⟩⟩
theorem cal_fraction_in {g : GE} (G : GF g) : Cal g "fraction_in" 3 (spR g.K Rfraction_in) := by
  obtain ⟨fd, F⟩ := G.def_ 15 (d := d_fraction_in) rfl
  exact ⟨⟨_, fd, _, ok_fraction_in F G.bl (cal_number_in G) (cal_ratio G), G.glo (G.fact 31 (f := .glo "fraction_in") rfl), F.kp, (F.bindsN (ps := ["word", "at"]) fun _ _ _ _ _ _ us hl => match us, hl with | [_, _], _ => by kernel_rfl)⟩⟩
theorem cal_pattern_word {g : GE} (G : GF g) : Cal g "pattern_word" 2 (spR g.K Rpattern_word) := by
  obtain ⟨fd, F⟩ := G.def_ 16 (d := d_pattern_word) rfl
  exact ⟨⟨_, fd, _, ok_pattern_word F (cal_fraction_word G), G.glo (G.fact 32 (f := .glo "pattern_word") rfl), F.kp, (F.bindsN (ps := ["pattern"]) fun _ _ _ _ _ _ us hl => match us, hl with | [_], _ => by kernel_rfl)⟩⟩
theorem cal_pattern_in {g : GE} (G : GF g) : Cal g "pattern_in" 4 (spR g.K Rpattern_in) := by
  obtain ⟨fd, F⟩ := G.def_ 17 (d := d_pattern_in) rfl
  exact ⟨⟨_, fd, _, ok_pattern_in F (cal_fraction_in G), G.glo (G.fact 33 (f := .glo "pattern_in") rfl), F.kp, (F.bindsN (ps := ["word", "at"]) fun _ _ _ _ _ _ us hl => match us, hl with | [_, _], _ => by kernel_rfl)⟩⟩
theorem cal_corner_words {g : GE} (G : GF g) : Cal g "corner_words" 1 (spR g.K Rcorner_words) := by
  obtain ⟨fd, F⟩ := G.def_ 18 (d := d_corner_words) rfl
  exact ⟨⟨_, fd, _, ok_corner_words F G.bl, G.glo (G.fact 34 (f := .glo "corner_words") rfl), F.kp, (F.bindsN (ps := ["corner"]) fun _ _ _ _ _ _ us hl => match us, hl with | [_], _ => by kernel_rfl)⟩⟩
theorem cal_corner_in {g : GE} (G : GF g) : Cal g "corner_in" 2 (spR g.K Rcorner_in) := by
  obtain ⟨fd, F⟩ := G.def_ 19 (d := d_corner_in) rfl
  exact ⟨⟨_, fd, _, ok_corner_in F G.bl (cal_number_in G), G.glo (G.fact 35 (f := .glo "corner_in") rfl), F.kp, (F.bindsN (ps := ["words", "at"]) fun _ _ _ _ _ _ us hl => match us, hl with | [_, _], _ => by kernel_rfl)⟩⟩
theorem GF.tg {g : GE} (G : GF g) : TG g (caOf g.K) := ⟨⟨He.cls_ok (G.fact 63 (f := .cls "Plain") rfl), He.noat_ok (G.fact 78 (f := .noat "Plain" "triangle") rfl), He.noat_ok (G.fact 79 (f := .noat "Plain" "colour") rfl), He.noat_ok (G.fact 80 (f := .noat "Plain" "pattern") rfl), He.noat_ok (G.fact 81 (f := .noat "Plain" "part") rfl)⟩, ⟨He.cls_ok (G.fact 66 (f := .cls "Shaded") rfl), He.noat_ok (G.fact 82 (f := .noat "Shaded" "triangle") rfl), He.noat_ok (G.fact 83 (f := .noat "Shaded" "colour") rfl), He.noat_ok (G.fact 84 (f := .noat "Shaded" "pattern") rfl), He.noat_ok (G.fact 85 (f := .noat "Shaded" "part") rfl)⟩, ⟨He.cls_ok (G.fact 69 (f := .cls "Patterned") rfl), He.noat_ok (G.fact 86 (f := .noat "Patterned" "triangle") rfl), He.noat_ok (G.fact 87 (f := .noat "Patterned" "colour") rfl), He.noat_ok (G.fact 88 (f := .noat "Patterned" "pattern") rfl), He.noat_ok (G.fact 89 (f := .noat "Patterned" "part") rfl)⟩, ⟨He.cls_ok (G.fact 72 (f := .cls "Glass") rfl), He.noat_ok (G.fact 90 (f := .noat "Glass" "triangle") rfl), He.noat_ok (G.fact 91 (f := .noat "Glass" "colour") rfl), He.noat_ok (G.fact 92 (f := .noat "Glass" "pattern") rfl), He.noat_ok (G.fact 93 (f := .noat "Glass" "part") rfl)⟩, mak_Plain G, mak_Shaded G, mak_Patterned G, mak_Glass G, mth_Plain_word G, mth_Shaded_word G, mth_Patterned_word G, mth_Glass_word G⟩
theorem cal_like_it {g : GE} (G : GF g) : Cal g "like_it" 8 (spR g.K (Rlike (caOf g.K))) := by
  obtain ⟨fd, F⟩ := G.def_ 33 (d := d_like_it) rfl
  exact ⟨⟨_, fd, _, ok_like_it F G.tg, G.glo (G.fact 49 (f := .glo "like_it") rfl), F.kp, (F.bindsN (ps := ["thing", "triangle"]) fun _ _ _ _ _ _ us hl => match us, hl with | [_, _], _ => by kernel_rfl)⟩⟩
theorem cal_law_like {g : GE} (G : GF g) : Cal g "_law_like" 8 (spR g.K (Rlike (caOf g.K))) := by
  obtain ⟨fd, F⟩ := G.def_ 44 (d := d_law_like) rfl
  exact ⟨⟨_, fd, _, ok_law_like F G.tg, G.glo (G.fact 60 (f := .glo "_law_like") rfl), F.kp, (F.bindsN (ps := ["_law_thing_here", "_law_triangle"]) fun _ _ _ _ _ _ us hl => match us, hl with | [_, _], _ => by kernel_rfl)⟩⟩
theorem cal_head_of {g : GE} (G : GF g) : Cal g "head_of" 3 (spR g.K (Rhead_of (caOf g.K))) := by
  obtain ⟨fd, F⟩ := G.def_ 20 (d := d_head_of) rfl
  exact ⟨⟨_, fd, _, ok_head_of F G.tg (cal_fraction_word G) (cal_pattern_word G), G.glo (G.fact 36 (f := .glo "head_of") rfl), F.kp, (F.bindsN (ps := ["thing"]) fun _ _ _ _ _ _ us hl => match us, hl with | [_], _ => by kernel_rfl)⟩⟩
theorem cal_thing_text {g : GE} (G : GF g) : Cal g "thing_text" 4 (spR g.K (Rthing_text (caOf g.K))) := by
  obtain ⟨fd, F⟩ := G.def_ 21 (d := d_thing_text) rfl
  exact ⟨⟨_, fd, _, ok_thing_text F G.tg (cal_head_of G) (cal_corner_words G), G.glo (G.fact 37 (f := .glo "thing_text") rfl), F.kp, (F.bindsN (ps := ["thing"]) fun _ _ _ _ _ _ us hl => match us, hl with | [_], _ => by kernel_rfl)⟩⟩
theorem cal_thing_of {g : GE} (G : GF g) : Cal g "thing_of" 8 (spR g.K (Rthing_of (caOf g.K))) := by
  obtain ⟨fd, F⟩ := G.def_ 22 (d := d_thing_of) rfl
  exact ⟨⟨_, fd, _, ok_thing_of F G.bl G.tg (cal_corner_in G) (cal_fraction_in G) (cal_pattern_in G), G.glo (G.fact 38 (f := .glo "thing_of") rfl), F.kp, (F.bindsN (ps := ["row", "at"]) fun _ _ _ _ _ _ us hl => match us, hl with | [_, _], _ => by kernel_rfl)⟩⟩
theorem cal_spots_words {g : GE} (G : GF g) : Cal g "spots_words" 1 (spR g.K Rspots_words) := by
  obtain ⟨fd, F⟩ := G.def_ 23 (d := d_spots_words) rfl
  exact ⟨⟨_, fd, _, ok_spots_words F G.bl, G.glo (G.fact 39 (f := .glo "spots_words") rfl), F.kp, (F.bindsN (ps := ["spots"]) fun _ _ _ _ _ _ us hl => match us, hl with | [_], _ => by kernel_rfl)⟩⟩
theorem cal_scene_text {g : GE} (G : GF g) : Cal g "scene_text" 5 (spR g.K (Rscene_text (caOf g.K))) := by
  obtain ⟨fd, F⟩ := G.def_ 24 (d := d_scene_text) rfl
  exact ⟨⟨_, fd, _, ok_scene_text F G.bl (cal_fraction_word G) (cal_spots_words G) (cal_thing_text G), G.glo (G.fact 40 (f := .glo "scene_text") rfl), F.kp, (F.bindsN (ps := ["scene"]) fun _ _ _ _ _ _ us hl => match us, hl with | [_], _ => by kernel_rfl)⟩⟩
theorem cal_floor_in {g : GE} (G : GF g) : Cal g "floor_in" 2 (spR g.K Rfloor_in) := by
  obtain ⟨fd, F⟩ := G.def_ 25 (d := d_floor_in) rfl
  exact ⟨⟨_, fd, _, ok_floor_in F G.bl (G.int_ (G.fact 108 (f := .int "MOST_SIDE" 64) rfl)) (cal_number_in G), G.glo (G.fact 41 (f := .glo "floor_in") rfl), F.kp, (F.bindsN (ps := ["words", "at"]) fun _ _ _ _ _ _ us hl => match us, hl with | [_, _], _ => by kernel_rfl)⟩⟩
theorem cal_ground_in {g : GE} (G : GF g) : Cal g "ground_in" 4 (spR g.K Rground_in) := by
  obtain ⟨fd, F⟩ := G.def_ 27 (d := d_ground_in) rfl
  exact ⟨⟨_, fd, _, ok_ground_in F G.bl (cal_fraction_in G), G.glo (G.fact 43 (f := .glo "ground_in") rfl), F.kp, (F.bindsN (ps := ["words", "at"]) fun _ _ _ _ _ _ us hl => match us, hl with | [_, _], _ => by kernel_rfl)⟩⟩
theorem cal_bounded {g : GE} (G : GF g) : Cal g "bounded" 2 (spR g.K Rbounded) := by
  obtain ⟨fd, F⟩ := G.def_ 32 (d := d_bounded) rfl
  exact ⟨⟨_, fd, _, ok_bounded F (cal_number_in G) (cal_refuse_if G), G.glo (G.fact 48 (f := .glo "bounded") rfl), F.kp, (F.bindsN (ps := ["word", "low", "high"]) fun _ _ _ _ _ _ us hl => match us, hl with | [_, _, _], _ => by kernel_rfl)⟩⟩
theorem cal_spots_in {g : GE} (G : GF g) : Cal g "spots_in" 2 (spR g.K Rspots_in) := by
  obtain ⟨fd, F⟩ := G.def_ 26 (d := d_spots_in) rfl
  exact ⟨⟨_, fd, _, ok_spots_in F G.bl (G.int_ (G.fact 109 (f := .int "MOST_SPOTS_texts" 16) rfl)) (cal_number_in G), G.glo (G.fact 42 (f := .glo "spots_in") rfl), F.kp, (F.bindsN (ps := ["words", "at"]) fun _ _ _ _ _ _ us hl => match us, hl with | [_, _], _ => by kernel_rfl)⟩⟩
theorem mak_Desk {g : GE} (G : GF g) : Mak g "Desk" (He.ga g.K "Desk") 1 (spM g.K (RDesk g (caOf g.K))) := by
  obtain ⟨fd, F⟩ := G.def_ 56 (d := d_Desk_init) rfl
  exact ⟨⟨_, fd, _, ok_Desk_init F G.bl (gs_MIDDLE G), He.mkr_ok (G.fact 77 (f := .mkr "Desk") rfl), G.glo (G.fact 76 (f := .glo "Desk") rfl), (F.bindsN (ps := ["self"]) fun _ _ _ _ _ _ us hl => match us, hl with | [_], _ => by kernel_rfl)⟩⟩
theorem mth_Desk_word_asked {g : GE} (G : GF g) : Mth g (He.ga g.K "Desk") "word_asked" 6 (spM g.K (Rword_asked g (caOf g.K))) := by
  obtain ⟨fd, F⟩ := G.def_ 61 (d := d_Desk_word_asked) rfl
  exact ⟨⟨_, fd, _, ok_word_asked F (cal_scene_text G), He.meth_ok (G.fact 105 (f := .meth "Desk" "word_asked") rfl), (F.bindsN (ps := ["self", "word"]) fun _ _ _ _ _ _ us hl => match us, hl with | [_, _], _ => by kernel_rfl)⟩⟩
theorem mth_Desk_cut_near {g : GE} (G : GF g) : Mth g (He.ga g.K "Desk") "cut_near" 9 (spM g.K (Rcut_near g (caOf g.K))) := by
  obtain ⟨fd, F⟩ := G.def_ 60 (d := d_Desk_cut_near) rfl
  exact ⟨⟨_, fd, _, ok_cut_near F G.bl G.tg (G.int_ (G.fact 110 (f := .int "MOST_PART" 1000000) rfl)) (cal_refuse_if G) (cal_bounded G) (cal_cut G) (cal_like_it G), He.meth_ok (G.fact 104 (f := .meth "Desk" "cut_near") rfl), (F.bindsN (ps := ["self", "words"]) fun _ _ _ _ _ _ us hl => match us, hl with | [_, _], _ => by kernel_rfl)⟩⟩
theorem mth_Desk_changed {g : GE} (G : GF g) : Mth g (He.ga g.K "Desk") "changed" 10 (spM g.K (Rchanged g (caOf g.K))) := by
  obtain ⟨fd, F⟩ := G.def_ 59 (d := d_Desk_changed) rfl
  exact ⟨⟨_, fd, _, ok_changed F G.bl (cal_refuse_if G) (cal_bounded G) (cal_floor_in G) (cal_ground_in G) (cal_spots_in G) (G.desk (mth_Desk_cut_near G)), He.meth_ok (G.fact 103 (f := .meth "Desk" "changed") rfl), (F.bindsN (ps := ["self", "words"]) fun _ _ _ _ _ _ us hl => match us, hl with | [_, _], _ => by kernel_rfl)⟩⟩
theorem mth_Desk_answer {g : GE} (G : GF g) : Mth g (He.ga g.K "Desk") "answer" 11 (spM g.K (Ranswer g (caOf g.K))) := by
  obtain ⟨fd, F⟩ := G.def_ 58 (d := d_Desk_answer) rfl
  exact ⟨⟨_, fd, _, ok_answer F G.bl (gs_KINDS G) (cal_refuse_if G) (cal_thing_of G) (G.desk ⟨mth_Desk_word_asked G, mth_Desk_changed G⟩), He.meth_ok (G.fact 102 (f := .meth "Desk" "answer") rfl), (F.bindsN (ps := ["self", "row"]) fun _ _ _ _ _ _ us hl => match us, hl with | [_, _], _ => by kernel_rfl)⟩⟩
theorem mth_Desk_say {g : GE} (G : GF g) : Mth g (He.ga g.K "Desk") "say" 12 (spM g.K (Rsay g (caOf g.K))) := by
  obtain ⟨fd, F⟩ := G.def_ 57 (d := d_Desk_say) rfl
  exact ⟨⟨_, fd, _, ok_say F (G.desk (mth_Desk_answer G)), He.meth_ok (G.fact 101 (f := .meth "Desk" "say") rfl), (F.bindsN (ps := ["self", "row"]) fun _ _ _ _ _ _ us hl => match us, hl with | [_, _], _ => by kernel_rfl)⟩⟩
theorem cal_law_cell_at {g : GE} (G : GF g) : Cal g "_law_cell_at" 1 (spR g.K Rcell_at) := by
  obtain ⟨fd, F⟩ := G.def_ 34 (d := d_law_cell_at) rfl
  exact ⟨⟨_, fd, _, ok_law_cell_at F G.bl, G.glo (G.fact 50 (f := .glo "_law_cell_at") rfl), F.kp, (F.bindsN (ps := ["_law_script", "_law_k"]) fun _ _ _ _ _ _ us hl => match us, hl with | [_, _], _ => by kernel_rfl)⟩⟩
theorem cal_law_mixed {g : GE} (G : GF g) : Cal g "_law_mixed" 1 (spR g.K Rlmixed) := by
  obtain ⟨fd, F⟩ := G.def_ 35 (d := d_law_mixed) rfl
  exact ⟨⟨_, fd, _, ok_law_mixed F, G.glo (G.fact 51 (f := .glo "_law_mixed") rfl), F.kp, (F.bindsN (ps := ["_law_cell", "_law_k"]) fun _ _ _ _ _ _ us hl => match us, hl with | [_, _], _ => by kernel_rfl)⟩⟩
theorem cal_law_draws {g : GE} (G : GF g) : Cal g "_law_draws" 2 (spR g.K Rldraws) := by
  obtain ⟨fd, F⟩ := G.def_ 36 (d := d_law_draws) rfl
  exact ⟨⟨_, fd, _, ok_law_draws F G.bl (cal_law_mixed G), G.glo (G.fact 52 (f := .glo "_law_draws") rfl), F.kp, (F.bindsN (ps := ["_law_cell", "_law_many"]) fun _ _ _ _ _ _ us hl => match us, hl with | [_, _], _ => by kernel_rfl)⟩⟩
theorem cal_law_corner {g : GE} (G : GF g) : Cal g "_law_corner" 1 (spR g.K Rlcorner) := by
  obtain ⟨fd, F⟩ := G.def_ 37 (d := d_law_corner) rfl
  exact ⟨⟨_, fd, _, ok_law_corner F G.bl, G.glo (G.fact 53 (f := .glo "_law_corner") rfl), F.kp, (F.bindsN (ps := ["_law_draws_here", "_law_many"]) fun _ _ _ _ _ _ us hl => match us, hl with | [_, _], _ => by kernel_rfl)⟩⟩
theorem cal_law_triangles {g : GE} (G : GF g) : Cal g "_law_triangles" 3 (spR g.K Rltriangles) := by
  obtain ⟨fd, F⟩ := G.def_ 38 (d := d_law_triangles) rfl
  exact ⟨⟨_, fd, _, ok_law_triangles F G.bl (cal_law_draws G) (cal_law_cell_at G) (cal_law_corner G), G.glo (G.fact 54 (f := .glo "_law_triangles") rfl), F.kp, (F.bindsN (ps := ["_law_script", "_law_first", "_law_most", "_law_many"]) fun _ _ _ _ _ _ us hl => match us, hl with | [_, _, _, _], _ => by kernel_rfl)⟩⟩
theorem cal_law_pattern {g : GE} (G : GF g) : Cal g "_law_pattern" 3 (spR g.K Rlpattern) := by
  obtain ⟨fd, F⟩ := G.def_ 39 (d := d_law_pattern) rfl
  exact ⟨⟨_, fd, _, ok_law_pattern F G.bl (cal_law_mixed G) (cal_ratio G), G.glo (G.fact 55 (f := .glo "_law_pattern") rfl), F.kp, (F.bindsN (ps := ["_law_number", "_law_more"]) fun _ _ _ _ _ _ us hl => match us, hl with | [_, _], _ => by kernel_rfl)⟩⟩
theorem cal_law_thing {g : GE} (G : GF g) : Cal g "_law_thing" 8 (spR g.K (Rlthing (caOf g.K))) := by
  obtain ⟨fd, F⟩ := G.def_ 40 (d := d_law_thing) rfl
  exact ⟨⟨_, fd, _, ok_law_thing F G.bl G.tg (cal_law_pattern G) (cal_ratio G), G.glo (G.fact 56 (f := .glo "_law_thing") rfl), F.kp, (F.bindsN (ps := ["_law_draws_here", "_law_triangle"]) fun _ _ _ _ _ _ us hl => match us, hl with | [_, _], _ => by kernel_rfl)⟩⟩
theorem cal_law_things {g : GE} (G : GF g) : Cal g "_law_things" 9 (spR g.K (Rlthings (caOf g.K))) := by
  obtain ⟨fd, F⟩ := G.def_ 41 (d := d_law_things) rfl
  exact ⟨⟨_, fd, _, ok_law_things F G.bl (cal_law_draws G) (cal_law_cell_at G) (cal_law_triangles G) (cal_law_thing G), G.glo (G.fact 57 (f := .glo "_law_things") rfl), F.kp, (F.bindsN (ps := ["_law_script", "_law_first", "_law_most"]) fun _ _ _ _ _ _ us hl => match us, hl with | [_, _, _], _ => by kernel_rfl)⟩⟩
theorem cal_law_spots {g : GE} (G : GF g) : Cal g "_law_spots" 3 (spR g.K Rlspots) := by
  obtain ⟨fd, F⟩ := G.def_ 42 (d := d_law_spots) rfl
  exact ⟨⟨_, fd, _, ok_law_spots F G.bl (cal_law_draws G), G.glo (G.fact 58 (f := .glo "_law_spots") rfl), F.kp, (F.bindsN (ps := ["_law_cell"]) fun _ _ _ _ _ _ us hl => match us, hl with | [_], _ => by kernel_rfl)⟩⟩
theorem cal_law_told {g : GE} (G : GF g) : Cal g "_law_told" 9 (spM g.K (Rltold (caOf g.K))) := by
  obtain ⟨fd, F⟩ := G.def_ 45 (d := d_law_told) rfl
  exact ⟨⟨_, fd, _, ok_law_told F G.bl G.tg (cal_law_word G) (cal_law_spots G) (cal_cut G) (cal_law_like G) (cal_thing_text G), G.glo (G.fact 61 (f := .glo "_law_told") rfl), F.kp, (F.bindsN (ps := ["_law_state", "_law_way", "_law_number", "_law_thing_here"]) fun _ _ _ _ _ _ us hl => match us, hl with | [_, _, _, _], _ => by kernel_rfl)⟩⟩
theorem lg_of {g : GE} (G : GF g) : LG g (caOf g.K) (He.ga g.K "Desk") := ⟨G.bl, G.tg, G.dcl, mak_Desk G, mth_Desk_say G, cal_law_things G, cal_law_cell_at G, cal_law_draws G, cal_law_told G, cal_scene_text G⟩
theorem law_fn {g : GE} (G : GF g) : ∃ fd, FnOk g.P g.w g.K g.mg g.base CX0 13 (He.fAd g.K d_law.at_) fd ["_law_script"] (spR g.K Rlaw) ∧ ∀ (s : Shared) (v : Value), BindsTo s fd ⟨[v], []⟩ [("_law_script", v)] := by
  obtain ⟨fd, F⟩ := G.def_ 46 (d := d_law) rfl
  have b := FunD.bindsA (ps := ["_law_script"]) F fun _ _ _ _ _ _ us hl => match us, hl with | [_], _ => by kernel_rfl
  exact ⟨fd, ok_law F (lg_of G), fun s v => b s [v] rfl⟩
end Lk
set_option maxHeartbeats 0
/-! the end -/
namespace Lk
open PySem L2 DL HandSHeadRun PySem.W
theorem run_ (w : World) : RunEq R qv hk ob 20000 loose w := by
  intro os
  obtain ⟨s, h1, h2⟩ := Option.map_eq_some_iff.mp (run1 w os)
  obtain ⟨s', h3, h4⟩ := Option.map_eq_some_iff.mp (run2 w os)
  obtain rfl : s = s' := Option.some.inj (h1.symm.trans h3)
  rw [h1]
  obtain ⟨h5, h6⟩ := Prod.mk.inj h2
  exact congrArg some (Prod.ext h5 (Prod.ext h6 h4))
end Lk
namespace Lk
open PySem L2 DL
theorem law_data {K : PySem.W.Frag} (H : Hp) (a : Addr) (ns : List Int) (S : SqL K H a (ns.map V.int)) : spR K Rlaw [.ref a] H (fun v _ => v = .bl true) fun _ _ _ => False := by
  refine ⟨[], [.lsr (ns.map D.int)], .bl true, fun m hm => (by cases hm), Reps.cons (rep_lsr.mpr ⟨a, ns.map V.int, rfl, ?_, reps_ints ns⟩) Reps.nil, ⟨ns, rfl, rfl⟩, fun v H' _ r => rep_bl.mp r⟩
  have e : hid [] H = H := funext fun b => hid_ne (by simp)
  rw [e]
  exact S
theorem law_walk {P : Program} {w : World} {K : PySem.W.Frag} {h : Heap} {mg : Str → Option Value} {f : Addr} (X : K.In h) (G : h.Ns mainGlobals mg) (hf : mg ("law" : Str) = some (.ref f)) (c : SaysB K) :
    ∃ fd : FuncData, (∀ (s : Shared) (v : Value), BindsTo s fd ⟨[v], []⟩ [("_law_script", v)]) ∧ ∀ base : Heap, K.In base → base.Ns mainGlobals mg → FnOk P w K mg base CX0 13 f fd ["_law_script"] (spR K Rlaw) := by
  have G0 : ∀ base, GF ⟨P, w, K, mg, base⟩ := fun base => ⟨c, h, X, G⟩
  obtain ⟨fd, F⟩ := (G0 h).def_ 46 (d := d_law) rfl
  have b := FunD.bindsA (ps := ["_law_script"]) F fun _ _ _ _ _ _ us hl => match us, hl with | [_], _ => by kernel_rfl
  have e := hf.symm.trans ((G0 h).glo ((G0 h).fact 62 (f := .glo "law") rfl))
  cases e
  exact ⟨fd, fun s v => b s [v] rfl, fun base _ _ => ok_law (g := ⟨P, w, K, mg, base⟩) F (lg_of (G0 base))⟩
end Lk
open PySem PySem.W PySem.Calls PyProof.Rows
theorem PySem.Challenge.cw_sampleyard_k86_desk_told_holds : PySem.Challenge.rw_sampleyard_k86_desk_told.Holds := by
  w_on; o_law
  refine HandSHeadRun.head_any (r := OpenLaw.row PySem.Challenge.rw_sampleyard_k86_desk_told) (q := Lk.qv) (H := Lk.hk) (ob := Lk.ob) (M := 20000) (loose := Lk.loose) (d := HandSHeadRun.topDef (OpenLaw.row PySem.Challenge.rw_sampleyard_k86_desk_told).prog 123) (kwd := []) Lk.ob_eq
    (by kernel_rfl) (fun s => by kernel_rfl) Lk.run_ (by kernel_rfl) (by kernel_rfl) (by kernel_rfl) (by rfl) (by first | assumption | decide +kernel) (by decide +kernel) ⟨rfl, rfl, rfl, rfl, rfl, by decide +kernel⟩ ?hw ?hc
  case hw => w_witness2
  case hc =>
    refine L2.walk_ofE (l := PySem.Challenge.rw_sampleyard_k86_desk_told) (n := 63) (k := 13) (x := "_law_script") (CX := L2.CX0) rfl (by decide) (by kernel_rfl) ⟨rfl, by decide, by decide⟩ ?F (fun _ _ _ _ z => z)
    intro w mg fa h Y G hmg0
    obtain ⟨K, KX, c⟩ := Y
    have hmg : mg ("law" : PySem.Str) = some (.ref fa) := by
      have e : (HandSHeadRun.topDef (OpenLaw.row PySem.Challenge.rw_sampleyard_k86_desk_told).prog 123).name = ("law" : PySem.Str) := by kernel_rfl
      rw [← e]
      exact hmg0
    obtain ⟨fd, hb, hF⟩ := Lk.law_walk (P := (PySem.Challenge.rw_sampleyard_k86_desk_told).prog) (w := w) KX G hmg c
    exact ⟨K, fd, DL.spR K Lk.Rlaw, KX, hb, fun H a ns hl _ hS => Lk.law_data H a ns hS, hF⟩
