import PyProof.Rows.All
import HandS.ForMost
import HandS.Wide
import HandS.IsInst
import HandS.EndBits
import HandS.Zip
import HandS.Style
import HandS.SortInts
import HandS.WideBits
import PyProof.Rows.StrOr
import PySem.Challenge.RW_lastfigure_k60_figures_for_roots
section
set_option Elab.async false
set_option linter.all false
set_option maxRecDepth 100000
set_option maxHeartbeats 4000000
/-! Dw: a layer of plain data over the hand layer. A value is plain data (D): ints, texts, tuples and lists by value, or the place (loc) of a list that may be changed; the store (Sto) holds the lists that may be changed. -/
namespace Dw
open PySem PySem.Spec PyProof.Rows L2

inductive D where
  | non | bl (b : Bool) | int (i : Int) | str (x : Str) | tup (ds : List D) | lst (ds : List D) | loc (n : Nat)
  /-- the place of an instance; an instance by value; the head of an instance's cell -/
  | ob (n : Nat) | obj (C : Addr) (ns : List Str) (ds : List D) | cls (C : Addr) (ns : List Str)
abbrev Sto := List (List D)
abbrev Env := List (Option D)

mutual
/-- every place within is below n -/
def below (n : Nat) : D → Bool
  | .tup ds => belows n ds
  | .lst ds => belows n ds
  | .loc m => decide (m < n)
  | .ob m => decide (m < n)
  | .obj _ _ ds => belows n ds
  | .cls _ _ => true
  | .non => true
  | .bl _ => true
  | .int _ => true
  | .str _ => true
def belows (n : Nat) : List D → Bool
  | [] => true
  | d :: ds => below n d && belows n ds
end
theorem belows_iff (n : Nat) : ∀ ds : List D, belows n ds = true ↔ ∀ d ∈ ds, below n d = true
  | [] => by simp [belows]
  | d :: ds => by simp [belows, belows_iff n ds]
mutual
theorem below_mono {n m : Nat} (h : n ≤ m) : ∀ d : D, below n d = true → below m d = true
  | .tup ds, q => by simp only [below] at q ⊢; exact belows_mono h ds q
  | .lst ds, q => by simp only [below] at q ⊢; exact belows_mono h ds q
  | .loc k, q => by simp only [below, decide_eq_true_eq] at q ⊢; omega
  | .ob k, q => by simp only [below, decide_eq_true_eq] at q ⊢; omega
  | .obj _ _ ds, q => by simp only [below] at q ⊢; exact belows_mono h ds q
  | .cls _ _, _ => rfl
  | .non, _ => rfl
  | .bl _, _ => rfl
  | .int _, _ => rfl
  | .str _, _ => rfl
theorem belows_mono {n m : Nat} (h : n ≤ m) : ∀ ds : List D, belows n ds = true → belows m ds = true
  | [], _ => rfl
  | d :: ds, q => by
    simp only [belows, Bool.and_eq_true] at q ⊢
    exact ⟨below_mono h d q.1, belows_mono h ds q.2⟩
end

/-- a list that nobody changes stands at a: known to the heap and neither a place (α) nor hidden (Z), or an object of the module -/
def Fz (K : PySem.W.Frag) (Z α : List Addr) (H : Hp) (a : Addr) (vs : List V) : Prop := (a ∉ α ∧ a ∉ Z ∧ Rd H a (.lst vs)) ∨ SqL K (fun _ => none) a vs
theorem Fz.sq {K : PySem.W.Frag} {Z α : List Addr} {H : Hp} {a : Addr} {vs : List V} (h : Fz K Z α H a vs) : SqL K H a vs := by
  rcases h with ⟨_, _, h⟩ | h
  · exact .inl h
  · rcases h with (h | ⟨o, h⟩) | h
    · cases h
    · cases h
    · exact .inr h
/-- a list's place -/
def LocAt (α : List Addr) (H : Hp) (n : Nat) (a : Addr) : Prop := α[n]? = some a ∧ ∃ vs, H a = some (.lst vs)
/-- an instance that nobody changes -/
def FzO (Z α : List Addr) (H : Hp) (a C : Addr) (ns : List Str) (vs : List V) : Prop := a ∉ α ∧ a ∉ Z ∧ ns.length = vs.length ∧ ∃ dx, H a = some (.ins C dx (ns.zip vs))
section
variable (K : PySem.W.Frag) (Z : List Addr) (α : List Addr) (H : Hp)
mutual
/-- the value v stands for the datum -/
def R : D → V → Prop
  | .non, v => v = .non
  | .bl b, v => v = .bl b
  | .int i, v => v = .int i
  | .str x, v => v = .str x
  | .tup ds, v => ∃ a vs, v = .ref a ∧ SqT K H a vs ∧ Rs ds vs
  | .lst ds, v => ∃ a vs, v = .ref a ∧ Fz K Z α H a vs ∧ Rs ds vs
  | .loc n, v => ∃ a, v = .ref a ∧ LocAt α H n a
  | .ob n, v => ∃ a, v = .ref a ∧ α[n]? = some a
  | .obj C ns ds, v => ∃ a vs, v = .ref a ∧ FzO Z α H a C ns vs ∧ Rs ds vs
  | .cls _ _, _ => False
def Rs : List D → List V → Prop
  | [], vs => vs = []
  | d :: ds, vs => ∃ v r, vs = v :: r ∧ R d v ∧ Rs ds r
end
/-- what a cell holds, without its class -/
def body : List D → List D
  | .cls _ _ :: ds => ds
  | ds => ds
def HoR : List D → List V → HO → Prop
  | .cls C ns :: _, vs, o => ns.length = vs.length ∧ ∃ dx, o = .ins C dx (ns.zip vs)
  | _, vs, o => o = .lst vs
def MutO : HO → Prop
  | .lst _ => True
  | .ins _ _ _ => True
  | _ => False
def Mut : Prop := ∀ a ∈ α, ∃ o, H a = some o ∧ MutO o
/-- the store stands in the heap -/
structure StR (μ : Sto) : Prop where
  len : α.length = μ.length
  nd : α.Nodup
  hid : ∀ z ∈ Z, (∃ o, H z = some o) ∧ z ∉ α
  cell : ∀ (n : Nat) (a : Addr) (c : List D), α[n]? = some a → μ[n]? = some c → (∃ o vs, H a = some o ∧ HoR c vs o ∧ Rs K Z α H (body c) vs) ∧ belows n c = true
/-- the names' values -/
structure EnvR (ρ : Env) (σ : L2.St) : Prop where
  len : ρ.length = σ.length
  get : ∀ (i : Nat) (d : D), ρ[i]? = some (some d) → ∃ v, σ[i]? = some (some v) ∧ R K Z α H d v
end
/-- what lies outside the places is kept, new places are new -/
structure Ext (α : List Addr) (H : Hp) (α' : List Addr) (H' : Hp) : Prop where
  keep : ∀ a o, H a = some o → a ∉ α → H' a = some o
  pre : ∃ t, α' = α ++ t
  new : ∀ a ∈ α', a ∈ α ∨ H a = none
  kind : ∀ a ∈ α, ∀ vs, H a = some (.lst vs) → ∃ us, H' a = some (.lst us)

section
variable {K : PySem.W.Frag} {Z : List Addr} {α α' α1 α2 : List Addr} {H H' H1 H2 : Hp} {μ μ' : Sto}
theorem HoR.mut : ∀ {c : List D} {vs : List V} {o : HO}, HoR c vs o → MutO o
  | [], _, _, h => by rw [show _ = HO.lst _ from h]; exact True.intro
  | .cls _ _ :: _, _, _, h => by obtain ⟨_, dx, rfl⟩ := h; exact True.intro
  | .non :: _, _, _, h => by rw [show _ = HO.lst _ from h]; exact True.intro
  | .bl _ :: _, _, _, h => by rw [show _ = HO.lst _ from h]; exact True.intro
  | .int _ :: _, _, _, h => by rw [show _ = HO.lst _ from h]; exact True.intro
  | .str _ :: _, _, _, h => by rw [show _ = HO.lst _ from h]; exact True.intro
  | .tup _ :: _, _, _, h => by rw [show _ = HO.lst _ from h]; exact True.intro
  | .lst _ :: _, _, _, h => by rw [show _ = HO.lst _ from h]; exact True.intro
  | .loc _ :: _, _, _, h => by rw [show _ = HO.lst _ from h]; exact True.intro
  | .ob _ :: _, _, _, h => by rw [show _ = HO.lst _ from h]; exact True.intro
  | .obj _ _ _ :: _, _, _, h => by rw [show _ = HO.lst _ from h]; exact True.intro
theorem StR.lsts (S : StR K Z α H μ) : Mut α H := fun a ha => by
  obtain ⟨n, hn, e⟩ := List.mem_iff_getElem.mp ha
  have h1 : α[n]? = some a := by rw [List.getElem?_eq_getElem hn, e]
  have hm : n < μ.length := by rw [← S.len]; exact hn
  obtain ⟨⟨o, vs, h2, h3, _⟩, _⟩ := S.cell n a _ h1 (List.getElem?_eq_getElem hm)
  exact ⟨o, h2, h3.mut⟩
/-- a cell without a class is a list -/
def plainC : List D → Bool
  | .cls _ _ :: _ => false
  | _ => true
theorem cls_or : ∀ c : List D, (∃ C ns ds, c = .cls C ns :: ds) ∨ (plainC c = true ∧ body c = c ∧ ∀ vs o, HoR c vs o ↔ o = .lst vs)
  | [] => .inr ⟨rfl, rfl, fun _ _ => Iff.rfl⟩
  | .cls C ns :: ds => .inl ⟨C, ns, ds, rfl⟩
  | .non :: _ => .inr ⟨rfl, rfl, fun _ _ => Iff.rfl⟩
  | .bl _ :: _ => .inr ⟨rfl, rfl, fun _ _ => Iff.rfl⟩
  | .int _ :: _ => .inr ⟨rfl, rfl, fun _ _ => Iff.rfl⟩
  | .str _ :: _ => .inr ⟨rfl, rfl, fun _ _ => Iff.rfl⟩
  | .tup _ :: _ => .inr ⟨rfl, rfl, fun _ _ => Iff.rfl⟩
  | .lst _ :: _ => .inr ⟨rfl, rfl, fun _ _ => Iff.rfl⟩
  | .loc _ :: _ => .inr ⟨rfl, rfl, fun _ _ => Iff.rfl⟩
  | .ob _ :: _ => .inr ⟨rfl, rfl, fun _ _ => Iff.rfl⟩
  | .obj _ _ _ :: _ => .inr ⟨rfl, rfl, fun _ _ => Iff.rfl⟩
theorem plain_body {c : List D} (h : plainC c = true) : body c = c := by
  rcases cls_or c with ⟨C, ns, ds, rfl⟩ | ⟨_, q, _⟩
  · cases h
  · exact q
theorem plain_ho {c : List D} {vs : List V} {o : HO} (h : plainC c = true) : HoR c vs o ↔ o = .lst vs := by
  rcases cls_or c with ⟨C, ns, ds, rfl⟩ | ⟨_, _, q⟩
  · cases h
  · exact q vs o
theorem HoR.plain {c : List D} {vs us : List V} (h : HoR c vs (.lst us)) : plainC c = true ∧ us = vs := by
  rcases cls_or c with ⟨C, ns, ds, rfl⟩ | ⟨q1, _, q⟩
  · obtain ⟨_, dx, h⟩ := h
    cases h
  · have := (q vs _).mp h
    cases this
    exact ⟨q1, rfl⟩
theorem Rs.plain {c : List D} {vs : List V} (h : Rs K Z α H c vs) : plainC c = true := by
  unfold plainC
  split
  · simp only [Rs, R] at h
    obtain ⟨v, r, _, h, _⟩ := h
    exact h.elim
  · rfl
theorem belows_body {n : Nat} {c : List D} (h : belows n c = true) : belows n (body c) = true := by
  unfold body
  split
  · simp only [belows, Bool.and_eq_true] at h
    exact h.2
  · exact h
theorem Ext.refl : Ext α H α H := ⟨fun _ _ h _ => h, ⟨[], by simp⟩, fun _ h => .inl h, fun _ _ vs h => ⟨vs, h⟩⟩
theorem Ext.get (e : Ext α H α' H') {n : Nat} {a : Addr} (h : α[n]? = some a) : α'[n]? = some a := by
  obtain ⟨t, rfl⟩ := e.pre
  have hn : n < α.length := (List.getElem?_eq_some_iff.mp h).1
  rw [List.getElem?_append_left hn, h]
theorem Ext.mem (e : Ext α H α' H') {a : Addr} (h : a ∈ α) : a ∈ α' := by
  obtain ⟨t, rfl⟩ := e.pre
  exact List.mem_append_left t h
theorem Ext.loc (e : Ext α H α' H') {n : Nat} {a : Addr} (h : LocAt α H n a) : LocAt α' H' n a := ⟨e.get h.1, let ⟨vs, q⟩ := h.2; e.kind a (List.mem_of_getElem? h.1) vs q⟩
theorem Ext.out (e : Ext α H α' H') {a : Addr} {o : HO} (h : H a = some o) (n : a ∉ α) : a ∉ α' := fun z => by
  rcases e.new a z with q | q
  · exact n q
  · rw [h] at q; cases q
theorem Ext.trans (e : Ext α H α1 H1) (f : Ext α1 H1 α2 H2) : Ext α H α2 H2 := by
  refine ⟨fun a o h n => f.keep a o (e.keep a o h n) (e.out h n), ?_, fun a ha => ?_, fun a ha vs h => let ⟨us, q⟩ := e.kind a ha vs h; f.kind a (e.mem ha) us q⟩
  · obtain ⟨t, h1⟩ := e.pre
    obtain ⟨u, h2⟩ := f.pre
    exact ⟨t ++ u, by rw [h2, h1, List.append_assoc]⟩
  · rcases f.new a ha with q | q
    · exact e.new a q
    · by_cases m : a ∈ α
      · exact .inl m
      · right
        cases z : H a with
        | none => rfl
        | some o => rw [e.keep a o z m] at q; cases q
theorem Ext.same (h : ∀ a o, H a = some o → H' a = some o) : Ext α H α H' := ⟨fun a o q _ => h a o q, ⟨[], by simp⟩, fun _ q => .inl q, fun a _ vs q => ⟨vs, h a _ q⟩⟩
theorem Ext.rd (e : Ext α H α' H') (L : Mut α H) {a : Addr} {u : HO} (h : Rd H a u) (n : a ∉ α) : Rd H' a u := by
  rcases h with h | ⟨o, h⟩
  · exact .inl (e.keep a _ h n)
  · exact .inr ⟨o, e.keep a _ h n⟩
theorem Ext.sqT (e : Ext α H α' H') (L : Mut α H) {a : Addr} {vs : List V} (h : SqT K H a vs) : SqT K H' a vs := by
  rcases h with h | h
  · refine .inl (e.rd L h fun z => ?_)
    obtain ⟨us, q, m⟩ := L a z
    rcases h with h | ⟨o, h⟩ <;> rw [q] at h <;> cases h <;> exact m
  · exact .inr h
mutual
theorem R_ext (L : Mut α H) (e : Ext α H α' H') : ∀ (d : D) {v : V}, R K Z α H d v → R K Z α' H' d v
  | .non, _, h => by simp only [R] at h ⊢; exact h
  | .bl _, _, h => by simp only [R] at h ⊢; exact h
  | .int _, _, h => by simp only [R] at h ⊢; exact h
  | .str _, _, h => by simp only [R] at h ⊢; exact h
  | .tup ds, _, h => by
    simp only [R] at h ⊢
    obtain ⟨a, vs, h1, h2, h3⟩ := h
    exact ⟨a, vs, h1, e.sqT L h2, Rs_ext L e ds h3⟩
  | .lst ds, _, h => by
    simp only [R] at h ⊢
    obtain ⟨a, vs, h1, h2, h4⟩ := h
    refine ⟨a, vs, h1, ?_, Rs_ext L e ds h4⟩
    rcases h2 with ⟨h2, h5, h3⟩ | h2
    · refine .inl ⟨fun z => ?_, h5, e.rd L h3 h2⟩
      rcases h3 with h3 | ⟨o, h3⟩ <;> exact e.out h3 h2 z
    · exact .inr h2
  | .loc n, _, h => by
    simp only [R] at h ⊢
    obtain ⟨a, h1, h2⟩ := h
    exact ⟨a, h1, e.loc h2⟩
  | .ob n, _, h => by
    simp only [R] at h ⊢
    obtain ⟨a, h1, h2⟩ := h
    exact ⟨a, h1, e.get h2⟩
  | .obj C ns ds, _, h => by
    simp only [R] at h ⊢
    obtain ⟨a, vs, h1, ⟨h2, h5, h6, dx, h3⟩, h4⟩ := h
    exact ⟨a, vs, h1, ⟨e.out h3 h2, h5, h6, dx, e.keep a _ h3 h2⟩, Rs_ext L e ds h4⟩
  | .cls _ _, _, h => by simp only [R] at h
theorem Rs_ext (L : Mut α H) (e : Ext α H α' H') : ∀ (ds : List D) {vs : List V}, Rs K Z α H ds vs → Rs K Z α' H' ds vs
  | [], _, h => by simp only [Rs] at h ⊢; exact h
  | d :: ds, _, h => by
    simp only [Rs] at h ⊢
    obtain ⟨v, r, h1, h2, h3⟩ := h
    exact ⟨v, r, h1, R_ext L e d h2, Rs_ext L e ds h3⟩
end
theorem EnvR.ext {ρ : Env} {σ : L2.St} (E : EnvR K Z α H ρ σ) (L : Mut α H) (e : Ext α H α' H') : EnvR K Z α' H' ρ σ :=
  ⟨E.len, fun i d h => let ⟨v, h1, h2⟩ := E.get i d h; ⟨v, h1, R_ext L e d h2⟩⟩
theorem Rs.len : ∀ {ds : List D} {vs : List V}, Rs K Z α H ds vs → ds.length = vs.length
  | [], _, h => by simp only [Rs] at h; subst h; rfl
  | _ :: ds, _, h => by
    simp only [Rs] at h
    obtain ⟨v, r, rfl, _, h3⟩ := h
    simp [Rs.len h3]
theorem Rs.get : ∀ {ds : List D} {vs : List V} {i : Nat} {d : D}, Rs K Z α H ds vs → ds[i]? = some d → ∃ v, vs[i]? = some v ∧ R K Z α H d v
  | [], _, _, _, _, e => by simp at e
  | _ :: ds, _, i, d, h, e => by
    simp only [Rs] at h
    obtain ⟨v, r, rfl, h2, h3⟩ := h
    cases i with
    | zero => simp at e; subst e; exact ⟨v, rfl, h2⟩
    | succ i => simpa using Rs.get (i := i) h3 (by simpa using e)
theorem Rs.getV : ∀ {ds : List D} {vs : List V} {i : Nat} {v : V}, Rs K Z α H ds vs → vs[i]? = some v → ∃ d, ds[i]? = some d ∧ R K Z α H d v
  | [], _, _, _, h, e => by simp only [Rs] at h; subst h; simp at e
  | _ :: ds, _, i, w, h, e => by
    simp only [Rs] at h
    obtain ⟨v, r, rfl, h2, h3⟩ := h
    cases i with
    | zero => simp at e; subst e; exact ⟨_, rfl, h2⟩
    | succ i => simpa using Rs.getV (i := i) h3 (by simpa using e)
theorem Rs.app : ∀ {ds es : List D} {vs us : List V}, Rs K Z α H ds vs → Rs K Z α H es us → Rs K Z α H (ds ++ es) (vs ++ us)
  | [], _, _, _, h, k => by simp only [Rs] at h; subst h; exact k
  | _ :: ds, _, _, _, h, k => by
    simp only [Rs] at h
    obtain ⟨v, r, rfl, h2, h3⟩ := h
    exact ⟨v, _, rfl, h2, Rs.app h3 k⟩
theorem Rs.take : ∀ {ds : List D} {vs : List V} (n : Nat), Rs K Z α H ds vs → Rs K Z α H (ds.take n) (vs.take n)
  | _, _, 0, _ => by simp [Rs]
  | [], _, _ + 1, h => by simp only [Rs] at h; subst h; simp [Rs]
  | _ :: ds, _, n + 1, h => by
    simp only [Rs] at h
    obtain ⟨v, r, rfl, h2, h3⟩ := h
    exact ⟨v, _, rfl, h2, Rs.take n h3⟩
theorem Rs.drop : ∀ {ds : List D} {vs : List V} (n : Nat), Rs K Z α H ds vs → Rs K Z α H (ds.drop n) (vs.drop n)
  | _, _, 0, h => h
  | [], _, _ + 1, h => by simp only [Rs] at h; subst h; simp [Rs]
  | _ :: ds, _, n + 1, h => by
    simp only [Rs] at h
    obtain ⟨v, r, rfl, h2, h3⟩ := h
    exact Rs.drop n h3
theorem Rs.set : ∀ {ds : List D} {vs : List V} {d : D} {v : V} (i : Nat), Rs K Z α H ds vs → R K Z α H d v → Rs K Z α H (ds.set i d) (vs.set i v)
  | [], _, _, _, _, h, _ => by simp only [Rs] at h; subst h; simp [Rs]
  | _ :: ds, _, d, w, i, h, k => by
    simp only [Rs] at h
    obtain ⟨v, r, rfl, h2, h3⟩ := h
    cases i with
    | zero => exact ⟨w, r, rfl, k, h3⟩
    | succ i => exact ⟨v, _, rfl, h2, Rs.set i h3 k⟩
theorem Rs.ints (ns : List Int) : Rs K Z α H (ns.map D.int) (ns.map V.int) := by
  induction ns with
  | nil => simp [Rs]
  | cons n ns ih => exact ⟨_, _, rfl, rfl, ih⟩

/-! what is wanted behind a piece, by plain data and by values -/
def Post (K : PySem.W.Frag) (Z : List Addr) (α : List Addr) (H : Hp) (Qd : D → Sto → Prop) (Q : VK) : Prop :=
  ∀ d μ' α' H' v, Qd d μ' → Ext α H α' H' → StR K Z α' H' μ' → R K Z α' H' d v → Q v H'
def PostB (K : PySem.W.Frag) (Z : List Addr) (α : List Addr) (H : Hp) (Qd : Bool → Sto → Prop) (Q : Bool → Hp → Prop) : Prop :=
  ∀ b μ' α' H', Qd b μ' → Ext α H α' H' → StR K Z α' H' μ' → Q b H'
def PostA (K : PySem.W.Frag) (Z : List Addr) (α : List Addr) (H : Hp) (Qd : List D → Sto → Prop) (Q : List V → Hp → Prop) : Prop :=
  ∀ ds μ' α' H' vs, Qd ds μ' → Ext α H α' H' → StR K Z α' H' μ' → Rs K Z α' H' ds vs → Q vs H'
def PostS (K : PySem.W.Frag) (Z : List Addr) (α : List Addr) (H : Hp) (Nd : Env → Sto → Prop) (N : L2.St → Hp → Prop) : Prop :=
  ∀ ρ' μ' α' H' σ', Nd ρ' μ' → Ext α H α' H' → StR K Z α' H' μ' → EnvR K Z α' H' ρ' σ' → N σ' H'
theorem Post.on {Qd : D → Sto → Prop} {Q : VK} (p : Post K Z α H Qd Q) (e : Ext α H α1 H1) : Post K Z α1 H1 Qd Q := fun d μ' α' H' v q f S r => p d μ' α' H' v q (e.trans f) S r
theorem PostB.on {Qd : Bool → Sto → Prop} {Q : Bool → Hp → Prop} (p : PostB K Z α H Qd Q) (e : Ext α H α1 H1) : PostB K Z α1 H1 Qd Q := fun b μ' α' H' q f S => p b μ' α' H' q (e.trans f) S
theorem PostA.on {Qd : List D → Sto → Prop} {Q : List V → Hp → Prop} (p : PostA K Z α H Qd Q) (e : Ext α H α1 H1) : PostA K Z α1 H1 Qd Q := fun d μ' α' H' v q f S r => p d μ' α' H' v q (e.trans f) S r
theorem PostS.on {Nd : Env → Sto → Prop} {N : L2.St → Hp → Prop} (p : PostS K Z α H Nd N) (e : Ext α H α1 H1) : PostS K Z α1 H1 Nd N := fun ρ' μ' α' H' σ' q f S r => p ρ' μ' α' H' σ' q (e.trans f) S r
end

abbrev WE := Env → Sto → (D → Sto → Prop) → Prop
abbrev WT := Env → Sto → (Bool → Sto → Prop) → Prop
abbrev WA := Env → Sto → (List D → Sto → Prop) → Prop
abbrev WF := List D → Sto → (D → Sto → Prop) → Prop
abbrev W2 := D → D → Sto → (D → Sto → Prop) → Prop
structure DEnds where
  nx : Env → Sto → Prop
  rt : D → Sto → Prop
  bk : Env → Sto → Prop := fun _ _ => False
  ct : Env → Sto → Prop := fun _ _ => False
abbrev WS := DEnds → Env → Sto → Prop

section
variable (K : PySem.W.Frag)
def lE (w : WE) : TE := fun σ H Q => ∃ Z α ρ μ Qd, EnvR K Z α H ρ σ ∧ StR K Z α H μ ∧ w ρ μ Qd ∧ Post K Z α H Qd Q
def lT (w : WT) : TT := fun σ H Q => ∃ Z α ρ μ Qd, EnvR K Z α H ρ σ ∧ StR K Z α H μ ∧ w ρ μ Qd ∧ PostB K Z α H Qd Q
def lA (w : WA) : TA := fun σ H Q => ∃ Z α ρ μ Qd, EnvR K Z α H ρ σ ∧ StR K Z α H μ ∧ w ρ μ Qd ∧ PostA K Z α H Qd Q
def lS (w : WS) : TS := fun D σ H => ∃ Z α ρ μ, ∃ Dd : DEnds, EnvR K Z α H ρ σ ∧ StR K Z α H μ ∧ w Dd ρ μ ∧ PostS K Z α H Dd.nx D.nx ∧ Post K Z α H Dd.rt D.rt ∧ PostS K Z α H Dd.bk D.bk ∧ PostS K Z α H Dd.ct D.ct
/-- a def, a built-in by values: arguments, store, what follows -/
def lF (w : WF) : Sp := fun vs H Q _ => ∃ Z α ds μ Qd, StR K Z α H μ ∧ Rs K Z α H ds vs ∧ w ds μ Qd ∧ Post K Z α H Qd Q
def lC (w : WF) : List V → Hp → VK → Prop := fun vs H Q => ∃ Z α ds μ Qd, StR K Z α H μ ∧ Rs K Z α H ds vs ∧ w ds μ Qd ∧ Post K Z α H Qd Q
def l2 (r : W2) : R2 := fun x y H Q => ∃ Z α μ a b Qd, StR K Z α H μ ∧ R K Z α H a x ∧ R K Z α H b y ∧ r a b μ Qd ∧ Post K Z α H Qd Q
end

section
variable {X : Cx}
theorem PE_imp {e : Expr} {t t' : TE} (p : PE X e t) (h : ∀ σ H Q, t' σ H Q → t σ H Q) : PE X e t' := ⟨fun pins s σ H Q I q => p.run pins s σ H Q I (h σ H Q q)⟩
theorem PT_imp {e : Expr} {t t' : TT} (p : PT X e t) (h : ∀ σ H Q, t' σ H Q → t σ H Q) : PT X e t' := ⟨fun pins s σ H Q I q => p.run pins s σ H Q I (h σ H Q q)⟩
theorem PW_imp {e : Expr} {t t' : TT} (p : PW X e t) (h : ∀ σ H Q, t' σ H Q → t σ H Q) : PW X e t' := ⟨fun wh pins s σ H Q I q => p.run wh pins s σ H Q I (h σ H Q q)⟩
theorem PA_imp {es : List Expr} {t t' : TA} (p : PA X es t) (h : ∀ σ H Q, t' σ H Q → t σ H Q) : PA X es t' := ⟨fun pos pins s σ H Q I q => p.run pos pins s σ H Q I (h σ H Q q)⟩
theorem PS_imp {st : Stmt} {t t' : TS} (p : PS X st t) (h : ∀ D σ H, t' D σ H → t D σ H) : PS X st t' := ⟨fun pins s σ H D I q => p.run pins s σ H D I (h D σ H q)⟩
theorem PSs_imp {st : List Stmt} {t t' : TS} (p : PSs X st t) (h : ∀ D σ H, t' D σ H → t D σ H) : PSs X st t' := ⟨fun pins s σ H D I q => p.run pins s σ H D I (h D σ H q)⟩
end

/-! ### names, constants -/
def wVar (i : Nat) : WE := fun ρ μ Q => match ρ[i]? with | some (some d) => Q d μ | _ => False
def wC (d : D) : WE := fun _ μ Q => Q d μ
section
variable {X : Cx}
theorem d_v (i : Nat) {x : Str} {pos : Pos} (hN : X.N[i]? = some x := by rfl) (hv : Vis X.env.scope x := by first | exact Or.inl rfl | exact Or.inr (Or.inl rfl) | exact Or.inr (Or.inr rfl)) (hd : (x == ("__debug__" : Str)) = false := by decide)
    (hcd : (x == ("__classdict__" : Str)) = false := by decide) : PE X (.Name x pos) (lE X.K (wVar i)) := by
  refine PE_imp (pe_var hN hv hd hcd) fun σ H Q h => ?_
  obtain ⟨Z, α, ρ, μ, Qd, E, S, w, P⟩ := h
  unfold wVar at w
  split at w
  · rename_i d e
    obtain ⟨v, e1, r⟩ := E.get i d e
    exact ⟨v, e1, P d μ α H v w Ext.refl S r⟩
  · exact w.elim
theorem d_c {e : Expr} {v : V} (d : D) (h : PE X e (tC v)) (hr : ∀ Z α H, R X.K Z α H d v) : PE X e (lE X.K (wC d)) := by
  refine PE_imp h fun σ H Q h => ?_
  obtain ⟨Z, α, ρ, μ, Qd, E, S, w, P⟩ := h
  exact P d μ α H v w Ext.refl S (hr Z α H)
theorem d_int {i j pos} : PE X (.Constant (.int i) j pos) (lE X.K (wC (.int i))) := d_c _ pe_int fun _ _ _ => rfl
theorem d_bl {i j pos} : PE X (.Constant (.bool i) j pos) (lE X.K (wC (.bl i))) := d_c _ pe_bl fun _ _ _ => rfl
theorem d_non {j pos} : PE X (.Constant .none j pos) (lE X.K (wC .non)) := d_c _ pe_non fun _ _ _ => rfl
theorem d_str {x j pos} : PE X (.Constant (.str x) j pos) (lE X.K (wC (.str x))) := d_c _ pe_str fun _ _ _ => rfl

/-! ### operators by values -/
def DOp (X : Cx) (f : Value → Value → Sem Value) (r : W2) : Prop := OpR X f (l2 X.K r)
def wOp (r : W2) (a b : WE) : WE := fun ρ μ Q => a ρ μ fun x μ1 => b ρ μ1 fun y μ2 => r x y μ2 Q
theorem op_low {r : W2} {a b : WE} {σ : L2.St} {H : Hp} {Q : VK} (h : lE X.K (wOp r a b) σ H Q) : tOp (l2 X.K r) (lE X.K a) (lE X.K b) σ H Q := by
  obtain ⟨Z, α, ρ, μ, Qd, E, S, w, P⟩ := h
  refine ⟨Z, α, ρ, μ, _, E, S, w, fun x μ1 α1 H1 v q1 e1 S1 r1 => ⟨Z, α1, ρ, μ1, _, E.ext S.lsts e1, S1, q1, fun y μ2 α2 H2 u q2 e2 S2 r2 => ?_⟩⟩
  exact ⟨Z, α2, μ2, x, y, Qd, S2, R_ext S1.lsts e2 x r1, r2, q2, P.on (e1.trans e2)⟩
theorem d_op {op : Operator} {r : W2} {a b : Expr} {wa wb : WE} {pos : Pos} (ho : DOp X (binaryOp op) r) (ha : PE X a (lE X.K wa)) (hb : PE X b (lE X.K wb)) : PE X (.BinOp a op b pos) (lE X.K (wOp r wa wb)) :=
  PE_imp (pe_op ho ha hb) fun _ _ _ h => op_low h
theorem d_cmp {op : CmpOp} {r : W2} {a b : Expr} {wa wb : WE} {pos : Pos} (ho : DOp X (compareOp op) r) (ha : PE X a (lE X.K wa)) (hb : PE X b (lE X.K wb)) (hm : behindInMarks op b = false := by first | exact nomark _ | rfl) :
    PE X (.Compare a [op] [b] pos) (lE X.K (wOp r wa wb)) := PE_imp (pe_cmpR ho ha hb hm) fun _ _ _ h => op_low h
/-- a value that is True or False, as a test -/
def wTest (a : WE) : WT := fun ρ μ Q => a ρ μ fun x μ1 => match x with | .bl b => Q b μ1 | _ => False
theorem test_low {a : WE} {σ : L2.St} {H : Hp} {Q : Bool → Hp → Prop} (h : lT X.K (wTest a) σ H Q) : lE X.K a σ H (fun x H' => ∃ k, x = .bl k ∧ Q k H') := by
  obtain ⟨Z, α, ρ, μ, Qd, E, S, w, P⟩ := h
  refine ⟨Z, α, ρ, μ, _, E, S, w, fun x μ1 α1 H1 v q1 e1 S1 r1 => ?_⟩
  cases x with
  | bl b => exact ⟨b, r1, P b μ1 α1 H1 q1 e1 S1⟩
  | _ => exact False.elim q1
theorem t_cmp {op : CmpOp} {r : W2} {a b : Expr} {wa wb : WE} {pos : Pos} (ho : DOp X (compareOp op) r) (ha : PE X a (lE X.K wa)) (hb : PE X b (lE X.K wb)) (hm : behindInMarks op b = false := by first | exact nomark _ | rfl) :
    PT X (.Compare a [op] [b] pos) (lT X.K (wTest (wOp r wa wb))) := PT_imp (pt_cmpR ho ha hb hm) fun _ _ _ h => op_low (test_low h)
theorem t_val {e : Expr} {w : WE} (h : PE X e (lE X.K w)) (he : ∀ whole, isTrue e X.env whole = (do let v ← whole; standAt e.pos; holding [v] (truthy v)) := by intro _; rfl) : PT X e (lT X.K (wTest w)) :=
  PT_imp (pt_val h he) fun _ _ _ h => test_low h
/-- a < b < c -/
def wChain (r r' : W2) (a b c : WE) : WE := fun ρ μ Q => a ρ μ fun x μ1 => b ρ μ1 fun y μ2 => r x y μ2 fun z μ3 => match z with
  | .bl true => c ρ μ3 fun u μ4 => r' y u μ4 Q
  | .bl false => Q (.bl false) μ3
  | _ => False
/-! ### and, or, not, if -/
def wAndT (a b : WT) : WT := fun ρ μ Q => a ρ μ fun c μ1 => if c = true then b ρ μ1 Q else Q false μ1
def wOrT (a b : WT) : WT := fun ρ μ Q => a ρ μ fun c μ1 => if c = true then Q true μ1 else b ρ μ1 Q
def wNotT (a : WT) : WT := fun ρ μ Q => a ρ μ fun c μ1 => Q (!c) μ1
theorem t_and1 {a : Expr} {wa : WT} {pos : Pos} (ha : PT X a (lT X.K wa)) : PW X (.BoolOp .And [a] pos) (lT X.K wa) := pw_and1 ha
theorem t_or1 {a : Expr} {wa : WT} {pos : Pos} (ha : PT X a (lT X.K wa)) : PW X (.BoolOp .Or [a] pos) (lT X.K wa) := pw_or1 ha
theorem t_and {a b : Expr} {rest : List Expr} {wa wb : WT} {pos : Pos} (ha : PT X a (lT X.K wa)) (hb : PW X (.BoolOp .And (b :: rest) pos) (lT X.K wb)) : PW X (.BoolOp .And (a :: b :: rest) pos) (lT X.K (wAndT wa wb)) := by
  refine PW_imp (pw_and ha hb) fun σ H Q h => ?_
  obtain ⟨Z, α, ρ, μ, Qd, E, S, w, P⟩ := h
  refine ⟨Z, α, ρ, μ, _, E, S, w, fun c μ1 α1 H1 q1 e1 S1 => ?_⟩
  cases c with
  | true => exact ⟨Z, α1, ρ, μ1, Qd, E.ext S.lsts e1, S1, q1, P.on e1⟩
  | false => exact P _ _ _ _ q1 e1 S1
theorem t_or {a b : Expr} {rest : List Expr} {wa wb : WT} {pos : Pos} (ha : PT X a (lT X.K wa)) (hb : PW X (.BoolOp .Or (b :: rest) pos) (lT X.K wb)) : PW X (.BoolOp .Or (a :: b :: rest) pos) (lT X.K (wOrT wa wb)) := by
  refine PW_imp (pw_or ha hb) fun σ H Q h => ?_
  obtain ⟨Z, α, ρ, μ, Qd, E, S, w, P⟩ := h
  refine ⟨Z, α, ρ, μ, _, E, S, w, fun c μ1 α1 H1 q1 e1 S1 => ?_⟩
  cases c with
  | false => exact ⟨Z, α1, ρ, μ1, Qd, E.ext S.lsts e1, S1, q1, P.on e1⟩
  | true => exact P _ _ _ _ q1 e1 S1
theorem t_not {a : Expr} {wa : WT} {pos : Pos} (ha : PT X a (lT X.K wa)) : PT X (.UnaryOp .Not a pos) (lT X.K (wNotT wa)) := by
  refine PT_imp (pt_not ha) fun σ H Q h => ?_
  obtain ⟨Z, α, ρ, μ, Qd, E, S, w, P⟩ := h
  exact ⟨Z, α, ρ, μ, _, E, S, w, fun c μ1 α1 H1 q1 e1 S1 => P _ _ _ _ q1 e1 S1⟩
/-- as values, all but the last True or False -/
def wAndV (a b : WE) : WE := fun ρ μ Q => a ρ μ fun x μ1 => match x with | .bl true => b ρ μ1 Q | .bl false => Q (.bl false) μ1 | _ => False
def wOrV (a b : WE) : WE := fun ρ μ Q => a ρ μ fun x μ1 => match x with | .bl true => Q (.bl true) μ1 | .bl false => b ρ μ1 Q | _ => False
def wNotV (a : WE) : WE := fun ρ μ Q => a ρ μ fun x μ1 => match x with | .bl c => Q (.bl (!c)) μ1 | _ => False
theorem d_one {op : BoolOp} {a : Expr} {wa : WE} {pos : Pos} (ha : PE X a (lE X.K wa)) : PE X (.BoolOp op [a] pos) (lE X.K wa) := pe_one ha
theorem d_and {a b : Expr} {rest : List Expr} {wa wb : WE} {pos : Pos} (ha : PE X a (lE X.K wa)) (hb : PE X (.BoolOp .And (b :: rest) pos) (lE X.K wb)) : PE X (.BoolOp .And (a :: b :: rest) pos) (lE X.K (wAndV wa wb)) := by
  refine PE_imp (pe_and ha hb) fun σ H Q h => ?_
  obtain ⟨Z, α, ρ, μ, Qd, E, S, w, P⟩ := h
  refine ⟨Z, α, ρ, μ, _, E, S, w, fun x μ1 α1 H1 v q1 e1 S1 r1 => ?_⟩
  cases x with
  | bl c =>
    cases c with
    | true => exact ⟨true, r1, ⟨Z, α1, ρ, μ1, Qd, E.ext S.lsts e1, S1, q1, P.on e1⟩⟩
    | false => exact ⟨false, r1, P _ _ _ _ _ q1 e1 S1 rfl⟩
  | _ => exact False.elim q1
theorem d_or {a b : Expr} {rest : List Expr} {wa wb : WE} {pos : Pos} (ha : PE X a (lE X.K wa)) (hb : PE X (.BoolOp .Or (b :: rest) pos) (lE X.K wb)) : PE X (.BoolOp .Or (a :: b :: rest) pos) (lE X.K (wOrV wa wb)) := by
  refine PE_imp (pe_or ha hb) fun σ H Q h => ?_
  obtain ⟨Z, α, ρ, μ, Qd, E, S, w, P⟩ := h
  refine ⟨Z, α, ρ, μ, _, E, S, w, fun x μ1 α1 H1 v q1 e1 S1 r1 => ?_⟩
  cases x with
  | bl c =>
    cases c with
    | false => exact ⟨false, r1, ⟨Z, α1, ρ, μ1, Qd, E.ext S.lsts e1, S1, q1, P.on e1⟩⟩
    | true => exact ⟨true, r1, P _ _ _ _ _ q1 e1 S1 rfl⟩
  | _ => exact False.elim q1
theorem d_not {a : Expr} {wa : WE} {pos : Pos} (ha : PE X a (lE X.K wa)) : PE X (.UnaryOp .Not a pos) (lE X.K (wNotV wa)) := by
  refine PE_imp (pe_not ha) fun σ H Q h => ?_
  obtain ⟨Z, α, ρ, μ, Qd, E, S, w, P⟩ := h
  refine ⟨Z, α, ρ, μ, _, E, S, w, fun x μ1 α1 H1 v q1 e1 S1 r1 => ?_⟩
  cases x with
  | bl c => exact ⟨c, r1, P _ _ _ _ _ q1 e1 S1 rfl⟩
  | _ => exact False.elim q1
def wIfE (t : WT) (a b : WE) : WE := fun ρ μ Q => t ρ μ fun c μ1 => if c = true then a ρ μ1 Q else b ρ μ1 Q
theorem d_if {t a b : Expr} {wt : WT} {wa wb : WE} {pos : Pos} (ht : PT X t (lT X.K wt)) (ha : PE X a (lE X.K wa)) (hb : PE X b (lE X.K wb)) : PE X (.IfExp t a b pos) (lE X.K (wIfE wt wa wb)) := by
  refine PE_imp (pe_ifExp ht ha hb) fun σ H Q h => ?_
  obtain ⟨Z, α, ρ, μ, Qd, E, S, w, P⟩ := h
  refine ⟨Z, α, ρ, μ, _, E, S, w, fun c μ1 α1 H1 q1 e1 S1 => ?_⟩
  cases c with
  | true => exact ⟨Z, α1, ρ, μ1, Qd, E.ext S.lsts e1, S1, q1, P.on e1⟩
  | false => exact ⟨Z, α1, ρ, μ1, Qd, E.ext S.lsts e1, S1, q1, P.on e1⟩

/-! ### argument lists, displays -/
def wNil : WA := fun _ μ Q => Q [] μ
def wCons (a : WE) (r : WA) : WA := fun ρ μ Q => a ρ μ fun x μ1 => r ρ μ1 fun xs μ2 => Q (x :: xs) μ2
theorem a_nil : PA X [] (lA X.K wNil) := PA_imp pa_nil fun σ H Q h => by
  obtain ⟨Z, α, ρ, μ, Qd, E, S, w, P⟩ := h
  exact P [] μ α H [] w Ext.refl S rfl
theorem cons_low {a : WE} {r : WA} {σ : L2.St} {H : Hp} {Q : List V → Hp → Prop} (h : lA X.K (wCons a r) σ H Q) : tCons (lE X.K a) (lA X.K r) σ H Q := by
  obtain ⟨Z, α, ρ, μ, Qd, E, S, w, P⟩ := h
  refine ⟨Z, α, ρ, μ, _, E, S, w, fun x μ1 α1 H1 v q1 e1 S1 r1 => ⟨Z, α1, ρ, μ1, _, E.ext S.lsts e1, S1, q1, fun xs μ2 α2 H2 us q2 e2 S2 r2 => ?_⟩⟩
  exact P _ _ _ _ _ q2 (e1.trans e2) S2 ⟨v, us, rfl, R_ext S1.lsts e2 x r1, r2⟩
theorem a_cons {e : Expr} {es : List Expr} {we : WE} {wa : WA} (h : PE X e (lE X.K we)) (hr : PA X es (lA X.K wa)) (hs : starEach (e :: es) X.env = (false, eval e X.env) :: starEach es X.env := by rfl) :
    PA X (e :: es) (lA X.K (wCons we wa)) := PA_imp (pa_cons h hr hs) fun _ _ _ h => cons_low h
theorem same_upd {H : Hp} {p : Addr} {o : HO} (h : H p = none) : ∀ a u, H a = some u → upd H p o a = some u := fun a u e => by
  rw [upd_ne (ne_of_none e h)]
  exact e
theorem StR.same {K : PySem.W.Frag} {Z : List Addr} {α : List Addr} {H H' : Hp} {μ : Sto} (S : StR K Z α H μ) (h : ∀ a o, H a = some o → H' a = some o) : StR K Z α H' μ :=
  ⟨S.len, S.nd, fun z hz => let ⟨⟨o, q⟩, n⟩ := S.hid z hz; ⟨⟨o, h z o q⟩, n⟩, fun n a c h1 h2 => let ⟨⟨o, vs, h3, hh, h4⟩, h5⟩ := S.cell n a c h1 h2; ⟨⟨o, vs, h a _ h3, hh, Rs_ext S.lsts (Ext.same h) _ h4⟩, h5⟩⟩
def wTup (r : WA) : WE := fun ρ μ Q => r ρ μ fun xs μ1 => xs.length ≤ sizeLine ∧ Q (.tup xs) μ1
/-- a written list that nobody changes -/
def wLst (r : WA) : WE := fun ρ μ Q => r ρ μ fun xs μ1 => xs.length ≤ sizeLine ∧ Q (.lst xs) μ1
/-- a written list that may be changed -/
def wNew (r : WA) : WE := fun ρ μ Q => r ρ μ fun xs μ1 => xs.length ≤ sizeLine ∧ belows μ1.length xs = true ∧ Q (.loc μ1.length) (μ1 ++ [xs])
theorem d_tup {es : List Expr} {w : WA} {k : Nat} {pos : Pos} (h : PA X es (lA X.K w)) : PE X (.Tuple es k pos) (lE X.K (wTup w)) := by
  refine PE_imp (pe_tup h) fun σ H Q h => ?_
  obtain ⟨Z, α, ρ, μ, Qd, E, S, w, P⟩ := h
  refine ⟨Z, α, ρ, μ, _, E, S, w, fun xs μ1 α1 H1 vs q1 e1 S1 r1 => ⟨by rw [← r1.len]; exact q1.1, fun p np => ?_⟩⟩
  refine P _ _ _ _ _ q1.2 (e1.trans (Ext.same (same_upd np))) (S1.same (same_upd np)) ⟨p, vs, rfl, SqT.of upd_same, Rs_ext S1.lsts (Ext.same (same_upd np)) xs r1⟩
theorem StR.fresh {K : PySem.W.Frag} {Z : List Addr} {α : List Addr} {H : Hp} {μ : Sto} (S : StR K Z α H μ) {p : Addr} (np : H p = none) : p ∉ α := fun z => by
  obtain ⟨vs, q, _⟩ := S.lsts p z
  rw [np] at q; cases q
theorem StR.freshZ {K : PySem.W.Frag} {Z : List Addr} {α : List Addr} {H : Hp} {μ : Sto} (S : StR K Z α H μ) {p : Addr} (np : H p = none) : p ∉ Z := fun z => by
  obtain ⟨⟨o, q⟩, _⟩ := S.hid p z
  rw [np] at q; cases q
theorem d_lst {es : List Expr} {w : WA} {pos : Pos} (h : PA X es (lA X.K w)) : PE X (.List es pos) (lE X.K (wLst w)) := by
  refine PE_imp (pe_lst h) fun σ H Q h => ?_
  obtain ⟨Z, α, ρ, μ, Qd, E, S, w, P⟩ := h
  refine ⟨Z, α, ρ, μ, _, E, S, w, fun xs μ1 α1 H1 vs q1 e1 S1 r1 => ⟨by rw [← r1.len]; exact q1.1, fun p np => ?_⟩⟩
  refine P _ _ _ _ _ q1.2 (e1.trans (Ext.same (same_upd np))) (S1.same (same_upd np)) ⟨p, vs, rfl, .inl ⟨S1.fresh np, S1.freshZ np, .inl upd_same⟩, Rs_ext S1.lsts (Ext.same (same_upd np)) xs r1⟩
/-- a new place -/
theorem StR.newC {K : PySem.W.Frag} {Z : List Addr} {α : List Addr} {H : Hp} {μ : Sto} (S : StR K Z α H μ) {p : Addr} {c : List D} {vs : List V} {ob : HO} (np : H p = none) (ho : HoR c vs ob) (r : Rs K Z α H (body c) vs) (hb : belows μ.length c = true) :
    Ext α H (α ++ [p]) (upd H p ob) ∧ StR K Z (α ++ [p]) (upd H p ob) (μ ++ [c]) ∧ (α ++ [p])[μ.length]? = some p := by
  have e : Ext α H (α ++ [p]) (upd H p ob) := ⟨fun a o h _ => same_upd np a o h, ⟨[p], rfl⟩, fun a ha => by
    rcases List.mem_append.mp ha with z | z
    · exact .inl z
    · rw [List.mem_singleton.mp z]; exact .inr np, fun a _ vs q => ⟨vs, same_upd np a _ q⟩⟩
  have at' : (α ++ [p])[μ.length]? = some p := by rw [← S.len]; simp
  refine ⟨e, ⟨by simp [S.len], ?_, fun z hz => ?_, fun n a c h1 h2 => ?_⟩, at'⟩
  · refine List.nodup_append.mpr ⟨S.nd, by simp, fun a ha b hb z => ?_⟩
    rw [List.mem_singleton.mp hb] at z
    exact S.fresh np (z ▸ ha)
  · obtain ⟨⟨o, q⟩, n⟩ := S.hid z hz
    refine ⟨⟨o, same_upd np z o q⟩, fun m => ?_⟩
    rcases List.mem_append.mp m with m | m
    · exact n m
    · rw [List.mem_singleton.mp m] at hz
      exact S.freshZ np hz
  · by_cases hn : n < α.length
    · rw [List.getElem?_append_left hn] at h1
      rw [List.getElem?_append_left (by rw [← S.len]; exact hn)] at h2
      obtain ⟨⟨o, us, h3, hh, h4⟩, h5⟩ := S.cell n a c h1 h2
      exact ⟨⟨o, us, same_upd np a _ h3, hh, Rs_ext S.lsts e _ h4⟩, h5⟩
    · have hn2 : n < (α ++ [p]).length := (List.getElem?_eq_some_iff.mp h1).1
      have hn3 : n = α.length := by simp at hn2; omega
      subst hn3
      rw [S.len] at h1 h2
      rw [at'] at h1
      cases h1
      simp at h2
      subst h2
      exact ⟨⟨ob, vs, upd_same, ho, Rs_ext S.lsts e _ r⟩, by rw [S.len]; exact hb⟩
theorem StR.new {K : PySem.W.Frag} {Z : List Addr} {α : List Addr} {H : Hp} {μ : Sto} (S : StR K Z α H μ) {p : Addr} {xs : List D} {vs : List V} (np : H p = none) (r : Rs K Z α H xs vs) (hb : belows μ.length xs = true) :
    Ext α H (α ++ [p]) (upd H p (.lst vs)) ∧ StR K Z (α ++ [p]) (upd H p (.lst vs)) (μ ++ [xs]) ∧ R K Z (α ++ [p]) (upd H p (.lst vs)) (.loc μ.length) (.ref p) := by
  obtain ⟨e, S', at'⟩ := S.newC (c := xs) np ((plain_ho r.plain).mpr rfl) (by rw [plain_body r.plain]; exact r) hb
  exact ⟨e, S', ⟨p, rfl, at', vs, upd_same⟩⟩
theorem d_new {es : List Expr} {w : WA} {pos : Pos} (h : PA X es (lA X.K w)) : PE X (.List es pos) (lE X.K (wNew w)) := by
  refine PE_imp (pe_lst h) fun σ H Q h => ?_
  obtain ⟨Z, α, ρ, μ, Qd, E, S, w, P⟩ := h
  refine ⟨Z, α, ρ, μ, _, E, S, w, fun xs μ1 α1 H1 vs q1 e1 S1 r1 => ⟨by rw [← r1.len]; exact q1.1, fun p np => ?_⟩⟩
  obtain ⟨q, q2, q3⟩ := q1
  obtain ⟨k1, k2, k3⟩ := S1.new np r1 q2
  exact P _ _ _ _ _ q3 (e1.trans k1) k2 k3

/-! ### calls -/
def DCall (X : Cx) (f : Value) (w : WF) : Prop := CallR X f (lC X.K w)
def wCall (F : WF) (t : WA) : WE := fun ρ μ Q => t ρ μ fun xs μ1 => F xs μ1 Q
theorem call_low {F : WF} {t : WA} {σ : L2.St} {H : Hp} {Q : VK} (h : lE X.K (wCall F t) σ H Q) : lA X.K t σ H (fun vs H1 => lC X.K F vs H1 Q) := by
  obtain ⟨Z, α, ρ, μ, Qd, E, S, w, P⟩ := h
  exact ⟨Z, α, ρ, μ, _, E, S, w, fun xs μ1 α1 H1 vs q1 e1 S1 r1 => ⟨Z, α1, xs, μ1, Qd, S1, r1, q1, P.on e1⟩⟩
/-- a built-in function by its name -/
theorem d_b {x : Str} {p pos : Pos} {e : Expr} {es : List Expr} {w : WA} {id : String} {F : WF} (hc : DCall X (.builtin id) F) (hg : Gl X x) (hm : X.mg x = none) (hv : bootBuiltins x = some (.builtin id)) (ha : PA X (e :: es) (lA X.K w)) (hn : x ≠ "__name__" := by decide) (hdb : (x == ("__debug__" : Str)) = false := by decide)
    (he : starEach (e :: es) X.env = (false, eval e X.env) :: starEach es X.env := by rfl) (hpl : (backTo pos (starEach es X.env)).any (·.1) = false := by rfl) : PE X (.Call (.Name x p) (e :: es) [] pos) (lE X.K (wCall F w)) :=
  PE_imp (pe_callB hc hg hm hv ha hn hdb he hpl) fun _ _ _ h => call_low h
theorem d_ty {x : Str} {p pos : Pos} {e : Expr} {es : List Expr} {w : WA} {T : String} {F : WF} (hc : DCall X (.type T) F) (hg : Gl X x) (hm : X.mg x = none) (hv : bootBuiltins x = some (.type T)) (ha : PA X (e :: es) (lA X.K w)) (hn : x ≠ "__name__" := by decide) (hdb : (x == ("__debug__" : Str)) = false := by decide)
    (he : starEach (e :: es) X.env = (false, eval e X.env) :: starEach es X.env := by rfl) (hpl : (backTo pos (starEach es X.env)).any (·.1) = false := by rfl) : PE X (.Call (.Name x p) (e :: es) [] pos) (lE X.K (wCall F w)) :=
  PE_imp (pe_callTy hc hg hm hv ha hn hdb he hpl) fun _ _ _ h => call_low h
/-- an own def -/
theorem d_call {k : Nat} {f : Addr} {fd : FuncData} {ps : List Str} {F : WF} {x : Str} {p pos : Pos} {e : Expr} {es : List Expr} {w : WA} (G : FnOk X.prog X.w X.K X.mg X.base CX0 k f fd ps (lF X.K F)) (hr : Room k X.A) (hg : Gl X x) (hm : X.mg x = some (.ref f)) (hk : PySem.W.keepIn X.K (.ref f) = true) (hb : Binds X.K fd ps [])
    (ha : PA X (e :: es) (lA X.K w)) (hdb : (x == ("__debug__" : Str)) = false := by decide) (he : starEach (e :: es) X.env = (false, eval e X.env) :: starEach es X.env := by rfl) (hpl : (backTo pos (starEach es X.env)).any (·.1) = false := by rfl) :
    PE X (.Call (.Name x p) (e :: es) [] pos) (lE X.K (wCall F w)) := by
  refine PE_imp (pe_call G hr hg hm hk hb .nil pass0 ha hdb he hpl) fun σ H Q h => ?_
  show lA X.K w σ H (fun vs H1 => lF X.K F (vs ++ []) H1 Q E0)
  have e1 : (fun (vs : List V) (H1 : Hp) => lF X.K F (vs ++ []) H1 Q E0) = fun vs H1 => lC X.K F vs H1 Q := by
    funext vs H1
    rw [List.append_nil]
    rfl
  rw [e1]
  exact call_low h
end
end Dw
end
section
set_option Elab.async false
set_option linter.all false
set_option maxRecDepth 100000
set_option maxHeartbeats 4000000
namespace Dw
open PySem PySem.Spec PyProof.Rows L2

/-! ### hiding one more address -/
section
variable {K : PySem.W.Frag} {Z Z' α α' : List Addr} {H H' : Hp} {μ : Sto}
mutual
theorem R_extZ (L : Mut α H) (e : Ext α H α' H') (hz : ∀ z ∈ Z', z ∈ Z ∨ H z = none) : ∀ (d : D) {v : V}, R K Z α H d v → R K Z' α' H' d v
  | .non, _, h => by simp only [R] at h ⊢; exact h
  | .bl _, _, h => by simp only [R] at h ⊢; exact h
  | .int _, _, h => by simp only [R] at h ⊢; exact h
  | .str _, _, h => by simp only [R] at h ⊢; exact h
  | .tup ds, _, h => by
    simp only [R] at h ⊢
    obtain ⟨a, vs, h1, h2, h3⟩ := h
    exact ⟨a, vs, h1, e.sqT L h2, Rs_extZ L e hz ds h3⟩
  | .lst ds, _, h => by
    simp only [R] at h ⊢
    obtain ⟨a, vs, h1, h2, h4⟩ := h
    refine ⟨a, vs, h1, ?_, Rs_extZ L e hz ds h4⟩
    rcases h2 with ⟨h2, h5, h3⟩ | h2
    · have ne : H a ≠ none := by rcases h3 with h3 | ⟨o, h3⟩ <;> rw [h3] <;> exact fun z => nomatch z
      refine .inl ⟨fun z => ?_, fun z => ?_, e.rd L h3 h2⟩
      · rcases h3 with h3 | ⟨o, h3⟩ <;> exact e.out h3 h2 z
      · rcases hz a z with q | q
        · exact h5 q
        · exact ne q
    · exact .inr h2
  | .loc n, _, h => by
    simp only [R] at h ⊢
    obtain ⟨a, h1, h2⟩ := h
    exact ⟨a, h1, e.loc h2⟩
  | .ob n, _, h => by
    simp only [R] at h ⊢
    obtain ⟨a, h1, h2⟩ := h
    exact ⟨a, h1, e.get h2⟩
  | .obj C ns ds, _, h => by
    simp only [R] at h ⊢
    obtain ⟨a, vs, h1, ⟨h2, h5, h6, dx, h3⟩, h4⟩ := h
    refine ⟨a, vs, h1, ⟨e.out h3 h2, fun z => ?_, h6, dx, e.keep a _ h3 h2⟩, Rs_extZ L e hz ds h4⟩
    rcases hz a z with q | q
    · exact h5 q
    · rw [h3] at q; cases q
  | .cls _ _, _, h => by simp only [R] at h
theorem Rs_extZ (L : Mut α H) (e : Ext α H α' H') (hz : ∀ z ∈ Z', z ∈ Z ∨ H z = none) : ∀ (ds : List D) {vs : List V}, Rs K Z α H ds vs → Rs K Z' α' H' ds vs
  | [], _, h => by simp only [Rs] at h ⊢; exact h
  | d :: ds, _, h => by
    simp only [Rs] at h ⊢
    obtain ⟨v, r, h1, h2, h3⟩ := h
    exact ⟨v, r, h1, R_extZ L e hz d h2, Rs_extZ L e hz ds h3⟩
end
theorem EnvR.extZ {ρ : Env} {σ : L2.St} (E : EnvR K Z α H ρ σ) (L : Mut α H) (e : Ext α H α' H') (hz : ∀ z ∈ Z', z ∈ Z ∨ H z = none) : EnvR K Z' α' H' ρ σ :=
  ⟨E.len, fun i d h => let ⟨v, h1, h2⟩ := E.get i d h; ⟨v, h1, R_extZ L e hz d h2⟩⟩
theorem StR.less (S : StR K Z' α H μ) (hz : ∀ z ∈ Z, z ∈ Z') : StR K Z α H μ :=
  ⟨S.len, S.nd, fun z h => S.hid z (hz z h), fun n a c h1 h2 => let ⟨⟨o, vs, h3, hh, h4⟩, h5⟩ := S.cell n a c h1 h2; ⟨⟨o, vs, h3, hh, Rs_extZ S.lsts Ext.refl (fun z h => .inl (hz z h)) _ h4⟩, h5⟩⟩
/-- what is below n needs the first n places alone -/
theorem take_get {n m : Nat} {a : Addr} (h : α[m]? = some a) (hm : m < n) : (α.take n)[m]? = some a := by
  rw [List.getElem?_take, if_pos hm]
  exact h
mutual
theorem R_down (n : Nat) : ∀ (d : D) {v : V}, below n d = true → R K Z α H d v → R K Z (α.take n) H d v
  | .non, _, _, h => by simp only [R] at h ⊢; exact h
  | .bl _, _, _, h => by simp only [R] at h ⊢; exact h
  | .int _, _, _, h => by simp only [R] at h ⊢; exact h
  | .str _, _, _, h => by simp only [R] at h ⊢; exact h
  | .tup ds, _, b, h => by
    simp only [R, below] at b h ⊢
    obtain ⟨a, vs, h1, h2, h3⟩ := h
    exact ⟨a, vs, h1, h2, Rs_down n ds b h3⟩
  | .lst ds, _, b, h => by
    simp only [R, below] at b h ⊢
    obtain ⟨a, vs, h1, h2, h4⟩ := h
    refine ⟨a, vs, h1, ?_, Rs_down n ds b h4⟩
    rcases h2 with ⟨h2, h5, h3⟩ | h2
    · exact .inl ⟨fun z => h2 (List.mem_of_mem_take z), h5, h3⟩
    · exact .inr h2
  | .loc m, _, b, h => by
    simp only [R, below, decide_eq_true_eq] at b h ⊢
    obtain ⟨a, h1, h2⟩ := h
    exact ⟨a, h1, take_get h2.1 b, h2.2⟩
  | .ob m, _, b, h => by
    simp only [R, below, decide_eq_true_eq] at b h ⊢
    obtain ⟨a, h1, h2⟩ := h
    exact ⟨a, h1, take_get h2 b⟩
  | .obj C ns ds, _, b, h => by
    simp only [R, below] at b h ⊢
    obtain ⟨a, vs, h1, ⟨h2, h5, h3⟩, h4⟩ := h
    exact ⟨a, vs, h1, ⟨fun z => h2 (List.mem_of_mem_take z), h5, h3⟩, Rs_down n ds b h4⟩
  | .cls _ _, _, _, h => by simp only [R] at h
theorem Rs_down (n : Nat) : ∀ (ds : List D) {vs : List V}, belows n ds = true → Rs K Z α H ds vs → Rs K Z (α.take n) H ds vs
  | [], _, _, h => by simp only [Rs] at h ⊢; exact h
  | d :: ds, _, b, h => by
    simp only [Rs, belows, Bool.and_eq_true] at b h ⊢
    obtain ⟨v, r, h1, h2, h3⟩ := h
    exact ⟨v, r, h1, R_down n d b.1 h2, Rs_down n ds b.2 h3⟩
end
theorem StR.cut (S : StR K Z α H μ) (n : Nat) : StR K Z (α.take n) H (μ.take n) := by
  refine ⟨by rw [List.length_take, List.length_take, S.len], (List.take_sublist n α).nodup S.nd, fun z h => let ⟨q, m⟩ := S.hid z h; ⟨q, fun x => m (List.mem_of_mem_take x)⟩, fun m a c h1 h2 => ?_⟩
  have hm : m < n := by
    have := (List.getElem?_eq_some_iff.mp h1).1
    rw [List.length_take] at this
    omega
  rw [List.getElem?_take, if_pos hm] at h1 h2
  obtain ⟨⟨o, vs, h3, hh, h4⟩, h5⟩ := S.cell m a c h1 h2
  exact ⟨⟨o, vs, h3, hh, Rs_down n _ (belows_mono (Nat.le_of_lt hm) _ (belows_body h5)) h4⟩, h5⟩
theorem EnvR.put {ρ : Env} {σ : L2.St} {d : D} {v : V} (E : EnvR K Z α H ρ σ) (r : R K Z α H d v) (i : Nat) : EnvR K Z α H (ρ.set i (some d)) (σ.set i (some v)) := by
  refine ⟨by rw [List.length_set, List.length_set, E.len], fun j e h => ?_⟩
  by_cases hj : i = j
  · subst hj
    by_cases hi : i < ρ.length
    · rw [List.getElem?_set_self hi] at h
      cases h
      exact ⟨v, List.getElem?_set_self (by rw [← E.len]; exact hi), r⟩
    · rw [List.getElem?_eq_none_iff.mpr (by rw [List.length_set]; omega)] at h
      cases h
  · rw [List.getElem?_set_ne hj] at h
    obtain ⟨w, h1, h2⟩ := E.get j e h
    exact ⟨w, by rw [List.getElem?_set_ne hj]; exact h1, h2⟩
end

/-! ### targets that store names alone -/
abbrev WG := D → Env → (Env → Prop) → Prop
abbrev WGs := List D → Env → (Env → Prop) → Prop
def TgL (K : PySem.W.Frag) (g : WG) (g0 : TG) : Prop := ∀ Z α ρ μ σ H d v Nd Q, EnvR K Z α H ρ σ → StR K Z α H μ → R K Z α H d v → g d ρ Nd → (∀ ρ' σ', Nd ρ' → EnvR K Z α H ρ' σ' → Q σ' H) → g0 v σ H Q
def TgLs (K : PySem.W.Frag) (g : WGs) (g0 : TGs) : Prop := ∀ Z α ρ μ σ H ds vs Nd Q, EnvR K Z α H ρ σ → StR K Z α H μ → Rs K Z α H ds vs → g ds ρ Nd → (∀ ρ' σ', Nd ρ' → EnvR K Z α H ρ' σ' → Q σ' H) → g0 vs σ H Q
def Only' (vs : List Nat) (g0 : TG) : Prop := ∀ v σ H Q, g0 v σ H Q → g0 v σ H fun σ' H' => wipe σ' vs = wipe σ vs ∧ Q σ' H'
def Onlys (vs : List Nat) (g0 : TGs) : Prop := ∀ us σ H Q, g0 us σ H Q → g0 us σ H fun σ' H' => wipe σ' vs = wipe σ vs ∧ Q σ' H'
def gN (i : Nat) : WG := fun d ρ N => N (ρ.set i (some d))
def gsNil : WGs := fun ds ρ N => ds = [] ∧ N ρ
def gsCons (g : WG) (r : WGs) : WGs := fun ds ρ N => match ds with | d :: ds => g d ρ fun ρ' => r ds ρ' N | [] => False
def gT (n : Nat) (g : WGs) : WG := fun d ρ N => match d with | .tup ds => ds.length = n ∧ g ds ρ N | _ => False
theorem tg_n {K : PySem.W.Frag} {i : Nat} : TgL K (gN i) (gName i) := fun Z α ρ μ σ H d v Nd Q E S r h k => k _ _ h (E.put r i)
theorem tgs_nil {K : PySem.W.Frag} : TgLs K gsNil gNil := fun Z α ρ μ σ H ds vs Nd Q E S r h k => by
  obtain ⟨rfl, h⟩ := h
  exact ⟨r, k _ _ h E⟩
theorem tgs_cons {K : PySem.W.Frag} {g : WG} {g0 : TG} {r : WGs} {r0 : TGs} (h1 : TgL K g g0) (h2 : TgLs K r r0) : TgLs K (gsCons g r) (gCons g0 r0) := fun Z α ρ μ σ H ds vs Nd Q E S q h k => by
  cases ds with
  | nil => exact False.elim h
  | cons d ds =>
    obtain ⟨v, us, rfl, q1, q2⟩ := q
    exact ⟨v, us, rfl, h1 Z α ρ μ σ H d v _ _ E S q1 h fun ρ' σ' h' E' => h2 Z α ρ' μ σ' H ds us Nd Q E' S q2 h' k⟩
theorem tg_t {K : PySem.W.Frag} {n : Nat} {g : WGs} {g0 : TGs} (h1 : TgLs K g g0) : TgL K (gT n g) (gTup K n g0) := fun Z α ρ μ σ H d v Nd Q E S r h k => by
  cases d with
  | tup ds =>
    obtain ⟨a, vs, e, h2, h3⟩ := r
    obtain ⟨h4, h5⟩ := h
    exact ⟨a, vs, e, h2, by rw [← h3.len]; exact h4, h1 Z α ρ μ σ H ds vs Nd Q E S h3 h5 k⟩
  | _ => exact False.elim h
theorem wipe_set {vs : List Nat} {i : Nat} {x : Option V} (σ : L2.St) (h : i ∈ vs) : wipe (σ.set i x) vs = wipe σ vs := by
  have g : ∀ (l : List Nat) (τ : L2.St), i ∉ l → wipe (τ.set i x) l = (wipe τ l).set i x := fun l => by
    induction l with
    | nil => intro τ _; rfl
    | cons v l ih =>
      intro τ hn
      show (wipe (τ.set i x) l).set v none = ((wipe τ l).set v none).set i x
      rw [ih τ (fun z => hn (List.mem_cons_of_mem _ z)), List.set_comm _ _ (fun z => hn (by rw [z]; exact List.mem_cons_self))]
  have s : ∀ (l : List Nat) (τ : L2.St), i ∈ l → wipe (τ.set i x) l = wipe τ l := fun l => by
    induction l with
    | nil => intro τ hn; cases hn
    | cons v l ih =>
      intro τ hn
      show (wipe (τ.set i x) l).set v none = (wipe τ l).set v none
      by_cases m : i ∈ l
      · rw [ih τ m]
      · have e : i = v := (List.mem_cons.mp hn).resolve_right m
        rw [g l τ m, e, List.set_set]
  exact s vs σ h
theorem wipe_wipe (σ : L2.St) (vs : List Nat) : wipe (wipe σ vs) vs = wipe σ vs := by
  have g : ∀ l : List Nat, (∀ v ∈ l, v ∈ vs) → wipe (wipe σ l) vs = wipe σ vs := fun l => by
    induction l with
    | nil => intro _; rfl
    | cons v l ih =>
      intro h
      show wipe ((wipe σ l).set v none) vs = wipe σ vs
      rw [wipe_set _ (h v List.mem_cons_self), ih fun w hw => h w (List.mem_cons_of_mem _ hw)]
  exact g vs fun _ h => h
theorem only_n {vs : List Nat} {i : Nat} (h : i ∈ vs) : Only' vs (gName i) := fun v σ H Q q => ⟨wipe_set σ h, q⟩
theorem onlys_nil {vs : List Nat} : Onlys vs gNil := fun us σ H Q q => ⟨q.1, rfl, q.2⟩
/-- a target goes on as what follows it goes on -/
def MonG (g0 : TG) : Prop := ∀ v σ H Q Q', (∀ σ' H', Q σ' H' → Q' σ' H') → g0 v σ H Q → g0 v σ H Q'
def MonGs (g0 : TGs) : Prop := ∀ v σ H Q Q', (∀ σ' H', Q σ' H' → Q' σ' H') → g0 v σ H Q → g0 v σ H Q'
theorem mon_n {i : Nat} : MonG (gName i) := fun v σ H Q Q' k q => k _ _ q
theorem mons_nil : MonGs gNil := fun v σ H Q Q' k q => ⟨q.1, k _ _ q.2⟩
theorem mons_cons {g0 : TG} {r0 : TGs} (h1 : MonG g0) (h2 : MonGs r0) : MonGs (gCons g0 r0) := fun us σ H Q Q' k q => by
  obtain ⟨v, r, e, q⟩ := q
  exact ⟨v, r, e, h1 v σ H _ _ (fun σ' H' q' => h2 r σ' H' _ _ k q') q⟩
theorem onlys_cons {vs : List Nat} {g0 : TG} {r0 : TGs} (h1 : Only' vs g0) (m1 : MonG g0) (h2 : Onlys vs r0) (m2 : MonGs r0) : Onlys vs (gCons g0 r0) := fun us σ H Q q => by
  obtain ⟨v, r, e, q⟩ := q
  refine ⟨v, r, e, m1 v σ H _ _ (fun σ' H' q' => ?_) (h1 v σ H _ q)⟩
  exact m2 r σ' H' _ _ (fun σ2 H2 q2 => ⟨q2.1.trans q'.1, q2.2⟩) (h2 r σ' H' _ q'.2)
theorem only_t {vs : List Nat} {K : PySem.W.Frag} {n : Nat} {g0 : TGs} (h : Onlys vs g0) : Only' vs (gTup K n g0) := fun v σ H Q q => by
  obtain ⟨a, xs, e, h1, h2, q⟩ := q
  exact ⟨a, xs, e, h1, h2, h xs σ H Q q⟩

/-! ### statements -/
def wNext : WS := fun D ρ μ => D.nx ρ μ
def wSeq (t u : WS) : WS := fun D ρ μ => t { D with nx := u D } ρ μ
def wAsg (w : WE) (g : WG) : WS := fun D ρ μ => w ρ μ fun d μ1 => g d ρ fun ρ' => D.nx ρ' μ1
def wPar (i j : Nat) (t : WA) : WS := fun D ρ μ => t ρ μ fun xs μ1 => match xs with | [a, b] => D.nx ((ρ.set i (some a)).set j (some b)) μ1 | _ => False
def wDrop (w : WE) : WS := fun D ρ μ => w ρ μ fun _ μ1 => D.nx ρ μ1
def wRet (w : WE) : WS := fun D ρ μ => w ρ μ D.rt
def wRetN : WS := fun D _ μ => D.rt .non μ
def wIf (c : WT) (t u : WS) : WS := fun D ρ μ => c ρ μ fun b μ1 => if b = true then t D ρ μ1 else u D ρ μ1
def wBreak : WS := fun D ρ μ => D.bk ρ μ
def wCont : WS := fun D ρ μ => D.ct ρ μ
def wAug (i : Nat) (w : WE) (r : W2) : WS := fun D ρ μ => match ρ[i]? with
  | some (some x) => w ρ μ fun y μ1 => r x y μ1 fun z μ2 => D.nx (ρ.set i (some z)) μ2
  | _ => False
section
variable {X : Cx}
theorem ss_nil : PSs X [] (lS X.K wNext) := PSs_imp pss_nil fun D σ H h => by
  obtain ⟨Z, α, ρ, μ, Dd, E, S, w, P, _⟩ := h
  exact P ρ μ α H σ w Ext.refl S E
theorem ss_cons {st : Stmt} {rest : List Stmt} {t u : WS} (h1 : PS X st (lS X.K t)) (h2 : PSs X rest (lS X.K u)) : PSs X (st :: rest) (lS X.K (wSeq t u)) := PSs_imp (pss_cons h1 h2) fun D σ H h => by
  obtain ⟨Z, α, ρ, μ, Dd, E, S, w, P, P2, P3, P4⟩ := h
  exact ⟨Z, α, ρ, μ, _, E, S, w, fun ρ1 μ1 α1 H1 σ1 q1 e1 S1 E1 => ⟨Z, α1, ρ1, μ1, Dd, E1, S1, q1, P.on e1, P2.on e1, P3.on e1, P4.on e1⟩, P2, P3, P4⟩
theorem ss_one {st : Stmt} {t : WS} (h1 : PS X st (lS X.K t)) : PSs X [st] (lS X.K t) := pss_one h1
theorem s_pass {pos} : PS X (.Pass pos) (lS X.K wNext) := PS_imp ps_pass fun D σ H h => by
  obtain ⟨Z, α, ρ, μ, Dd, E, S, w, P, _⟩ := h
  exact P ρ μ α H σ w Ext.refl S E
theorem s_break {pos} : PS X (.Break pos) (lS X.K wBreak) := PS_imp ps_break fun D σ H h => by
  obtain ⟨Z, α, ρ, μ, Dd, E, S, w, _, _, P, _⟩ := h
  exact P ρ μ α H σ w Ext.refl S E
theorem s_cont {pos} : PS X (.Continue pos) (lS X.K wCont) := PS_imp ps_continue fun D σ H h => by
  obtain ⟨Z, α, ρ, μ, Dd, E, S, w, _, _, _, P⟩ := h
  exact P ρ μ α H σ w Ext.refl S E
theorem asg_low {w : WE} {g : WG} {g0 : TG} (tg : TgL X.K g g0) {D : Ends} {σ : L2.St} {H : Hp} (h : lS X.K (wAsg w g) D σ H) : tAsg (lE X.K w) g0 D σ H := by
  obtain ⟨Z, α, ρ, μ, Dd, E, S, w, P, P2, P3, P4⟩ := h
  exact ⟨Z, α, ρ, μ, _, E, S, w, fun d μ1 α1 H1 v q1 e1 S1 r1 => tg Z α1 ρ μ1 σ H1 d v _ _ (E.ext S.lsts e1) S1 r1 q1 fun ρ' σ' q' E' => P ρ' μ1 α1 H1 σ' q' e1 S1 E'⟩
theorem s_set {i : Nat} {x : Str} {e : Expr} {w : WE} {pos pos' : Pos} (hN : X.N.Nodup) (hi : X.N[i]? = some x) (hx : Loc X.env.scope x) (he : PE X e (lE X.K w)) (hs : swapsWith e (some (.Name x pos')) pos.line X.env = pure false := by rfl) (hf : X.fn x = true ∨ X.env.scope.names.lookup x = some .local := by first | exact .inl rfl | exact .inr rfl | assumption) :
    PS X (.Assign [.Name x pos'] e pos) (lS X.K (wAsg w (gN i))) := PS_imp (ps_set hN hi hx he hs hf) fun _ _ _ h => asg_low tg_n h
theorem s_asg {tg e : Expr} {w : WE} {g : WG} {g0 : TG} {pos : Pos} (he : PE X e (lE X.K w)) (hg : PG X tg g0) (hl : TgL X.K g g0) (hs : swapsWithSole [tg] e pos.line X.env = pure false := by rfl) (hw : swappedStores [tg] e X.env = pure none := by rfl)
    (h1 : (assignEach [tg] X.env).map (·.2) = [assign tg X.env] := by rfl) : PS X (.Assign [tg] e pos) (lS X.K (wAsg w g)) := PS_imp (ps_asg he hg hs hw h1) fun _ _ _ h => asg_low hl h
theorem s_par {i j : Nat} {x y : Str} {a b : Expr} {t : WA} {px py pt pos : Pos} {kt k2 pt2} (hc : X.calm = true) (hN : X.N.Nodup) (hi : X.N[i]? = some x) (hj : X.N[j]? = some y) (hij : i ≠ j)
    (hx : X.env.scope.names.lookup x = some .local) (hy : X.env.scope.names.lookup y = some .local) (ha : PA X [a, b] (lA X.K t))
    (hw : swappedStores [.Tuple [.Name x px, .Name y py] kt pt] (.Tuple [a, b] k2 pt2) X.env = pure (some [x, y]))
    (hs : swapsWithSole [.Tuple [.Name x px, .Name y py] kt pt] (.Tuple [a, b] k2 pt2) pos.line X.env = pure false := by rfl) :
    PS X (.Assign [.Tuple [.Name x px, .Name y py] kt pt] (.Tuple [a, b] k2 pt2) pos) (lS X.K (wPar i j t)) := PS_imp (ps_par hc hN hi hj hij hx hy ha hw hs) fun D σ H h => by
  obtain ⟨Z, α, ρ, μ, Dd, E, S, w, P, P2, P3, P4⟩ := h
  refine ⟨Z, α, ρ, μ, _, E, S, w, fun xs μ1 α1 H1 vs q1 e1 S1 r1 => ?_⟩
  match xs, q1, r1 with
  | [c, d], q1, r1 =>
    obtain ⟨v, us, rfl, r2, r3⟩ := r1
    obtain ⟨u, us2, rfl, r4, r5⟩ := r3
    obtain rfl : us2 = [] := r5
    exact ⟨v, u, rfl, P _ μ1 α1 H1 _ q1 e1 S1 (((E.ext S.lsts e1).put r2 i).put r4 j)⟩
theorem s_drop {e : Expr} {w : WE} {pos : Pos} (he : PE X e (lE X.K w)) (hs : swapsWith e none pos.line X.env = pure false := by rfl) : PS X (.Expr e pos) (lS X.K (wDrop w)) := PS_imp (ps_expr he hs) fun D σ H h => by
  obtain ⟨Z, α, ρ, μ, Dd, E, S, w, P, P2, P3, P4⟩ := h
  exact ⟨Z, α, ρ, μ, _, E, S, w, fun d μ1 α1 H1 v q1 e1 S1 r1 => P ρ μ1 α1 H1 σ q1 e1 S1 (E.ext S.lsts e1)⟩
theorem s_ret {e : Expr} {w : WE} {pos : Pos} (he : PE X e (lE X.K w)) : PS X (.Return (some e) pos) (lS X.K (wRet w)) := PS_imp (ps_ret he) fun D σ H h => by
  obtain ⟨Z, α, ρ, μ, Dd, E, S, w, P, P2, P3, P4⟩ := h
  exact ⟨Z, α, ρ, μ, _, E, S, w, P2⟩
theorem s_retN {pos : Pos} : PS X (.Return none pos) (lS X.K wRetN) := PS_imp ps_retN fun D σ H h => by
  obtain ⟨Z, α, ρ, μ, Dd, E, S, w, P, P2, P3, P4⟩ := h
  exact P2 .non μ α H .non w Ext.refl S rfl
theorem s_if {c : Expr} {a b : List Stmt} {wc : WT} {t u : WS} {pos : Pos} (hc : PT X c (lT X.K wc)) (ha : PSs X a (lS X.K t)) (hb : PSs X b (lS X.K u)) : PS X (.If c a b pos) (lS X.K (wIf wc t u)) := PS_imp (ps_if hc ha hb) fun D σ H h => by
  obtain ⟨Z, α, ρ, μ, Dd, E, S, w, P, P2, P3, P4⟩ := h
  refine ⟨Z, α, ρ, μ, _, E, S, w, fun c μ1 α1 H1 q1 e1 S1 => ?_⟩
  cases c with
  | true => exact ⟨Z, α1, ρ, μ1, Dd, E.ext S.lsts e1, S1, q1, P.on e1, P2.on e1, P3.on e1, P4.on e1⟩
  | false => exact ⟨Z, α1, ρ, μ1, Dd, E.ext S.lsts e1, S1, q1, P.on e1, P2.on e1, P3.on e1, P4.on e1⟩
theorem s_aug {i : Nat} {x : Str} {e : Expr} {op : Operator} {w : WE} {r : W2} {pos pos' : Pos} (hN : X.N.Nodup) (hi : X.N[i]? = some x) (hx : Loc X.env.scope x) (he : PE X e (lE X.K w)) (ho : DOp X (inplaceOp op) r) (hf : X.fn x = true ∨ X.env.scope.names.lookup x = some .local := by first | exact .inl rfl | exact .inr rfl | assumption) :
    PS X (.AugAssign (.Name x pos') op e pos) (lS X.K (wAug i w r)) := PS_imp (ps_aug hN hi hx he ho hf) fun D σ H h => by
  obtain ⟨Z, α, ρ, μ, Dd, E, S, w, P, P2, P3, P4⟩ := h
  unfold wAug at w
  split at w
  · rename_i d e1
    obtain ⟨v, e2, rv⟩ := E.get i d e1
    refine ⟨v, e2, Z, α, ρ, μ, _, E, S, w, fun y μ1 α1 H1 u q1 f1 S1 r1 => ⟨Z, α1, μ1, d, y, _, S1, R_ext S.lsts f1 d rv, r1, q1, fun z μ2 α2 H2 t q2 f2 S2 r2 => ?_⟩⟩
    exact P _ μ2 α2 H2 _ q2 (f1.trans f2) S2 ((E.ext S.lsts (f1.trans f2)).put r2 i)
  · exact w.elim
/-- o[i] = e : e first, then o, i -/
def wPut (wo wi we : WE) (r : D → D → D → Sto → (Sto → Prop) → Prop) : WS := fun D ρ μ => we ρ μ fun d μ1 => wo ρ μ1 fun o μ2 => wi ρ μ2 fun i μ3 => r o i d μ3 fun μ4 => D.nx ρ μ4
def rPut : D → D → D → Sto → (Sto → Prop) → Prop := fun o i d μ Q => match o, i with
  | .loc n, .int k => ∃ c j, μ[n]? = some c ∧ ixN c.length k = some j ∧ below n d = true ∧ Q (μ.set n (c.set j d))
  | _, _ => False
theorem Ext.at {α : List Addr} {H : Hp} {a : Addr} {o : HO} (h : a ∈ α) (hk : ∀ vs, H a = some (.lst vs) → ∃ us, o = .lst us) : Ext α H α (upd H a o) :=
  ⟨fun b u e n => by rw [upd_ne (fun z => n (by rw [z]; exact h))]; exact e, ⟨[], by simp⟩, fun _ q => .inl q, fun b _ vs q => by
    by_cases z : b = a
    · subst z
      obtain ⟨us, rfl⟩ := hk vs q
      exact ⟨us, upd_same⟩
    · exact ⟨vs, by rw [upd_ne z]; exact q⟩⟩
theorem Ext.atL {α : List Addr} {H : Hp} {a : Addr} {vs : List V} (h : a ∈ α) : Ext α H α (upd H a (.lst vs)) := Ext.at h fun _ _ => ⟨vs, rfl⟩
theorem belows_set {n : Nat} {d : D} (h : below n d = true) : ∀ (c : List D) (j : Nat), belows n c = true → belows n (c.set j d) = true
  | [], _, b => b
  | _ :: _, 0, b => by simp only [belows, List.set_cons_zero, Bool.and_eq_true] at b ⊢; exact ⟨h, b.2⟩
  | _ :: c, j + 1, b => by simp only [belows, List.set_cons_succ, Bool.and_eq_true] at b ⊢; exact ⟨b.1, belows_set h c j b.2⟩
/-- a place is changed -/
theorem StR.writeC {K : PySem.W.Frag} {Z α : List Addr} {H : Hp} {μ : Sto} (S : StR K Z α H μ) {n : Nat} {a : Addr} {c : List D} {vs : List V} {ob : HO} (h1 : α[n]? = some a) (hk : ∀ vs, H a = some (.lst vs) → ∃ us, ob = .lst us) (ho : HoR c vs ob) (hr : Rs K Z α H (body c) vs) (hb : belows n c = true) : StR K Z α (upd H a ob) (μ.set n c) := by
  have ha : a ∈ α := List.mem_of_getElem? h1
  refine ⟨by rw [List.length_set]; exact S.len, S.nd, fun z hz => ?_, fun m b e h3 h4 => ?_⟩
  · obtain ⟨⟨o, q⟩, k⟩ := S.hid z hz
    exact ⟨⟨o, by rw [upd_ne (fun w => k (by rw [w]; exact ha))]; exact q⟩, k⟩
  · by_cases hm : n = m
    · subst hm
      rw [h1] at h3
      cases h3
      have hn : n < μ.length := by rw [← S.len]; exact (List.getElem?_eq_some_iff.mp h1).1
      rw [List.getElem?_set_self hn] at h4
      cases h4
      exact ⟨⟨ob, vs, upd_same, ho, Rs_ext S.lsts (Ext.at ha hk) _ hr⟩, hb⟩
    · rw [List.getElem?_set_ne hm] at h4
      obtain ⟨⟨o, us, h5, hh, h6⟩, h7⟩ := S.cell m b e h3 h4
      have nb : b ≠ a := fun z => hm (nd_ix S.nd h1 (z ▸ h3))
      exact ⟨⟨o, us, by rw [upd_ne nb]; exact h5, hh, Rs_ext S.lsts (Ext.at ha hk) _ h6⟩, h7⟩
theorem StR.write {K : PySem.W.Frag} {Z α : List Addr} {H : Hp} {μ : Sto} (S : StR K Z α H μ) {n : Nat} {a : Addr} {c : List D} {vs : List V} (h1 : α[n]? = some a) (hr : Rs K Z α H c vs) (hb : belows n c = true) : StR K Z α (upd H a (.lst vs)) (μ.set n c) :=
  S.writeC h1 (fun _ _ => ⟨vs, rfl⟩) ((plain_ho hr.plain).mpr rfl) (by rw [plain_body hr.plain]; exact hr) hb
theorem StR.at {K : PySem.W.Frag} {Z α : List Addr} {H : Hp} {μ : Sto} (S : StR K Z α H μ) {n : Nat} {a : Addr} {c : List D} (h1 : LocAt α H n a) (h2 : μ[n]? = some c) : ∃ vs, H a = some (.lst vs) ∧ Rs K Z α H c vs ∧ belows n c = true := by
  obtain ⟨h1, us, q⟩ := h1
  obtain ⟨⟨o, vs, h3, hh, h4⟩, h5⟩ := S.cell n a c h1 h2
  rw [q] at h3
  cases h3
  obtain ⟨k1, k2⟩ := hh.plain
  rw [plain_body k1] at h4
  exact ⟨us, q, by rw [k2]; exact h4, h5⟩
theorem s_put {o i e : Expr} {wo wi we : WE} {pos pos' : Pos} (he : PE X e (lE X.K we)) (ho : PE X o (lE X.K wo)) (hi : PE X i (lE X.K wi))
    (ha : ∀ v, assign (.Subscript o i pos') X.env v = (do
      let ov ← holding [v] (eval o X.env)
      let iv ← holding [v, ov] (eval i X.env)
      standAt pos'
      holding [v, ov, iv] (setItem ov iv v)
      release [v, ov, iv] []) := by intro _; rfl)
    (hs : swapsWithSole [.Subscript o i pos'] e pos.line X.env = pure false := by rfl) (hw : swappedStores [.Subscript o i pos'] e X.env = pure none := by rfl)
    (h1 : (assignEach [.Subscript o i pos'] X.env).map (·.2) = [assign (.Subscript o i pos') X.env] := by rfl) : PS X (.Assign [.Subscript o i pos'] e pos) (lS X.K (wPut wo wi we rPut)) := PS_imp (ps_asg he (pg_sub ho hi set_list ha) hs hw h1) fun D σ H h => by
  obtain ⟨Z, α, ρ, μ, Dd, E, S, w, P, P2, P3, P4⟩ := h
  refine ⟨Z, α, ρ, μ, _, E, S, w, fun d μ1 α1 H1 v q1 e1 S1 r1 => ⟨Z, α1, ρ, μ1, _, E.ext S.lsts e1, S1, q1, fun o μ2 α2 H2 ov q2 e2 S2 r2 => ⟨Z, α2, ρ, μ2, _, E.ext S.lsts (e1.trans e2), S2, q2, fun i μ3 α3 H3 iv q3 e3 S3 r3 => ?_⟩⟩⟩
  unfold rPut at q3
  split at q3
  · rename_i n k
    obtain ⟨c, j, h2, h3, h4, q4⟩ := q3
    obtain ⟨a, rfl, ha⟩ := R_ext S2.lsts e3 (.loc n) r2
    obtain ⟨vs, h5, h6, h7⟩ := S3.at ha h2
    have rd := R_ext S1.lsts (e2.trans e3) d r1
    have ma : a ∈ α3 := List.mem_of_getElem? ha.1
    refine ⟨a, vs, k, j, rfl, r3, h5, by rw [← h6.len]; exact h3, ?_⟩
    have f : Ext α H α3 (upd H3 a (.lst (vs.set j v))) := ((e1.trans e2).trans e3).trans (Ext.atL ma)
    exact P ρ _ α3 _ σ q4 f (S3.write ha.1 (Rs.set j h6 rd) (belows_set h4 c j h7)) (E.ext S.lsts f)
  · exact False.elim q3

/-! ### while -/
def wWhile (c : WT) (tb : WS) : WS := fun D ρ μ => ∃ (P : Env → Sto → Prop) (m : Env → Sto → Nat), P ρ μ ∧ ∀ ρ μ, P ρ μ → c ρ μ fun b μ1 =>
  if b = true then tb { D with nx := fun ρ' μ' => P ρ' μ' ∧ m ρ' μ' < m ρ μ, ct := fun ρ' μ' => P ρ' μ' ∧ m ρ' μ' < m ρ μ, bk := D.nx } ρ μ1 else D.nx ρ μ1
theorem s_while {c : Expr} {body : List Stmt} {wc : WT} {tb : WS} {pos : Pos} (hp : PassesOwn (model X.prog X.w) X.A X.env X.xe) (hc : PT X c (lT X.K wc)) (hb : PSs X body (lS X.K tb)) : PS X (.While c body [] pos) (lS X.K (wWhile wc tb)) := PS_imp (ps_while hp hc hb) fun D σ H h => by
  obtain ⟨Z, α, ρ, μ, Dd, E, S, ⟨Pw, m, p0, turn⟩, P, P2, P3, P4⟩ := h
  refine ⟨fun n σ' H' => ∃ α' ρ' μ', Ext α H α' H' ∧ EnvR X.K Z α' H' ρ' σ' ∧ StR X.K Z α' H' μ' ∧ Pw ρ' μ' ∧ n = m ρ' μ', ⟨m ρ μ, α, ρ, μ, Ext.refl, E, S, p0, rfl⟩, ?_⟩
  rintro n σ1 H1 ⟨α1, ρ1, μ1, e1, E1, S1, p1, rfl⟩
  refine ⟨Z, α1, ρ1, μ1, _, E1, S1, turn ρ1 μ1 p1, fun b μ2 α2 H2 q2 e2 S2 => ?_⟩
  cases b with
  | false => exact P ρ1 μ2 α2 H2 σ1 q2 (e1.trans e2) S2 (E1.ext S1.lsts e2)
  | true =>
    refine ⟨fun σ' H' => ∃ α' ρ' μ', Ext α H α' H' ∧ EnvR X.K Z α' H' ρ' σ' ∧ StR X.K Z α' H' μ' ∧ Pw ρ' μ' ∧ m ρ' μ' < m ρ1 μ1, ?_, Z, α2, ρ1, μ2, _, E1.ext S1.lsts e2, S2, q2, ?_, P2.on (e1.trans e2), P.on (e1.trans e2), ?_⟩
    · rintro σ' H' ⟨α', ρ', μ', f, E', S', p', l⟩
      exact ⟨m ρ' μ', l, α', ρ', μ', f, E', S', p', rfl⟩
    · intro ρ' μ' α' H' σ' q f S' E'
      exact ⟨α', ρ', μ', (e1.trans e2).trans f, E', S', q.1, q.2⟩
    · intro ρ' μ' α' H' σ' q f S' E'
      exact ⟨α', ρ', μ', (e1.trans e2).trans f, E', S', q.1, q.2⟩

/-! ### what is walked -/
/-- the walk J yields the data ds, while the store is as G says -/
def Wk (K : PySem.W.Frag) (Z α : List Addr) (H : Hp) (J : It) (ds : List D) (G : Sto → Prop) : Prop := ∀ Z' α' H' μ', (∀ z ∈ Z', z ∈ Z ∨ H z = none) → Ext α H α' H' → StR K Z' α' H' μ' → G μ' →
  (∀ i, ds.length ≤ i → J.stop i H') ∧ ∀ i d, ds[i]? = some d → J.go i H' ∧ ∀ x H'', J.yld i H' x H'' → (∀ a o, H' a = some o → H'' a = some o) ∧ R K Z' α' H'' d x
abbrev WI := Env → Sto → (List D → (Sto → Prop) → Sto → Prop) → Prop
def lI (K : PySem.W.Frag) (wi : WI) : TI := fun σ H Rr => ∃ Z α ρ μ Qd, EnvR K Z α H ρ σ ∧ StR K Z α H μ ∧ wi ρ μ Qd ∧ ∀ ds G μ' α' H' J, Qd ds G μ' → Ext α H α' H' → StR K Z α' H' μ' → Wk K Z α' H' J ds G → Rr J H'
def wFor (wi : WI) (g : WG) (tb : WS) : WS := fun D ρ μ => wi ρ μ fun ds G μ1 => ∃ P : Nat → Env → Sto → Prop, P 0 ρ μ1 ∧ (∀ i ρ μ, P i ρ μ → G μ) ∧
  (∀ i d ρ μ, ds[i]? = some d → P i ρ μ → g d ρ fun ρ1 => tb { D with nx := P (i + 1), ct := P (i + 1), bk := D.nx } ρ1 μ) ∧ ∀ ρ μ, P ds.length ρ μ → D.nx ρ μ
theorem s_for {tg iter : Expr} {body : List Stmt} {wi : WI} {g : WG} {g0 : TG} {tb : WS} {pos : Pos} (hp : PassesOwn (model X.prog X.w) X.A X.env X.xe) (hc : X.calm = true) (hi : PI X tg iter (lI X.K wi)) (hg : PG X tg g0) (hl : TgL X.K g g0) (hb : PSs X body (lS X.K tb))
    (hs : ∀ x, foldedSetIterable iter X.env x = pure x := by intro _; rfl) : PS X (.For tg iter body [] pos) (lS X.K (wFor wi g tb)) := PS_imp (ps_for hp hc hi hg hb hs) fun D σ H h => by
  obtain ⟨Z, α, ρ, μ, Dd, E, S, w, P, P2, P3, P4⟩ := h
  refine ⟨Z, α, ρ, μ, _, E, S, w, fun ds G μ1 α1 H1 J q1 e1 S1 wk => ?_⟩
  obtain ⟨Pw, p0, pG, step, fin⟩ := q1
  refine ⟨fun i m σ' H' => m = ds.length - i ∧ i ≤ ds.length ∧ ∃ α' ρ' μ', Ext α1 H1 α' H' ∧ EnvR X.K Z α' H' ρ' σ' ∧ StR X.K Z α' H' μ' ∧ Pw i ρ' μ', ⟨_, rfl, Nat.zero_le _, α1, ρ, μ1, Ext.refl, E.ext S.lsts e1, S1, p0⟩, ?_⟩
  rintro i m σ2 H2 ⟨rfl, hle, α2, ρ2, μ2, e2, E2, S2, p2⟩
  obtain ⟨stop, go⟩ := wk Z α2 H2 μ2 (fun _ h => .inl h) e2 S2 (pG _ _ _ p2)
  by_cases hlt : i < ds.length
  · obtain ⟨g1, g2⟩ := go i _ (List.getElem?_eq_getElem hlt)
    refine .inr ⟨g1, fun σ' H' => ∃ α' ρ' μ', Ext α1 H1 α' H' ∧ EnvR X.K Z α' H' ρ' σ' ∧ StR X.K Z α' H' μ' ∧ Pw (i + 1) ρ' μ', ?_, fun x H3 y => ?_⟩
    · rintro σ' H' ⟨α', ρ', μ', f, E', S', p'⟩
      exact ⟨ds.length - (i + 1), by omega, rfl, hlt, α', ρ', μ', f, E', S', p'⟩
    · obtain ⟨k1, k2⟩ := g2 x H3 y
      have f : Ext α2 H2 α2 H3 := Ext.same k1
      refine hl Z α2 ρ2 μ2 σ2 H3 _ x _ _ (E2.ext S2.lsts f) (S2.same k1) k2 (step i _ ρ2 μ2 (List.getElem?_eq_getElem hlt) p2) fun ρ' σ' q' E' => ?_
      have e3 : Ext α H α2 H3 := (e1.trans e2).trans f
      refine ⟨Z, α2, ρ', μ2, _, E', S2.same k1, q', ?_, P2.on e3, P.on e3, ?_⟩
      · intro ρ4 μ4 α4 H4 σ4 q4 e4 S4 E4
        exact ⟨α4, ρ4, μ4, (e2.trans f).trans e4, E4, S4, q4⟩
      · intro ρ4 μ4 α4 H4 σ4 q4 e4 S4 E4
        exact ⟨α4, ρ4, μ4, (e2.trans f).trans e4, E4, S4, q4⟩
  · have e : i = ds.length := by omega
    subst e
    exact .inl ⟨stop _ (Nat.le_refl _), P ρ2 μ2 α2 H2 σ2 (fin ρ2 μ2 p2) (e1.trans e2) S2 E2⟩

/-! ### comprehensions -/
def wipeD (ρ : Env) : List Nat → Env
  | [] => ρ
  | v :: vs => (wipeD ρ vs).set v none
theorem EnvR.drop {K : PySem.W.Frag} {Z α : List Addr} {H : Hp} {ρ : Env} {σ : L2.St} (E : EnvR K Z α H ρ σ) (i : Nat) : EnvR K Z α H (ρ.set i none) (σ.set i none) := by
  refine ⟨by rw [List.length_set, List.length_set, E.len], fun j e h => ?_⟩
  by_cases hj : i = j
  · subst hj
    by_cases hi : i < ρ.length
    · rw [List.getElem?_set_self hi] at h
      cases h
    · rw [List.getElem?_eq_none_iff.mpr (by rw [List.length_set]; omega)] at h
      cases h
  · rw [List.getElem?_set_ne hj] at h
    obtain ⟨w, h1, h2⟩ := E.get j e h
    exact ⟨w, by rw [List.getElem?_set_ne hj]; exact h1, h2⟩
theorem EnvR.wipe {K : PySem.W.Frag} {Z α : List Addr} {H : Hp} {ρ : Env} {σ : L2.St} (E : EnvR K Z α H ρ σ) : ∀ vs, EnvR K Z α H (wipeD ρ vs) (L2.wipe σ vs)
  | [] => E
  | v :: vs => (EnvR.wipe E vs).drop v
/-- a hidden list grows: nothing that is told leans on it -/
theorem SqT_hid {K : PySem.W.Frag} {H : Hp} {Dn a : Addr} {u : List V} {o : HO} {vs : List V} (hD : H Dn = some (.lst u)) (h : SqT K H a vs) : SqT K (upd H Dn o) a vs := by
  rcases h with h | h
  · have na : a ≠ Dn := fun z => by
      subst z
      rcases h with h | ⟨_, h⟩ <;> rw [hD] at h <;> cases h
    rcases h with h | ⟨ob, h⟩
    · exact .inl (.inl (by rw [upd_ne na]; exact h))
    · exact .inl (.inr ⟨ob, by rw [upd_ne na]; exact h⟩)
  · exact .inr h
mutual
theorem R_hid {K : PySem.W.Frag} {Z α : List Addr} {H : Hp} {Dn : Addr} {u : List V} {o : HO} (n : Dn ∉ α) (hD : H Dn = some (.lst u)) : ∀ (d : D) {v : V}, R K (Dn :: Z) α H d v → R K (Dn :: Z) α (upd H Dn o) d v
  | .non, _, h => by simp only [R] at h ⊢; exact h
  | .bl _, _, h => by simp only [R] at h ⊢; exact h
  | .int _, _, h => by simp only [R] at h ⊢; exact h
  | .str _, _, h => by simp only [R] at h ⊢; exact h
  | .tup ds, _, h => by
    simp only [R] at h ⊢
    obtain ⟨a, vs, h1, h2, h3⟩ := h
    exact ⟨a, vs, h1, SqT_hid hD h2, Rs_hid n hD ds h3⟩
  | .lst ds, _, h => by
    simp only [R] at h ⊢
    obtain ⟨a, vs, h1, h2, h4⟩ := h
    refine ⟨a, vs, h1, ?_, Rs_hid n hD ds h4⟩
    rcases h2 with ⟨h2, h5, h3⟩ | h2
    · have na : a ≠ Dn := fun z => h5 (by rw [z]; exact List.mem_cons_self)
      refine .inl ⟨h2, h5, ?_⟩
      rcases h3 with h3 | ⟨ob, h3⟩
      · exact .inl (by rw [upd_ne na]; exact h3)
      · exact .inr ⟨ob, by rw [upd_ne na]; exact h3⟩
    · exact .inr h2
  | .loc m, _, h => by
    simp only [R] at h ⊢
    obtain ⟨a, h1, h2, vs, h3⟩ := h
    exact ⟨a, h1, h2, vs, by rw [upd_ne (fun z => n (by rw [← z]; exact List.mem_of_getElem? h2))]; exact h3⟩
  | .ob m, _, h => by simp only [R] at h ⊢; exact h
  | .obj C ns ds, _, h => by
    simp only [R] at h ⊢
    obtain ⟨a, vs, h1, ⟨h2, h5, h6, dx, h3⟩, h4⟩ := h
    exact ⟨a, vs, h1, ⟨h2, h5, h6, dx, by rw [upd_ne (fun z => h5 (by rw [z]; exact List.mem_cons_self))]; exact h3⟩, Rs_hid n hD ds h4⟩
  | .cls _ _, _, h => by simp only [R] at h
theorem Rs_hid {K : PySem.W.Frag} {Z α : List Addr} {H : Hp} {Dn : Addr} {u : List V} {o : HO} (n : Dn ∉ α) (hD : H Dn = some (.lst u)) : ∀ (ds : List D) {vs : List V}, Rs K (Dn :: Z) α H ds vs → Rs K (Dn :: Z) α (upd H Dn o) ds vs
  | [], _, h => by simp only [Rs] at h ⊢; exact h
  | d :: ds, _, h => by
    simp only [Rs] at h ⊢
    obtain ⟨v, r, h1, h2, h3⟩ := h
    exact ⟨v, r, h1, R_hid n hD d h2, Rs_hid n hD ds h3⟩
end
/-- a clause's tests -/
def wYes : WT := fun _ μ Q => Q true μ
def wComp (wi : WI) (g : WG) (tt : WT) (te : WE) (vs : List Nat) : WE := fun ρ μ Q => wi ρ μ fun ds G μ1 => ∃ P : Nat → List D → Sto → Prop, P 0 [] μ1 ∧ (∀ i acc μ, P i acc μ → G μ) ∧
  (∀ i d acc μ, ds[i]? = some d → P i acc μ → g d (wipeD ρ vs) fun ρ2 => tt ρ2 μ fun b μ3 => if b = true then te ρ2 μ3 fun y μ4 => acc.length < sizeLine ∧ P (i + 1) (acc ++ [y]) μ4 else P (i + 1) acc μ3) ∧
  ∀ acc μ, P ds.length acc μ → Q (.lst acc) μ
theorem ts_nil : PTs X [] (lT X.K wYes) := ⟨fun pins s σ H Q I h => by
  obtain ⟨Z, α, ρ, μ, Qd, E, S, w, P⟩ := h
  exact pts_nil.run pins s σ H Q I (P true μ α H w Ext.refl S)⟩
theorem ts_one {c : Expr} {t : WT} (h : PT X c (lT X.K t)) : PTs X [c] (lT X.K t) := pts_one h
theorem comp_low {wi : WI} {g : WG} {g0 : TG} {tt : WT} {te : WE} {vs : List Nat} (hl : TgL X.K g g0) (ho : Only' vs g0) (hmn : MonG g0) {σ : L2.St} {H : Hp} {Q : VK} (h : lE X.K (wComp wi g tt te vs) σ H Q) : tLc (lI X.K wi) g0 (lT X.K tt) (lE X.K te) vs σ H Q := by
  obtain ⟨Z, α, ρ, μ, Qd, E, S, w, P⟩ := h
  refine ⟨Z, α, ρ, μ, _, E, S, w, fun ds G μ1 α1 H1 J q1 e1 S1 wk Dn np => ?_⟩
  obtain ⟨Pw, p0, pG, step, fin⟩ := q1
  have hz0 : ∀ z ∈ Dn :: Z, z ∈ Z ∨ H1 z = none := fun z hz => by
    rcases List.mem_cons.mp hz with q | q
    · exact .inr (by rw [q]; exact np)
    · exact .inl q
  have E1 := E.ext S.lsts e1
  have k0 := same_upd (o := .lst []) np
  have S1' : StR X.K (Dn :: Z) α1 (upd H1 Dn (.lst [])) μ1 := by
    refine ⟨S1.len, S1.nd, fun z hz => ?_, fun n a c h1 h2 => ?_⟩
    · rcases List.mem_cons.mp hz with q | q
      · rw [q]; exact ⟨⟨_, upd_same⟩, S1.fresh np⟩
      · obtain ⟨⟨o, q1⟩, q2⟩ := S1.hid z q
        exact ⟨⟨o, k0 z o q1⟩, q2⟩
    · obtain ⟨⟨o, us, h3, hh, h4⟩, h5⟩ := S1.cell n a c h1 h2
      exact ⟨⟨o, us, k0 a _ h3, hh, Rs_extZ S1.lsts (Ext.same k0) hz0 _ h4⟩, h5⟩
  refine ⟨fun i m H' => m = ds.length - i ∧ i ≤ ds.length ∧ ∃ α' μ' accD acc, Ext α1 H1 α' H' ∧ StR X.K (Dn :: Z) α' H' μ' ∧ H' Dn = some (.lst acc) ∧ Rs X.K (Dn :: Z) α' H' accD acc ∧ Pw i accD μ', ⟨_, rfl, Nat.zero_le _, α1, μ1, [], [], Ext.same k0, S1', upd_same, rfl, p0⟩, ?_⟩
  rintro i m H2 ⟨rfl, hle, α2, μ2, accD, acc, e2, S2, hD, ra, p2⟩
  obtain ⟨stop, go⟩ := wk (Dn :: Z) α2 H2 μ2 hz0 e2 S2 (pG _ _ _ p2)
  have nD : Dn ∉ α2 := (S2.hid Dn List.mem_cons_self).2
  by_cases hlt : i < ds.length
  · obtain ⟨g1, g2⟩ := go i _ (List.getElem?_eq_getElem hlt)
    refine .inr ⟨g1, fun H' => ∃ α' μ' accD acc, Ext α1 H1 α' H' ∧ StR X.K (Dn :: Z) α' H' μ' ∧ H' Dn = some (.lst acc) ∧ Rs X.K (Dn :: Z) α' H' accD acc ∧ Pw (i + 1) accD μ', ?_, fun x H3 y => ?_⟩
    · rintro H' ⟨α', μ', accD', acc', f⟩
      exact ⟨ds.length - (i + 1), by omega, rfl, hlt, α', μ', accD', acc', f⟩
    · obtain ⟨k1, k2⟩ := g2 x H3 y
      have f : Ext α2 H2 α2 H3 := Ext.same k1
      have S3 := S2.same k1
      have E3 : EnvR X.K (Dn :: Z) α2 H3 (wipeD ρ vs) (L2.wipe σ vs) := (E1.extZ S1.lsts (e2.trans f) hz0).wipe vs
      refine hmn _ _ _ _ _ (fun σ' H' q => ⟨q.1.trans (wipe_wipe σ vs), q.2⟩) (ho x (L2.wipe σ vs) H3 _ (hl (Dn :: Z) α2 (wipeD ρ vs) μ2 (L2.wipe σ vs) H3 _ x _ (fun σ' H' => _) E3 S3 k2 (step i _ accD μ2 (List.getElem?_eq_getElem hlt) p2) fun ρ' σ' q' E' => ?_))
      refine ⟨Dn :: Z, α2, ρ', μ2, _, E', S3, q', fun b μ4 α4 H4 q4 e4 S4 => ?_⟩
      have hD3 : H3 Dn = some (.lst acc) := k1 Dn _ hD
      have hD4 : H4 Dn = some (.lst acc) := e4.keep Dn _ hD3 nD
      have ra4 := Rs_ext S3.lsts e4 accD (Rs_ext S2.lsts f accD ra)
      cases b with
      | false => exact ⟨α4, μ4, accD, acc, (e2.trans f).trans e4, S4, hD4, ra4, q4⟩
      | true =>
        refine ⟨Dn :: Z, α4, ρ', μ4, _, E'.ext S3.lsts e4, S4, q4, fun y μ5 α5 H5 v q5 e5 S5 r5 => ?_⟩
        have nD4 : Dn ∉ α4 := (S4.hid Dn List.mem_cons_self).2
        have nD5 : Dn ∉ α5 := (S5.hid Dn List.mem_cons_self).2
        have hD5 : H5 Dn = some (.lst acc) := e5.keep Dn _ hD4 nD4
        have ra5 := Rs_ext S4.lsts e5 accD ra4
        refine ⟨acc, hD5, by rw [← ra5.len]; exact q5.1, α5, μ5, accD ++ [y], acc ++ [v], ?_, ?_, upd_same, ?_, q5.2⟩
        · have f2 : Ext α1 H1 α5 H5 := ((e2.trans f).trans e4).trans e5
          exact ⟨fun a o h n => by
            have na : a ≠ Dn := ne_of_none h np
            rw [upd_ne na]
            exact f2.keep a o h n, f2.pre, f2.new, fun a ha vs h => by
            have na : a ≠ Dn := ne_of_none h np
            rw [upd_ne na]
            exact f2.kind a ha vs h⟩
        · refine ⟨S5.len, S5.nd, fun z hz => ?_, fun n a c h1 h2 => ?_⟩
          · obtain ⟨⟨o, q1⟩, q2⟩ := S5.hid z hz
            by_cases hzd : z = Dn
            · rw [hzd]; exact ⟨⟨_, upd_same⟩, nD5⟩
            · exact ⟨⟨o, by rw [upd_ne hzd]; exact q1⟩, q2⟩
          · obtain ⟨⟨o, us, h3, hh, h4⟩, h5⟩ := S5.cell n a c h1 h2
            have na : a ≠ Dn := fun z => nD5 (by rw [← z]; exact List.mem_of_getElem? h1)
            exact ⟨⟨o, us, by rw [upd_ne na]; exact h3, hh, Rs_hid nD5 hD5 _ h4⟩, h5⟩
        · exact Rs_hid nD5 hD5 _ (ra5.app ⟨v, [], rfl, r5, rfl⟩)
  · have e : i = ds.length := by omega
    subst e
    refine .inl ⟨stop _ (Nat.le_refl _), P (.lst accD) μ2 α2 H2 (.ref Dn) (fin accD μ2 p2) (e1.trans e2) (S2.less fun z hz => List.mem_cons_of_mem _ hz) ⟨Dn, acc, rfl, .inl ⟨nD, ?_, .inl hD⟩, Rs_extZ S2.lsts Ext.refl (fun z hz => .inl (List.mem_cons_of_mem _ hz)) accD ra⟩⟩
    exact S1.freshZ np
end
end Dw
end
section
set_option Elab.async false
set_option linter.all false
set_option maxRecDepth 100000
set_option maxHeartbeats 4000000
namespace Dw
open PySem PySem.Spec PyProof.Rows L2

/-! ### operators of ints -/
def wI0 (g : Int → Int → Int) : W2 := fun a b μ Q => match a, b with | .int i, .int j => Q (.int (g i j)) μ | _, _ => False
def wIC (C : Int → Int → Prop) (g : Int → Int → Int) : W2 := fun a b μ Q => match a, b with | .int i, .int j => C i j ∧ Q (.int (g i j)) μ | _, _ => False
def wIB (g : Int → Int → Bool) : W2 := fun a b μ Q => match a, b with | .int i, .int j => Q (.bl (g i j)) μ | _, _ => False
section
variable {X : Cx}
theorem dopI0 {f : Value → Value → Sem Value} {g : Int → Int → Int} (h : OpR X f (rI0 fun i j => .int (g i j))) : DOp X f (wI0 g) := by
  intro pins s σ H x y v u Q I rx ry q
  obtain ⟨Z, α, μ, a, b, Qd, S, ra, rb, w, P⟩ := q
  unfold wI0 at w
  split at w
  · exact h pins s σ H x y v u Q I rx ry ⟨_, _, ra, rb, P _ μ α H _ w Ext.refl S rfl⟩
  · exact w.elim
theorem dopIC {f : Value → Value → Sem Value} {C : Int → Int → Prop} {g : Int → Int → Int} (h : OpR X f (rI C fun i j => .int (g i j))) : DOp X f (wIC C g) := by
  intro pins s σ H x y v u Q I rx ry q
  obtain ⟨Z, α, μ, a, b, Qd, S, ra, rb, w, P⟩ := q
  unfold wIC at w
  split at w
  · exact h pins s σ H x y v u Q I rx ry ⟨_, _, ra, rb, w.1, P _ μ α H _ w.2 Ext.refl S rfl⟩
  · exact w.elim
theorem dopIB {f : Value → Value → Sem Value} {g : Int → Int → Bool} (h : OpR X f (rI0 fun i j => .bl (g i j))) : DOp X f (wIB g) := by
  intro pins s σ H x y v u Q I rx ry q
  obtain ⟨Z, α, μ, a, b, Qd, S, ra, rb, w, P⟩ := q
  unfold wIB at w
  split at w
  · exact h pins s σ H x y v u Q I rx ry ⟨_, _, ra, rb, P _ μ α H _ w Ext.refl S rfl⟩
  · exact w.elim
/-- a + b, ints -/
abbrev wAdd : W2 := wI0 (· + ·)
abbrev wSub : W2 := wI0 (· - ·)
/-- factors of which one is small, or together below a million bits -/
def CMulA (i j : Int) : Prop := CMul i j ∨ CMulW i j
abbrev wMul : W2 := wIC CMulA (· * ·)
def CDivA (_ j : Int) : Prop := j ≠ 0 ∧ j.natAbs.log2 < 9000
abbrev wDiv : W2 := wIC CDivA Int.fdiv
abbrev wMod : W2 := wIC (fun _ j => j ≠ 0) Int.fmod
abbrev wPow : W2 := wIC CPow fun i j => i ^ j.toNat
abbrev wShl : W2 := wIC CPow fun i j => i * 2 ^ j.toNat
abbrev wShr : W2 := wIC (fun _ j => 0 ≤ j) fun i j => i / 2 ^ j.toNat
abbrev wAndB : W2 := wI0 Builtin.bitAnd
theorem o_add : DOp X (binaryOp .Add) wAdd := dopI0 op_add
theorem o_sub : DOp X (binaryOp .Sub) wSub := dopI0 op_sub
theorem CMulA.ok {i j : Int} (h : CMulA i j) : IntMulOk i j := h.elim CMul.ok CMulW.ok
theorem o_mul : DOp X (binaryOp .Mult) wMul := dopIC (opI fun _ _ _ _ _ _ _ hc q => mul_int q (CMulA.ok hc))
theorem o_div : DOp X (binaryOp .FloorDiv) wDiv := dopIC (opI fun i j _ _ _ _ _ hc q => floordiv_int hc.1 q (.inl (PyProof.noPylong_of_log2 hc.2)))
theorem o_mod : DOp X (binaryOp .Mod) wMod := dopIC op_modN
theorem o_pow : DOp X (binaryOp .Pow) wPow := dopIC op_pow
theorem o_shl : DOp X (binaryOp .LShift) wShl := dopIC op_shl
theorem o_shr : DOp X (binaryOp .RShift) wShr := dopIC op_shr
theorem o_band : DOp X (binaryOp .BitAnd) wAndB := dopI0 op_and
theorem i_add : DOp X (inplaceOp .Add) wAdd := dopI0 iop_add
theorem i_sub : DOp X (inplaceOp .Sub) wSub := dopI0 iop_sub
theorem i_mul : DOp X (inplaceOp .Mult) wMul := dopIC (opI fun _ _ _ _ _ _ _ hc q => imul_int q (CMulA.ok hc))
abbrev wLt : W2 := wIB fun i j => decide (i < j)
abbrev wLe : W2 := wIB fun i j => decide (i ≤ j)
abbrev wGt : W2 := wIB fun i j => decide (j < i)
abbrev wGe : W2 := wIB fun i j => decide (j ≤ i)
theorem o_lt : DOp X (compareOp .Lt) wLt := dopIB op_lt
theorem o_le : DOp X (compareOp .LtE) wLe := dopIB op_le
theorem o_gt : DOp X (compareOp .Gt) wGt := dopIB op_gt
theorem o_ge : DOp X (compareOp .GtE) wGe := dopIB op_ge
/-- a - b of True, False -/
def wSubB : W2 := fun a b μ Q => match a, b with | .bl i, .bl j => Q (.int (b2i i - b2i j)) μ | _, _ => False
theorem o_subB : DOp X (binaryOp .Sub) wSubB := by
  intro pins s σ H x y v u Q I rx ry q
  obtain ⟨Z, α, μ, a, b, Qd, S, ra, rb, w, P⟩ := q
  unfold wSubB at w
  split at w
  · rename_i i j
    obtain rfl : x = .bl i := ra
    obtain rfl : y = .bl j := rb
    cases rx
    cases ry
    exact sub_bool ⟨.int _, H, I.tok _, ⟨_, rfl⟩, P _ μ α H _ w Ext.refl S rfl⟩
  · exact w.elim
/-- == of scalars -/
def scalD : D → Option V
  | .non => some .non
  | .bl b => some (.bl b)
  | .int i => some (.int i)
  | .str x => some (.str x)
  | _ => none
def wEqG (n : Bool) : W2 := fun a b μ Q => match a, b with
  | .int i, .int j => Q (.bl (xor n (decide (i = j)))) μ
  | .str i, .str j => Q (.bl (xor n (decide (i = j)))) μ
  | .bl i, .bl j => Q (.bl (xor n (decide (i = j)))) μ
  | _, _ => False
abbrev wEq : W2 := wEqG false
abbrev wNe : W2 := wEqG true
theorem o_eq : DOp X (compareOp .Eq) wEq := by
  intro pins s σ H x y v u Q I rx ry q
  obtain ⟨Z, α, μ, a, b, Qd, S, ra, rb, w, P⟩ := q
  unfold wEq wEqG at w
  split at w
  · rename_i i j
    obtain rfl : x = .int i := ra
    obtain rfl : y = .int j := rb
    exact op_eq pins s σ H _ _ v u Q I rx ry ⟨rfl, P _ μ α H _ w Ext.refl S (by simp [R, dec_int])⟩
  · rename_i i j
    obtain rfl : x = .str i := ra
    obtain rfl : y = .str j := rb
    exact op_eq pins s σ H _ _ v u Q I rx ry ⟨rfl, P _ μ α H _ w Ext.refl S (by simp [R])⟩
  · rename_i i j
    obtain rfl : x = .bl i := ra
    obtain rfl : y = .bl j := rb
    exact op_eq pins s σ H _ _ v u Q I rx ry ⟨rfl, P _ μ α H _ w Ext.refl S (by simp [R])⟩
  · exact w.elim
theorem o_ne : DOp X (compareOp .NotEq) wNe := by
  intro pins s σ H x y v u Q I rx ry q
  obtain ⟨Z, α, μ, a, b, Qd, S, ra, rb, w, P⟩ := q
  unfold wNe wEqG at w
  split at w
  · rename_i i j
    obtain rfl : x = .int i := ra
    obtain rfl : y = .int j := rb
    exact op_ne pins s σ H _ _ v u Q I rx ry ⟨rfl, P _ μ α H _ w Ext.refl S (by simp [R, dec_int])⟩
  · rename_i i j
    obtain rfl : x = .str i := ra
    obtain rfl : y = .str j := rb
    exact op_ne pins s σ H _ _ v u Q I rx ry ⟨rfl, P _ μ α H _ w Ext.refl S (by simp [R])⟩
  · rename_i i j
    obtain rfl : x = .bl i := ra
    obtain rfl : y = .bl j := rb
    exact op_ne pins s σ H _ _ v u Q I rx ry ⟨rfl, P _ μ α H _ w Ext.refl S (by simp [R])⟩
  · exact w.elim
/-- is None -/
def isN : D → Bool
  | .non => true
  | _ => false
def wIsN (n : Bool) : W2 := fun a b μ Q => match b with | .non => Q (.bl (xor n (isN a))) μ | _ => False
theorem isN_of {K : PySem.W.Frag} {Z α : List Addr} {H : Hp} {a : D} {x : V} (r : R K Z α H a x) : decide (x = .non) = isN a := by
  cases a <;> simp only [R] at r
  · subst r; rfl
  · subst r; rfl
  · subst r; rfl
  · subst r; rfl
  · obtain ⟨_, _, rfl, _⟩ := r; rfl
  · obtain ⟨_, _, rfl, _⟩ := r; rfl
  · obtain ⟨_, rfl, _⟩ := r; rfl
  · obtain ⟨_, rfl, _⟩ := r; rfl
  · obtain ⟨_, _, rfl, _⟩ := r; rfl
theorem o_isN : DOp X (compareOp .Is) (wIsN false) := by
  intro pins s σ H x y v u Q I rx ry q
  obtain ⟨Z, α, μ, a, b, Qd, S, ra, rb, w, P⟩ := q
  cases b with
  | non => exact op_isN pins s σ H x y v u Q I rx ry ⟨rb, by rw [isN_of ra]; exact P _ μ α H _ w Ext.refl S (by simp [R])⟩
  | _ => exact False.elim w
theorem o_notN : DOp X (compareOp .IsNot) (wIsN true) := by
  intro pins s σ H x y v u Q I rx ry q
  obtain ⟨Z, α, μ, a, b, Qd, S, ra, rb, w, P⟩ := q
  cases b with
  | non => exact op_notN pins s σ H x y v u Q I rx ry ⟨rb, by rw [isN_of ra]; exact P _ μ α H _ w Ext.refl S (by simp [R])⟩
  | _ => exact False.elim w
/-- -a -/
def wNeg (w : WE) : WE := fun ρ μ Q => w ρ μ fun x μ1 => match x with | .int i => Q (.int (-i)) μ1 | _ => False
theorem d_neg {a : Expr} {w : WE} {pos : Pos} (h : PE X a (lE X.K w)) : PE X (.UnaryOp .USub a pos) (lE X.K (wNeg w)) := PE_imp (pe_un un_neg h) fun σ H Q h => by
  obtain ⟨Z, α, ρ, μ, Qd, E, S, w, P⟩ := h
  refine ⟨Z, α, ρ, μ, _, E, S, w, fun x μ1 α1 H1 v q1 e1 S1 r1 => ?_⟩
  cases x with
  | int i => exact ⟨i, r1, P _ _ _ _ _ q1 e1 S1 rfl⟩
  | _ => exact False.elim q1

/-! ### sequences -/
/-- the items of a list, of a tuple -/
def sq (μ : Sto) : D → Option (List D)
  | .tup ds => some ds
  | .lst ds => some ds
  | .loc n => μ[n]?
  | _ => none
/-- the items of a list -/
def sl (μ : Sto) : D → Option (List D)
  | .lst ds => some ds
  | .loc n => μ[n]?
  | _ => none
theorem sl_of {K : PySem.W.Frag} {Z α : List Addr} {H : Hp} {μ : Sto} {d : D} {v : V} {ds : List D} (S : StR K Z α H μ) (r : R K Z α H d v) (h : sl μ d = some ds) : ∃ a vs, v = .ref a ∧ SqL K H a vs ∧ Rs K Z α H ds vs := by
  cases d with
  | lst es =>
    obtain ⟨a, vs, h1, h2, h3⟩ := r
    cases h
    exact ⟨a, vs, h1, h2.sq, h3⟩
  | loc n =>
    obtain ⟨a, h1, h2⟩ := r
    obtain ⟨vs, h3, h4, _⟩ := S.at h2 h
    exact ⟨a, vs, h1, SqL.of h3, h4⟩
  | _ => cases h
theorem sq_of {K : PySem.W.Frag} {Z α : List Addr} {H : Hp} {μ : Sto} {d : D} {v : V} {ds : List D} (S : StR K Z α H μ) (r : R K Z α H d v) (h : sq μ d = some ds) : ∃ a vs, v = .ref a ∧ (SqL K H a vs ∨ SqT K H a vs) ∧ Rs K Z α H ds vs := by
  cases d with
  | tup es =>
    obtain ⟨a, vs, h1, h2, h3⟩ := r
    cases h
    exact ⟨a, vs, h1, .inr h2, h3⟩
  | lst es =>
    obtain ⟨a, vs, h1, h2, h3⟩ := sl_of S r (show sl μ (.lst es) = some ds from h)
    exact ⟨a, vs, h1, .inl h2, h3⟩
  | loc n =>
    obtain ⟨a, vs, h1, h2, h3⟩ := sl_of S r (show sl μ (.loc n) = some ds from h)
    exact ⟨a, vs, h1, .inl h2, h3⟩
  | _ => cases h
theorem atI_of {K : PySem.W.Frag} {Z α : List Addr} {H : Hp} {ds : List D} {vs : List V} {i : Int} {d : D} (r : Rs K Z α H ds vs) (h : atI ds i = some d) : ∃ v, atI vs i = some v ∧ R K Z α H d v := by
  unfold atI at h ⊢
  rw [← r.len]
  cases e : ixN ds.length i with
  | none => rw [e] at h; cases h
  | some j =>
    rw [e] at h
    exact r.get h
def wIx : W2 := fun a b μ Q => match b with
  | .int i => match a with
    | .str z => z.length ≤ sizeLine ∧ ∃ c, atI z.cps.toList i = some c ∧ Q (.str ⟨#[c]⟩) μ
    | a => ∃ ds d, sq μ a = some ds ∧ atI ds i = some d ∧ Q d μ
  | _ => False
theorem d_ix {a b : Expr} {wa wb : WE} {pos : Pos} (ha : PE X a (lE X.K wa)) (hb : PE X b (lE X.K wb)) (hs : PlainIx b := by exact fun _ _ => rfl) : PE X (.Subscript a b pos) (lE X.K (wOp wIx wa wb)) := by
  have key : IxR X (l2 X.K wIx) := by
    intro e1 e2 pins s σ H x y v u Q I rx ry q hs
    refine ix_seq e1 e2 pins s σ H x y v u Q I rx ry ?_ hs
    obtain ⟨Z, α, μ, a, b, Qd, S, ra, rb, w, P⟩ := q
    unfold wIx at w
    split at w
    · rename_i i
      split at w
      · rename_i z
        obtain ⟨h1, c, h2, q⟩ := w
        exact .inr (.inr ⟨z, i, c, ra, rb, h1, h2, P _ μ α H _ q Ext.refl S rfl⟩)
      · obtain ⟨ds, d, h1, h2, q⟩ := w
        obtain ⟨p, vs, rfl, h3, h4⟩ := sq_of S ra h1
        obtain ⟨z, h5, h6⟩ := atI_of h4 h2
        have fin := P _ μ α H _ q Ext.refl S h6
        rcases h3 with h3 | h3
        · exact .inl ⟨p, vs, i, z, rfl, rb, h3, h5, fin⟩
        · exact .inr (.inl ⟨p, vs, i, z, rfl, rb, h3, h5, fin⟩)
    · exact w.elim
  exact PE_imp (pe_ix key ha hb hs) fun _ _ _ h => op_low h
/-! slices -/
abbrev WO := Env → Sto → (Option Int → Sto → Prop) → Prop
def lO (K : PySem.W.Frag) (w : WO) : TO := fun σ H Q => ∃ Z α ρ μ Qd, EnvR K Z α H ρ σ ∧ StR K Z α H μ ∧ w ρ μ Qd ∧ ∀ o μ' α' H', Qd o μ' → Ext α H α' H' → StR K Z α' H' μ' → Q o H'
def wNoP : WO := fun _ μ Q => Q none μ
def wPart (w : WE) : WO := fun ρ μ Q => w ρ μ fun x μ1 => match x with | .int i => Q (some i) μ1 | _ => False
theorem p_none : PO X none (lO X.K wNoP) := ⟨fun pins s σ H Q I h => by
  obtain ⟨Z, α, ρ, μ, Qd, E, S, w, P⟩ := h
  exact po_none.run pins s σ H Q I (P _ _ _ _ w Ext.refl S)⟩
theorem p_some {e : Expr} {w : WE} (h : PE X e (lE X.K w)) : PO X (some e) (lO X.K (wPart w)) := ⟨fun pins s σ H Q I k => by
  refine (po_some h).run pins s σ H Q I ?_
  obtain ⟨Z, α, ρ, μ, Qd, E, S, w, P⟩ := k
  refine ⟨Z, α, ρ, μ, _, E, S, w, fun x μ1 α1 H1 v q1 e1 S1 r1 => ?_⟩
  cases x with
  | int i => exact ⟨i, r1, P _ _ _ _ q1 e1 S1⟩
  | _ => exact False.elim q1⟩
/-- the items of xs[lo:hi] -/
def cutD (xs : List D) (lo hi : Option Int) : List D := (xs.drop (HT.sIx xs.length 0 lo)).take (HT.sIx xs.length xs.length hi - HT.sIx xs.length 0 lo)
def wSlL (wx : WE) (wl wh : WO) : WE := fun ρ μ Q => wx ρ μ fun x μ1 => wl ρ μ1 fun l μ2 => wh ρ μ2 fun u μ3 => ∃ ds, sl μ3 x = some ds ∧ Q (.lst (cutD ds l u)) μ3
def wSlT (wx : WE) (wl wh : WO) : WE := fun ρ μ Q => wx ρ μ fun x μ1 => wl ρ μ1 fun l μ2 => wh ρ μ2 fun u μ3 => match x with
  | .tup ds => ¬ (HT.sIx ds.length 0 l = 0 ∧ HT.sIx ds.length ds.length u = ds.length) ∧ Q (.tup (cutD ds l u)) μ3
  | _ => False
theorem Rs.cut {K : PySem.W.Frag} {Z α : List Addr} {H : Hp} {ds : List D} {vs : List V} (r : Rs K Z α H ds vs) (l u : Option Int) : Rs K Z α H (cutD ds l u) (cutV vs l u) := by
  unfold cutD cutV
  rw [r.len]
  exact (r.drop _).take _
theorem d_slL {a : Expr} {lo hi : Option Expr} {wx : WE} {wl wh : WO} {p2 pos : Pos} (ha : PE X a (lE X.K wx)) (hl : PO X lo (lO X.K wl)) (hh : PO X hi (lO X.K wh)) : PE X (.Subscript a (.Slice lo hi none p2) pos) (lE X.K (wSlL wx wl wh)) :=
  PE_imp (pe_slice sl_list ha hl hh) fun σ H Q h => by
    obtain ⟨Z, α, ρ, μ, Qd, E, S, w, P⟩ := h
    refine ⟨Z, α, ρ, μ, _, E, S, w, fun x μ1 α1 H1 v q1 e1 S1 r1 => ⟨Z, α1, ρ, μ1, _, E.ext S.lsts e1, S1, q1, fun l μ2 α2 H2 q2 e2 S2 => ⟨Z, α2, ρ, μ2, _, E.ext S.lsts (e1.trans e2), S2, q2, fun u μ3 α3 H3 q3 e3 S3 => ?_⟩⟩⟩
    obtain ⟨ds, h1, q⟩ := q3
    obtain ⟨p, vs, rfl, h2, h3⟩ := sl_of S3 (R_ext S1.lsts (e2.trans e3) x r1) h1
    refine ⟨p, vs, rfl, h2, fun t nt => ?_⟩
    have k := same_upd (o := .lst (cutV vs l u)) nt
    exact P _ _ _ _ _ q (((e1.trans e2).trans e3).trans (Ext.same k)) (S3.same k) ⟨t, _, rfl, .inl ⟨S3.fresh nt, S3.freshZ nt, .inl upd_same⟩, Rs_ext S3.lsts (Ext.same k) _ (h3.cut l u)⟩
theorem d_slT {a : Expr} {lo hi : Option Expr} {wx : WE} {wl wh : WO} {p2 pos : Pos} (ha : PE X a (lE X.K wx)) (hl : PO X lo (lO X.K wl)) (hh : PO X hi (lO X.K wh)) : PE X (.Subscript a (.Slice lo hi none p2) pos) (lE X.K (wSlT wx wl wh)) :=
  PE_imp (pe_slice sl_tup ha hl hh) fun σ H Q h => by
    obtain ⟨Z, α, ρ, μ, Qd, E, S, w, P⟩ := h
    refine ⟨Z, α, ρ, μ, _, E, S, w, fun x μ1 α1 H1 v q1 e1 S1 r1 => ⟨Z, α1, ρ, μ1, _, E.ext S.lsts e1, S1, q1, fun l μ2 α2 H2 q2 e2 S2 => ⟨Z, α2, ρ, μ2, _, E.ext S.lsts (e1.trans e2), S2, q2, fun u μ3 α3 H3 q3 e3 S3 => ?_⟩⟩⟩
    cases x with
    | tup ds =>
      obtain ⟨h1, q⟩ := q3
      obtain ⟨p, vs, rfl, h2, h3⟩ := R_ext S1.lsts (e2.trans e3) (.tup ds) r1
      refine ⟨p, vs, rfl, h2, by rw [← h3.len]; exact h1, fun t nt => ?_⟩
      have k := same_upd (o := .tup (cutV vs l u)) nt
      exact P _ _ _ _ _ q (((e1.trans e2).trans e3).trans (Ext.same k)) (S3.same k) ⟨t, _, rfl, SqT.of upd_same, Rs_ext S3.lsts (Ext.same k) _ (h3.cut l u)⟩
    | _ => exact False.elim q3

/-- xs[lo:hi], a list or a tuple (a tuple's slice that is the whole: not told) -/
def wSl (wx : WE) (wl wh : WO) : WE := fun ρ μ Q => wx ρ μ fun x μ1 => wl ρ μ1 fun l μ2 => wh ρ μ2 fun u μ3 => match x with
  | .tup ds => ¬ (HT.sIx ds.length 0 l = 0 ∧ HT.sIx ds.length ds.length u = ds.length) ∧ Q (.tup (cutD ds l u)) μ3
  | x => ∃ ds, sl μ3 x = some ds ∧ Q (.lst (cutD ds l u)) μ3
theorem d_sl {a : Expr} {lo hi : Option Expr} {wx : WE} {wl wh : WO} {p2 pos : Pos} (ha : PE X a (lE X.K wx)) (hl : PO X lo (lO X.K wl)) (hh : PO X hi (lO X.K wh)) : PE X (.Subscript a (.Slice lo hi none p2) pos) (lE X.K (wSl wx wl wh)) :=
  PE_imp (pe_slice (sl_list.or sl_tup) ha hl hh) fun σ H Q h => by
    obtain ⟨Z, α, ρ, μ, Qd, E, S, w, P⟩ := h
    refine ⟨Z, α, ρ, μ, _, E, S, w, fun x μ1 α1 H1 v q1 e1 S1 r1 => ⟨Z, α1, ρ, μ1, _, E.ext S.lsts e1, S1, q1, fun l μ2 α2 H2 q2 e2 S2 => ⟨Z, α2, ρ, μ2, _, E.ext S.lsts (e1.trans e2), S2, q2, fun u μ3 α3 H3 q3 e3 S3 => ?_⟩⟩⟩
    have rx := R_ext S1.lsts (e2.trans e3) x r1
    split at q3
    · rename_i ds
      obtain ⟨h1, q⟩ := q3
      obtain ⟨p, vs, rfl, h2, h3⟩ := rx
      refine .inr ⟨p, vs, rfl, h2, by rw [← h3.len]; exact h1, fun t nt => ?_⟩
      have k := same_upd (o := .tup (cutV vs l u)) nt
      exact P _ _ _ _ _ q (((e1.trans e2).trans e3).trans (Ext.same k)) (S3.same k) ⟨t, _, rfl, SqT.of upd_same, Rs_ext S3.lsts (Ext.same k) _ (h3.cut l u)⟩
    · obtain ⟨ds, h1, q⟩ := q3
      obtain ⟨p, vs, rfl, h2, h3⟩ := sl_of S3 rx h1
      refine .inl ⟨p, vs, rfl, h2, fun t nt => ?_⟩
      have k := same_upd (o := .lst (cutV vs l u)) nt
      exact P _ _ _ _ _ q (((e1.trans e2).trans e3).trans (Ext.same k)) (S3.same k) ⟨t, _, rfl, .inl ⟨S3.fresh nt, S3.freshZ nt, .inl upd_same⟩, Rs_ext S3.lsts (Ext.same k) _ (h3.cut l u)⟩
/-- a value's truth -/
def wTru (w : WE) : WT := fun ρ μ Q => w ρ μ fun x μ1 => match x with
  | .non => Q false μ1
  | .bl b => Q b μ1
  | .int i => Q (i != 0) μ1
  | .str z => z.length ≤ sizeLine ∧ Q ((z.length : Int) != 0) μ1
  | d => ∃ ds, sq μ1 d = some ds ∧ Q (!ds.isEmpty) μ1
theorem Rs.empty {K : PySem.W.Frag} {Z α : List Addr} {H : Hp} {ds : List D} {vs : List V} (r : Rs K Z α H ds vs) : (!ds.isEmpty) = !vs.isEmpty := by
  cases ds with
  | nil => simp only [Rs] at r; subst r; rfl
  | cons d ds => obtain ⟨v, t, rfl, _⟩ := r; rfl
theorem t_tru {a : Expr} {w : WE} (h : PE X a (lE X.K w)) (he : ∀ whole, isTrue a X.env whole = (do let v ← whole; standAt a.pos; holding [v] (truthy v)) := by intro _; rfl) : PT X a (lT X.K (wTru w)) := PT_imp (pt_truth h he) fun σ H Q h => by
  obtain ⟨Z, α, ρ, μ, Qd, E, S, w, P⟩ := h
  refine ⟨Z, α, ρ, μ, _, E, S, w, fun x μ1 α1 H1 v q1 e1 S1 r1 => ?_⟩
  split at q1
  · obtain rfl : v = .non := r1
    exact ⟨_, rfl, P _ _ _ _ q1 e1 S1⟩
  · rename_i b
    obtain rfl : v = .bl b := r1
    exact ⟨_, rfl, P _ _ _ _ q1 e1 S1⟩
  · rename_i i
    obtain rfl : v = .int i := r1
    exact ⟨_, rfl, P _ _ _ _ q1 e1 S1⟩
  · rename_i z
    obtain rfl : v = .str z := r1
    exact ⟨_, ⟨q1.1, rfl⟩, P _ _ _ _ q1.2 e1 S1⟩
  · obtain ⟨ds, h1, q⟩ := q1
    obtain ⟨p, vs, rfl, h2, h3⟩ := sq_of S1 r1 h1
    have fin := P _ _ _ _ q e1 S1
    rw [h3.empty] at fin
    rcases h2 with h2 | h2
    · exact ⟨_, .inl ⟨vs, h2, rfl⟩, fin⟩
    · exact ⟨_, .inr (.inl ⟨vs, h2, rfl⟩), fin⟩

/-! ### built-in functions by values -/
def fLen : WF := fun ds μ Q => match ds with
  | [.str z] => z.length ≤ sizeLine ∧ Q (.int z.length) μ
  | [d] => ∃ es, sq μ d = some es ∧ Q (.int es.length) μ
  | _ => False
theorem rs1 {K : PySem.W.Frag} {Z α : List Addr} {H : Hp} {d : D} {vs : List V} (r : Rs K Z α H [d] vs) : ∃ v, vs = [v] ∧ R K Z α H d v := by
  obtain ⟨v, t, rfl, h1, h2⟩ := r
  obtain rfl : t = [] := h2
  exact ⟨v, rfl, h1⟩
theorem rs2 {K : PySem.W.Frag} {Z α : List Addr} {H : Hp} {d e : D} {vs : List V} (r : Rs K Z α H [d, e] vs) : ∃ v u, vs = [v, u] ∧ R K Z α H d v ∧ R K Z α H e u := by
  obtain ⟨v, t, rfl, h1, h2⟩ := r
  obtain ⟨u, rfl, h3⟩ := rs1 h2
  exact ⟨v, u, rfl, h1, h3⟩
theorem c_len : DCall X (.builtin "len") fLen := by
  intro pins s σ H vs us Q I r q
  obtain ⟨Z, α, ds, μ, Qd, S, rs, w, P⟩ := q
  unfold fLen at w
  split at w
  · obtain ⟨v, rfl, h1⟩ := rs1 rs
    exact call_len_str pins s σ H _ us Q I r ⟨_, by rw [show v = _ from h1], w.1, P _ μ α H _ w.2 Ext.refl S rfl⟩
  · obtain ⟨v, rfl, h1⟩ := rs1 rs
    obtain ⟨es, h2, q⟩ := w
    obtain ⟨a, xs, rfl, h3, h4⟩ := sq_of S h1 h2
    exact call_len_seq pins s σ H _ us Q I r ⟨a, xs, rfl, h3, P _ μ α H _ q Ext.refl S (by simp [R, h4.len])⟩
  · exact w.elim
def fInt : WF := fun ds μ Q => match ds with | [.int i] => Q (.int i) μ | [.bl k] => Q (.int (b2i k)) μ | _ => False
theorem c_int : DCall X (.type "int") fInt := by
  intro pins s σ H vs us Q I r q
  obtain ⟨Z, α, ds, μ, Qd, S, rs, w, P⟩ := q
  unfold fInt at w
  split at w
  · obtain ⟨v, rfl, h1⟩ := rs1 rs
    exact call_int1 pins s σ H _ us Q I r (.inl ⟨_, by rw [show v = _ from h1], P _ μ α H _ w Ext.refl S rfl⟩)
  · rename_i k
    obtain ⟨v, rfl, h1⟩ := rs1 rs
    exact call_int1 pins s σ H _ us Q I r (.inr ⟨_, by rw [show v = _ from h1], P _ μ α H _ w Ext.refl S (by cases k <;> rfl)⟩)
  · exact w.elim
def fAbs : WF := fun ds μ Q => match ds with | [.int i] => Q (.int (if i < 0 then -i else i)) μ | _ => False
theorem c_abs : DCall X (.builtin "abs") fAbs := by
  intro pins s σ H vs us Q I r q
  obtain ⟨Z, α, ds, μ, Qd, S, rs, w, P⟩ := q
  unfold fAbs at w
  split at w
  · obtain ⟨v, rfl, h1⟩ := rs1 rs
    exact call_abs pins s σ H _ us Q I r ⟨_, by rw [show v = _ from h1], P _ μ α H _ w Ext.refl S rfl⟩
  · exact w.elim
def fMax2 : WF := fun ds μ Q => match ds with | [.int i, .int j] => Q (.int (if j > i then j else i)) μ | _ => False
def fMin2 : WF := fun ds μ Q => match ds with | [.int i, .int j] => Q (.int (if j < i then j else i)) μ | _ => False
theorem c_max2 (hc : X.calm = true) : DCall X (.builtin "max") fMax2 := by
  intro pins s σ H vs us Q I r q
  obtain ⟨Z, α, ds, μ, Qd, S, rs, w, P⟩ := q
  unfold fMax2 at w
  split at w
  · obtain ⟨v, u, rfl, h1, h2⟩ := rs2 rs
    exact call_max2 hc pins s σ H _ us Q I r ⟨_, _, by rw [show v = _ from h1, show u = _ from h2], P _ μ α H _ w Ext.refl S rfl⟩
  · exact w.elim
theorem c_min2 (hc : X.calm = true) : DCall X (.builtin "min") fMin2 := by
  intro pins s σ H vs us Q I r q
  obtain ⟨Z, α, ds, μ, Qd, S, rs, w, P⟩ := q
  unfold fMin2 at w
  split at w
  · obtain ⟨v, u, rfl, h1, h2⟩ := rs2 rs
    exact call_min2 hc pins s σ H _ us Q I r ⟨_, _, by rw [show v = _ from h1, show u = _ from h2], P _ μ α H _ w Ext.refl S rfl⟩
  · exact w.elim
/-- tuple(xs), list(xs) -/
def fTuple : WF := fun ds μ Q => match ds with | [d] => ∃ es, sq μ d = some es ∧ Q (.tup es) μ | _ => False
theorem c_tuple : DCall X (.type "tuple") fTuple := by
  intro pins s σ H vs us Q I r q
  obtain ⟨Z, α, ds, μ, Qd, S, rs, w, P⟩ := q
  unfold fTuple at w
  split at w
  · obtain ⟨v, rfl, h1⟩ := rs1 rs
    obtain ⟨es, h2, q⟩ := w
    obtain ⟨a, xs, rfl, h3, h4⟩ := sq_of S h1 h2
    refine call_tuple_of pins s σ H _ us Q I r ⟨a, xs, rfl, ?_⟩
    rcases h3 with h3 | h3
    · refine .inl ⟨h3, fun l nl => ?_⟩
      have k := same_upd (o := .tup xs) nl
      exact P _ μ α _ _ q (Ext.same k) (S.same k) ⟨l, xs, rfl, SqT.of upd_same, Rs_ext S.lsts (Ext.same k) _ h4⟩
    · exact .inr ⟨h3, P _ μ α H _ q Ext.refl S ⟨a, xs, rfl, h3, h4⟩⟩
  · exact w.elim
def fListF : WF := fun ds μ Q => match ds with | [d] => ∃ es, sq μ d = some es ∧ Q (.lst es) μ | _ => False
theorem c_listF : DCall X (.type "list") fListF := by
  intro pins s σ H vs us Q I r q
  obtain ⟨Z, α, ds, μ, Qd, S, rs, w, P⟩ := q
  unfold fListF at w
  split at w
  · obtain ⟨v, rfl, h1⟩ := rs1 rs
    obtain ⟨es, h2, q⟩ := w
    obtain ⟨a, xs, rfl, h3, h4⟩ := sq_of S h1 h2
    refine call_list_of pins s σ H _ us Q I r ⟨a, xs, rfl, h3, fun l nl => ?_⟩
    have k := same_upd (o := .lst xs) nl
    exact P _ μ α _ _ q (Ext.same k) (S.same k) ⟨l, xs, rfl, .inl ⟨S.fresh nl, S.freshZ nl, .inl upd_same⟩, Rs_ext S.lsts (Ext.same k) _ h4⟩
  · exact w.elim
/-- str(n) of an int below 10^4300 -/
def fStr : WF := fun ds μ Q => match ds with | [.int i] => i.natAbs < 10 ^ 4300 ∧ Q (.str (toString i)) μ | _ => False
theorem c_str (hc : X.calm = true) (hd : X.base.NoDigits) : DCall X (.type "str") fStr := by
  intro pins s σ H vs us Q I r q
  obtain ⟨Z, α, ds, μ, Qd, S, rs, w, P⟩ := q
  unfold fStr at w
  split at w
  · rename_i i
    obtain ⟨v, rfl, h1⟩ := rs1 rs
    obtain rfl : v = .int i := h1
    obtain ⟨u, rfl, t, rfl⟩ := vals1 r
    refine str_of_int_or (I.ok.hd hc) (hd.keeps I.bk) (fun _ => ⟨.str _, H, I.tok _, ⟨_, rfl⟩, P _ μ α H _ w.2 Ext.refl S rfl⟩) fun h => ?_
    exact absurd (Nat.lt_of_lt_of_le w.1 h) (Nat.lt_irrefl _)
  · exact w.elim
/-- n.bit_length() -/
def wBits (w : WE) : WE := fun ρ μ Q => w ρ μ fun x μ1 => match x with | .int i => Q (.int (Builtin.Int.intBits i : Nat)) μ1 | _ => False
theorem d_bits {o : Expr} {w : WE} {apos pos : Pos} (ho : PE X o (lE X.K w)) (hbase : attributeBase o "bit_length" X.env (eval o X.env) = eval o X.env := by rfl) (hline : (apos.endLine == pos.line) = true := by rfl) : PE X (.Call (.Attribute o "bit_length" apos) [] [] pos) (lE X.K (wBits w)) :=
  PE_imp (pe_bits ho hbase hline) fun σ H Q h => by
    obtain ⟨Z, α, ρ, μ, Qd, E, S, w, P⟩ := h
    refine ⟨Z, α, ρ, μ, _, E, S, w, fun x μ1 α1 H1 v q1 e1 S1 r1 => ?_⟩
    cases x with
    | int i => exact ⟨i, r1, P _ _ _ _ _ q1 e1 S1 rfl⟩
    | _ => exact False.elim q1
/-- isinstance(e, T), T a built-in type -/
def kindD : D → String
  | .non => "NoneType"
  | .bl _ => "bool"
  | .int _ => "int"
  | .str _ => "str"
  | .tup _ => "tuple"
  | .lst _ => "list"
  | .loc _ => "list"
  | _ => ""
def isD (T : String) (d : D) : Bool := kindD d == T || (kindD d == "bool" && T == "int")
/-- no instance -/
def inert : D → Bool
  | .ob _ => false
  | .obj _ _ _ => false
  | .cls _ _ => false
  | _ => true
def asIs (T : String) (Q : D → Sto → Prop) : D → Sto → Prop := fun x μ1 => inert x = true ∧ Q (.bl (isD T x)) μ1
def wIsi (T : String) (w : WE) : WE := fun ρ μ Q => w ρ μ (asIs T Q)
theorem ty_of {K : PySem.W.Frag} {Z α : List Addr} {H : Hp} {μ : Sto} {d : D} {v : V} (S : StR K Z α H μ) (hi : inert d = true) (r : R K Z α H d v) : TyX K H v (.type (kindD d)) := by
  have lt : ∀ {a vs}, SqL K H a vs → TyX K H (.ref a) (.type "list") := fun {a vs} h => by
    rcases h with (h | ⟨o, h⟩) | ⟨o, _, _, h, c, _⟩
    · exact .base (.lst h)
    · exact .base (.frz h)
    · exact .kList h c
  cases d <;> simp only [R] at r
  · subst r; exact .base .non
  · subst r; exact .base (.bl _)
  · subst r; exact .base (.int _)
  · subst r; exact .base (.str _)
  · obtain ⟨a, vs, rfl, h, _⟩ := r
    rcases h with (h | ⟨o, h⟩) | ⟨o, _, _, h, c, _⟩
    · exact .base (.tup h)
    · exact .fTuple h
    · exact .kTuple h c
  · obtain ⟨a, vs, rfl, h, _⟩ := r
    exact lt h.sq
  · obtain ⟨a, rfl, h⟩ := r
    obtain ⟨us, q⟩ := h.2
    exact lt (SqL.of q)
  · cases hi
  · cases hi
theorem d_isi {e : Expr} {w : WE} {T : String} {x : Str} {p p2 pos : Pos} (h : PE X e (lE X.K w)) (hg : Gl X "isinstance") (hm : X.mg "isinstance" = none) (hg2 : Gl X x) (hm2 : X.mg x = none) (hv2 : bootBuiltins x = some (.type T)) (hn2 : x ≠ "__name__" := by decide)
    (hk : ∀ k ∈ ["NoneType", "bool", "int", "str", "tuple", "list"], kitB k T = some (k == T || (k == "bool" && T == "int")) := by decide +kernel)
    (hb : bootBuiltins "isinstance" = some (.builtin "isinstance") := by decide +kernel)
    (hd2 : (x == ("__debug__" : Str)) = false := by decide)
    (he : starEach [e, .Name x p2] X.env = (false, eval e X.env) :: starEach [.Name x p2] X.env := by rfl) (he2 : starEach [.Name x p2] X.env = (false, eval (.Name x p2) X.env) :: starEach [] X.env := by rfl) (hpl : (backTo pos (starEach [.Name x p2] X.env)).any (·.1) = false := by rfl) :
    PE X (.Call (.Name "isinstance" p) [e, .Name x p2] [] pos) (lE X.K (wIsi T w)) := by
  refine PE_imp (pe_callB call_isi hg hm hb (pa_cons h (pa_cons (pe_bltn (v := .ty T) hg2 hm2 hv2 rfl hn2 hd2) pa_nil he2) he) (by decide) (by decide) he hpl) fun σ H Q h => ?_
  obtain ⟨Z, α, ρ, μ, Qd, E, S, w, P⟩ := h
  refine ⟨Z, α, ρ, μ, _, E, S, w, fun y μ1 α1 H1 v q1 e1 S1 r1 => ?_⟩
  refine ⟨v, .ty T, .type (kindD y), .type T, isD T y, rfl, .ty T, ty_of S1 q1.1 r1, kit_ty ?_, P _ _ _ _ _ q1.2 e1 S1 rfl⟩
  exact hk _ (by
    have hi := q1.1
    cases y <;> first | cases hi; done | simp [kindD])
/-- xs.append(e) -/
def wApp (wo we : WE) : WE := fun ρ μ Q => wo ρ μ fun o μ1 => match o with
  | .loc n => we ρ μ1 fun d μ2 => ∃ c, μ2[n]? = some c ∧ c.length < sizeLine ∧ below n d = true ∧ Q .non (μ2.set n (c ++ [d]))
  | _ => False
theorem belows_app {n : Nat} : ∀ {c e : List D}, belows n c = true → belows n e = true → belows n (c ++ e) = true
  | [], _, _, h => h
  | _ :: c, _, h, k => by
    simp only [belows, List.cons_append, Bool.and_eq_true] at h ⊢
    exact ⟨h.1, belows_app h.2 k⟩
theorem d_app {o e : Expr} {wo we : WE} {apos cpos : Pos} (ho : PE X o (lE X.K wo)) (he : PE X e (lE X.K we))
    (hbase : attributeBase o "append" X.env (eval o X.env) = eval o X.env := by rfl)
    (hfew : ((backTo cpos (starEach [e] X.env)).all (fun x => !x.1) && (backToKw cpos (keywordEach [] X.env)).all (fun x => x.1.isSome)
      && decide ([e].length + ([] : List Keyword).length + (if ([] : List Keyword).isEmpty then 0 else 1) < 30)) = true := by rfl)
    (hline : (apos.endLine == cpos.line) = true := by rfl) (hs : starEach [e] X.env = (false, eval e X.env) :: starEach [] X.env := by rfl) (hpl : (backTo cpos (starEach [] X.env)).any (·.1) = false := by rfl) :
    PE X (.Call (.Attribute o "append" apos) [e] [] cpos) (lE X.K (wApp wo we)) := by
  refine PE_imp (pe_bm PySem.F.plainAttrs_list PySem.F.slot_list_append PySem.F.type_list_append mt_append ho (pa_cons he pa_nil hs) hbase hfew hline hs hpl) fun σ H Q h => ?_
  obtain ⟨Z, α, ρ, μ, Qd, E, S, w, P⟩ := h
  refine ⟨Z, α, ρ, μ, _, E, S, w, fun o μ1 α1 H1 v q1 e1 S1 r1 => ?_⟩
  cases o with
  | loc n =>
    obtain ⟨a, rfl, ha⟩ := r1
    obtain ⟨us, q0⟩ := ha.2
    refine ⟨.inl ⟨rfl, us, SqL.of q0⟩, Z, α1, ρ, μ1, _, E.ext S.lsts e1, S1, q1, fun d μ2 α2 H2 u q2 e2 S2 r2 => ?_⟩
    obtain ⟨c, h1, h2, h3, q⟩ := q2
    have ha2 := e2.loc ha
    obtain ⟨vs, h4, h5, h6⟩ := S2.at ha2 h1
    refine ⟨a, vs, u, rfl, rfl, h4, by rw [← h5.len]; exact h2, ?_⟩
    have f : Ext α1 H1 α2 (upd H2 a (.lst (vs ++ [u]))) := e2.trans (Ext.atL (List.mem_of_getElem? ha2.1))
    exact P _ _ _ _ _ q (e1.trans f) (S2.write ha2.1 (h5.app ⟨u, [], rfl, r2, rfl⟩) (belows_app h6 (by simp [belows, h3]))) (by simp [R])
  | _ => exact False.elim q1
end

/-! ### comprehensions as expressions and statements -/
section
variable {X : Cx}
theorem d_lc {elt tg iter : Expr} {ifs : List Expr} {scope : Scope} {own : List (Str × Nat)} {pos : Pos} {wi : WI} {g : WG} {g0 : TG} {tt : WT} {te : WE} (hc : X.calm = true) (hN : X.N.Nodup) (hi : PI X tg iter (lI X.K wi)) (ok : BlkOk X.N X.env.scope scope own)
    (hg : ∀ (s : Shared) (H : Hp) (C : Addr) (cl : List (Str × Addr)) (fp : List Addr), PG (X.blk s H scope (compEnvC scope cl C X.env) fp) tg g0) (hl : TgL X.K g g0) (ho : Only' (own.map (·.2)) g0) (hmn : MonG g0)
    (ht : ∀ (s : Shared) (H : Hp) (C : Addr) (cl : List (Str × Addr)) (fp : List Addr), PTs (X.blk s H scope (compEnvC scope cl C X.env) fp) ifs (lT X.K tt))
    (he : ∀ (s : Shared) (H : Hp) (C : Addr) (cl : List (Str × Addr)) (fp : List Addr), PE (X.blk s H scope (compEnvC scope cl C X.env) fp) elt (lE X.K te)) (hs : ∀ x, foldedSetIterable iter X.env x = pure x := by intro _; rfl) :
    PE X (.ListComp elt [⟨tg, iter, ifs, 0⟩] scope pos) (lE X.K (wComp wi g tt te (own.map (·.2)))) := PE_imp (pe_lc hc hN hi ok hg ht he hs) fun _ _ _ h => comp_low hl ho hmn h
theorem s_setLc {i : Nat} {y : Str} {py : Pos} {elt tg iter : Expr} {ifs : List Expr} {scope : Scope} {own : List (Str × Nat)} {pos spos : Pos} {wi : WI} {g : WG} {g0 : TG} {tt : WT} {te : WE} (hc : X.calm = true) (hN : X.N.Nodup) (hy : X.N[i]? = some y) (hyl : X.env.scope.names.lookup y = some .local)
    (hsw : swapsWith (.ListComp elt [⟨tg, iter, ifs, 0⟩] scope pos) (some (.Name y py)) spos.line X.env = pure true) (hi : PI X tg iter (lI X.K wi)) (ok : BlkOk X.N X.env.scope scope own)
    (hg : ∀ (s : Shared) (H : Hp) (C : Addr) (cl : List (Str × Addr)) (fp : List Addr), PG (X.blk s H scope (compEnvC scope cl C X.env) fp) tg g0) (hl : TgL X.K g g0) (ho : Only' (own.map (·.2)) g0) (hmn : MonG g0)
    (ht : ∀ (s : Shared) (H : Hp) (C : Addr) (cl : List (Str × Addr)) (fp : List Addr), PTs (X.blk s H scope (compEnvC scope cl C X.env) fp) ifs (lT X.K tt))
    (he : ∀ (s : Shared) (H : Hp) (C : Addr) (cl : List (Str × Addr)) (fp : List Addr), PE (X.blk s H scope (compEnvC scope cl C X.env) fp) elt (lE X.K te)) (hs : ∀ x, foldedSetIterable iter X.env x = pure x := by intro _; rfl) :
    PS X (.Assign [.Name y py] (.ListComp elt [⟨tg, iter, ifs, 0⟩] scope pos) spos) (lS X.K (wAsg (wComp wi g tt te (own.map (·.2))) (gN i))) := PS_imp (ps_setLc hc hN hy hyl hsw hi ok hg ht he hs) fun D σ H h => comp_low hl ho hmn (asg_low tg_n h)

/-! ### walks -/
theorem iter_list {pins : List (Addr × Obj)} {σ : L2.St} {H : Hp} {s : Shared} {tg : Expr} {Rr : It → Hp → Prop} {a : Addr} {vs : List V} (I : Inv X pins σ H s) (h : SqL X.K H a vs) (q : Rr (Itl X.K a) H) : wpAny (model X.prog X.w) X.A (pyIter (.ref a)) (PIE X pins σ tg Rr) X.xe s := by
  obtain ⟨its, _, pl, _⟩ := I.list h
  refine wpAny_pyIter_list pl.isList ⟨s.heap.objs.size, [s.heap.objs.size], _, _, H, rfl, ?_, turn_list a _, ⟨_, Heap.get?_push_size _ rfl, rfl, rfl⟩, ?_, q⟩
  · exact I.kept (t' := s.toks) fun _ _ z => Heap.get?_push_of_some _ z
  · intro b hb
    obtain rfl := List.mem_singleton.mp hb
    exact I.fpOk (Nat.le_refl _) I.fresh
theorem iter_tup {pins : List (Addr × Obj)} {σ : L2.St} {H : Hp} {s : Shared} {tg : Expr} {Rr : It → Hp → Prop} {a : Addr} {vs : List V} (I : Inv X pins σ H s) (h : SqT X.K H a vs) (q : Rr (Itt X.K a) H) : wpAny (model X.prog X.w) X.A (pyIter (.ref a)) (PIE X pins σ tg Rr) X.xe s := by
  obtain ⟨its, _, pl, _⟩ := I.tuple h
  refine wpAny_pyIter_tuple (items := its.toArray) pl ⟨s.heap.objs.size, [s.heap.objs.size], _, _, H, rfl, ?_, turn_tuple a _, ⟨_, Heap.get?_push_size _ rfl, rfl, rfl⟩, ?_, q⟩
  · exact I.kept (t' := s.toks) fun _ _ z => Heap.get?_push_of_some _ z
  · intro b hb
    obtain rfl := List.mem_singleton.mp hb
    exact I.fpOk (Nat.le_refl _) I.fresh
/-- for x in a tuple, in a list that stays as it is -/
def wSeqI (w : WE) : WI := fun ρ μ Q => w ρ μ fun d μ1 => match d with
  | .tup ds => Q ds (fun _ => True) μ1
  | .lst ds => Q ds (fun _ => True) μ1
  | .loc n => ∃ c, μ1[n]? = some c ∧ Q c (fun μ => μ[n]? = some c) μ1
  | _ => False
theorem wk_tup {K : PySem.W.Frag} {Z α : List Addr} {H : Hp} {μ : Sto} {a : Addr} {vs : List V} {ds : List D} (S : StR K Z α H μ) (h : SqT K H a vs) (r : Rs K Z α H ds vs) : Wk K Z α H (Itt K a) ds fun _ => True := fun Z' α' H' μ' hz e S' _ => by
  have h' := e.sqT S.lsts h
  refine ⟨fun i hi => ⟨vs, h', by rw [← r.len]; exact hi⟩, fun i d hd => ?_⟩
  have r' := Rs_extZ S.lsts e hz ds r
  obtain ⟨v, hv, rv⟩ := r'.get hd
  refine ⟨⟨vs, v, h', hv⟩, fun x H'' y => ?_⟩
  obtain ⟨rfl, y⟩ := y
  have ex : x = v := Option.some.inj ((y vs h').symm.trans hv)
  exact ⟨fun _ _ z => z, by rw [ex]; exact rv⟩
theorem Fz.ext {K : PySem.W.Frag} {Z α α' : List Addr} {H H' : Hp} {a : Addr} {vs : List V} (L : Mut α H) (e : Ext α H α' H') (h : Fz K Z α H a vs) : SqL K H' a vs := by
  rcases h with ⟨h1, _, h2⟩ | h
  · exact .inl (e.rd L h2 h1)
  · rcases h with (h | ⟨o, h⟩) | h
    · cases h
    · cases h
    · exact .inr h
theorem wk_lst {K : PySem.W.Frag} {Z α : List Addr} {H : Hp} {μ : Sto} {a : Addr} {vs : List V} {ds : List D} (S : StR K Z α H μ) (h : Fz K Z α H a vs) (r : Rs K Z α H ds vs) : Wk K Z α H (Itl K a) ds fun _ => True := fun Z' α' H' μ' hz e S' _ => by
  have h' := h.ext S.lsts e
  refine ⟨fun i hi => ⟨vs, h', by rw [← r.len]; exact hi⟩, fun i d hd => ?_⟩
  have r' := Rs_extZ S.lsts e hz ds r
  obtain ⟨v, hv, rv⟩ := r'.get hd
  refine ⟨⟨vs, v, h', hv⟩, fun x H'' y => ?_⟩
  obtain ⟨rfl, y⟩ := y
  have ex : x = v := Option.some.inj ((y vs h').symm.trans hv)
  exact ⟨fun _ _ z => z, by rw [ex]; exact rv⟩
theorem wk_loc {K : PySem.W.Frag} {Z α : List Addr} {H : Hp} {a : Addr} {n : Nat} {ds : List D} (h : LocAt α H n a) : Wk K Z α H (Itl K a) ds fun μ => μ[n]? = some ds := fun Z' α' H' μ' hz e S' hG => by
  obtain ⟨vs, h1, h2, _⟩ := S'.at (e.loc h) hG
  have h' : SqL K H' a vs := SqL.of h1
  refine ⟨fun i hi => ⟨vs, h', by rw [← h2.len]; exact hi⟩, fun i d hd => ?_⟩
  obtain ⟨v, hv, rv⟩ := h2.get hd
  refine ⟨⟨vs, v, h', hv⟩, fun x H'' y => ?_⟩
  obtain ⟨rfl, y⟩ := y
  have ex : x = v := Option.some.inj ((y vs h').symm.trans hv)
  exact ⟨fun _ _ z => z, by rw [ex]; exact rv⟩
theorem i_seq {tg e : Expr} {w : WE} (h : PE X e (lE X.K w)) : PI X tg e (lI X.K (wSeqI w)) := by
  refine ⟨fun pins s σ H Rr I q => ?_⟩
  obtain ⟨Z, α, ρ, μ, Qd, E, S, w, P⟩ := q
  refine thn (h.run pins s σ H (fun v H1 => ∃ a vs, v = .ref a ∧ (SqL X.K H1 a vs ∧ Rr (Itl X.K a) H1 ∨ SqT X.K H1 a vs ∧ Rr (Itt X.K a) H1)) I ⟨Z, α, ρ, μ, _, E, S, w, fun d μ1 α1 H1 v q1 e1 S1 r1 => ?_⟩) fun v s1 k => ?_
  · cases d with
    | tup ds =>
      obtain ⟨a, vs, rfl, h2, h3⟩ := r1
      exact ⟨a, vs, rfl, .inr ⟨h2, P _ _ _ _ _ _ q1 e1 S1 (wk_tup S1 h2 h3)⟩⟩
    | lst ds =>
      obtain ⟨a, vs, rfl, h2, h3⟩ := r1
      exact ⟨a, vs, rfl, .inl ⟨h2.sq, P _ _ _ _ _ _ q1 e1 S1 (wk_lst S1 h2 h3)⟩⟩
    | loc n =>
      obtain ⟨a, rfl, h2⟩ := r1
      obtain ⟨c, h3, q⟩ := q1
      obtain ⟨vs, h4, _⟩ := S1.at h2 h3
      exact ⟨a, vs, rfl, .inl ⟨SqL.of h4, P _ _ _ _ _ _ q e1 S1 (wk_loc h2)⟩⟩
    | _ => exact False.elim q1
  · obtain ⟨v', H1, I1, rv, a, vs, rfl, k⟩ := k
    cases rv
    rcases k with ⟨k1, k2⟩ | ⟨k1, k2⟩
    · exact iter_list I1 k1 k2
    · exact iter_tup I1 k1 k2
/-- range -/
def rngD (lo : Int) (n : Nat) : List D := (List.range n).map fun (i : Nat) => D.int (lo + (i : Int))
theorem rngD_get {lo : Int} {n i : Nat} {d : D} (h : (rngD lo n)[i]? = some d) : i < n ∧ d = .int (lo + i) := by
  unfold rngD at h
  rw [List.getElem?_map] at h
  by_cases hi : i < n
  · rw [List.getElem?_range hi] at h
    cases h
    exact ⟨hi, rfl⟩
  · rw [List.getElem?_eq_none_iff.mpr (by simp; omega)] at h
    cases h
theorem rngD_len (lo : Int) (n : Nat) : (rngD lo n).length = n := by simp [rngD]
theorem wk_rng {K : PySem.W.Frag} {Z α : List Addr} {H : Hp} {lo : Int} {n : Nat} : Wk K Z α H (Itr lo n) (rngD lo n) fun _ => True := fun Z' α' H' μ' hz e S' hG => by
  refine ⟨fun i hi => by rw [rngD_len] at hi; exact hi, fun i d hd => ?_⟩
  obtain ⟨h1, rfl⟩ := rngD_get hd
  refine ⟨h1, fun x H'' y => ?_⟩
  obtain ⟨rfl, rfl⟩ := y
  exact ⟨fun _ _ z => z, by simp [R]⟩
def wRng1 (w : WE) : WI := fun ρ μ Q => w ρ μ fun d μ1 => match d with
  | .int j => -(2 ^ 62) ≤ j ∧ j < 2 ^ 62 ∧ Q (rngD 0 j.toNat) (fun _ => True) μ1
  | _ => False
theorem i_rng1 {tg a : Expr} {w : WE} {p pos : Pos} (hg : Gl X "range") (hm : X.mg "range" = none) (ha : PE X a (lE X.K w)) (hs : starEach [a] X.env = [(false, eval a X.env)] := by rfl) : PI X tg (.Call (.Name "range" p) [a] [] pos) (lI X.K (wRng1 w)) := by
  have k := pi_range1 (tg := tg) (p := p) (pos := pos) hg hm (pa_cons ha pa_nil hs) hs
  refine ⟨fun pins s σ H Rr I q => k.run pins s σ H Rr I ?_⟩
  obtain ⟨Z, α, ρ, μ, Qd, E, S, w, P⟩ := q
  refine ⟨Z, α, ρ, μ, _, E, S, w, fun d μ1 α1 H1 v q1 e1 S1 r1 => ?_⟩
  cases d with
  | int j => exact ⟨j, by rw [show v = .int j from r1], q1.1, q1.2.1, P _ _ _ _ _ _ q1.2.2 e1 S1 wk_rng⟩
  | _ => exact False.elim q1
def wRng2 (w u : WE) : WI := fun ρ μ Q => w ρ μ fun d μ1 => match d with
  | .int i => u ρ μ1 fun e μ2 => match e with
    | .int j => (-(2 ^ 62) ≤ i ∧ i < 2 ^ 62 ∧ -(2 ^ 62) ≤ j ∧ j < 2 ^ 62) ∧ Q (rngD i (j - i).toNat) (fun _ => True) μ2
    | _ => False
  | _ => False
theorem i_rng2 {tg a b : Expr} {w u : WE} {p pos : Pos} (hg : Gl X "range") (hm : X.mg "range" = none) (ha : PE X a (lE X.K w)) (hb : PE X b (lE X.K u)) (hs : starEach [a, b] X.env = [(false, eval a X.env), (false, eval b X.env)] := by rfl) (hs2 : starEach [b] X.env = [(false, eval b X.env)] := by rfl) :
    PI X tg (.Call (.Name "range" p) [a, b] [] pos) (lI X.K (wRng2 w u)) := by
  have k := pi_range2 (tg := tg) (p := p) (pos := pos) hg hm (pa_cons ha (pa_cons hb pa_nil hs2) (by rw [hs, hs2])) hs hs2
  refine ⟨fun pins s σ H Rr I q => k.run pins s σ H Rr I ?_⟩
  obtain ⟨Z, α, ρ, μ, Qd, E, S, w, P⟩ := q
  refine ⟨Z, α, ρ, μ, _, E, S, w, fun d μ1 α1 H1 v q1 e1 S1 r1 => ?_⟩
  cases d with
  | int i =>
    refine ⟨Z, α1, ρ, μ1, _, E.ext S.lsts e1, S1, q1, fun d' μ2 α2 H2 v' q2 e2 S2 r2 => ?_⟩
    cases d' with
    | int j => exact ⟨i, j, by rw [show v = .int i from r1, show v' = .int j from r2], q2.1, P _ _ _ _ _ _ q2.2 (e1.trans e2) S2 wk_rng⟩
    | _ => exact False.elim q2
  | _ => exact False.elim q1
end

/-! ### calls by names, and a def's body -/
def pick {α : Type} (is : List Nat) (l : List α) : List α := is.filterMap fun i => l[i]?
theorem Vals_pick {zs : List V} {ws : List Value} (r : Vals zs ws) : ∀ is : List Nat, Vals (pick is zs) (pick is ws)
  | [] => .nil
  | i :: is => by
    have ih := Vals_pick r is
    unfold pick at ih ⊢
    cases e : zs[i]? with
    | none => rw [List.filterMap_cons_none e, List.filterMap_cons_none (r.none_of e)]; exact ih
    | some x =>
      obtain ⟨u, h1, h2⟩ := r.get e
      rw [List.filterMap_cons_some e, List.filterMap_cons_some h1]
      exact .cons h2 ih
theorem Rs_pick {K : PySem.W.Frag} {Z α : List Addr} {H : Hp} {ds : List D} {vs : List V} (r : Rs K Z α H ds vs) : ∀ is : List Nat, Rs K Z α H (pick is ds) (pick is vs)
  | [] => rfl
  | i :: is => by
    have ih := Rs_pick r is
    unfold pick at ih ⊢
    cases e : ds[i]? with
    | none =>
      have e2 : vs[i]? = none := by
        rw [List.getElem?_eq_none_iff] at e ⊢
        rw [← r.len]
        exact e
      rw [List.filterMap_cons_none e, List.filterMap_cons_none e2]; exact ih
    | some x =>
      obtain ⟨u, h1, h2⟩ := r.get e
      rw [List.filterMap_cons_some e, List.filterMap_cons_some h1]
      exact ⟨u, _, rfl, h2, ih⟩
section
variable {X : Cx}
theorem k_nil : PK X [] (lA X.K wNil) := ⟨fun pos pins s σ H Q I h => by
  obtain ⟨Z, α, ρ, μ, Qd, E, S, w, P⟩ := h
  exact pk_nil.run pos pins s σ H Q I (P [] μ α H [] w Ext.refl S rfl)⟩
theorem k_cons {nm : Option Str} {e : Expr} {kpos : Pos} {kws : List Keyword} {we : WE} {wa : WA} (h : PE X e (lE X.K we)) (hr : PK X kws (lA X.K wa)) : PK X (⟨nm, e, kpos⟩ :: kws) (lA X.K (wCons we wa)) :=
  ⟨fun pos pins s σ H Q I q => (pk_cons h hr).run pos pins s σ H Q I (cons_low q)⟩
def wCallK (F : WF) (is : List Nat) (n : Nat) (t : WA) : WE := fun ρ μ Q => t ρ μ fun xs μ1 => xs.length = n ∧ F (pick is xs) μ1 Q
def KB (fd : FuncData) (ps ks : List Str) (is : List Nat) : Prop := ∀ (s : Shared) (ws : List Value), ws.length = ks.length → BindsTo s fd ⟨[], ks.zip ws⟩ (ps.zip (pick is ws))
theorem d_callk {k : Nat} {f : Addr} {fd : FuncData} {ps ks : List Str} {F : WF} {x : Str} {p pos : Pos} {kws : List Keyword} {w : WA} {is : List Nat} {n : Nat} (G : FnOk X.prog X.w X.K X.mg X.base CX0 k f fd ps (lF X.K F)) (hr : Room k X.A) (hg : Gl X x) (hm : X.mg x = some (.ref f)) (hk : PySem.W.keepIn X.K (.ref f) = true) (hb : KB fd ps ks is)
    (hkw : PK X kws (lA X.K w)) (hn : ks.length = n := by rfl) (hall : (backToKw pos (keywordEach kws X.env)).all (·.1.isSome) = true := by rfl) (hks : (backToKw pos (keywordEach kws X.env)).filterMap (·.1) = ks := by rfl)
    (hdb : (x == ("__debug__" : Str)) = false := by decide) (hpl : ((backTo pos (starEach [] X.env)).any (·.1) || (backToKw pos (keywordEach kws X.env)).any (·.1.isNone)) = false := by rfl) :
    PE X (.Call (.Name x p) [] kws pos) (lE X.K (wCallK F is n w)) := by
  subst hn
  refine ⟨fun pins s σ H Q I h => ?_⟩
  obtain ⟨Z, α, ρ, μ, Qd, E, S, w, P⟩ := h
  refine wpAny_Call_Name_kw (ld_glob I hg hm ?_ hdb)
  refine PySem.W.callWith_KW0 (h₀ := X.base) I.ok.mod.kin hk hall ?_ hpl
  refine thn (hkw.run pos pins s σ H (fun zs H1 => zs.length = ks.length ∧ lF X.K F (pick is zs) H1 Q E0) I ⟨Z, α, ρ, μ, _, E, S, w, fun xs μ1 α1 H1 vs q1 e1 S1 r1 => ⟨r1.len.symm.trans q1.1, Z, α1, pick is xs, μ1, Qd, S1, Rs_pick r1 is, q1.2, P.on e1⟩⟩) fun ws s2 ⟨zs, H2, I2, rz, q1, q2⟩ => ⟨I2.kIn, ?_⟩
  rw [hks]
  have r2 := Vals_pick rz is
  have hl : (pick is ws).length = ps.length := by rw [← r2.length]; exact G.len _ _ _ _ q2
  refine wpAny_call (codeAny_mono (G.run X.A X.stack s2 H2 ⟨[], ks.zip ws⟩ (pick is ws) (pick is zs) Q E0 hr I2.env0 (hb s2 ws (rz.length.symm.trans q1)) r2 q2) fun r s' hq => ?_)
  cases r with
  | error e => exact hq.elim
  | ok fl =>
    cases fl with
    | ret u => exact I2.after hq
    | next => exact False.elim hq
    | brk => exact False.elim hq
    | cont => exact False.elim hq
end

/-- what a def hands back: places of its own are forgotten; a list of its own is handed back as it stands -/
def expo (b : Nat) (d : D) (μ' : Sto) (Q : D → Sto → Prop) : Prop :=
  if below b d = true then Q d (μ'.take b) else match d with
    | .loc n => ∃ c, μ'[n]? = some c ∧ belows b c = true ∧ Q (.lst c) (μ'.take b)
    | .ob n => ∃ C ns c, μ'[n]? = some (.cls C ns :: c) ∧ belows b c = true ∧ Q (.obj C ns c) (μ'.take b)
    | _ => False
/-- a def's body: n names, ar parameters -/
def wDef (n ar : Nat) (w : WS) : WF := fun ds μ Q => ds.length = ar ∧ w { nx := fun _ μ' => Q .non (μ'.take μ.length), rt := fun d μ' => expo μ.length d μ' Q } (ds.map some ++ List.replicate (n - ar) none) μ
/-- .. whose places stay -/
def wDefK (n ar : Nat) (w : WS) : WF := fun ds μ Q => ds.length = ar ∧ w { nx := fun _ μ' => Q .non μ', rt := fun d μ' => Q d μ' } (ds.map some ++ List.replicate (n - ar) none) μ
theorem EnvR.start {K : PySem.W.Frag} {Z α : List Addr} {H : Hp} {ds : List D} {vs : List V} (r : Rs K Z α H ds vs) (m : Nat) : EnvR K Z α H (ds.map some ++ List.replicate m none) (vs.map some ++ List.replicate m none) := by
  refine ⟨by simp [r.len], fun i d h => ?_⟩
  by_cases hi : i < ds.length
  · rw [List.getElem?_append_left (by simpa using hi), List.getElem?_map] at h
    cases e : ds[i]? with
    | none => rw [e] at h; cases h
    | some d' =>
      rw [e] at h
      cases h
      obtain ⟨v, h1, h2⟩ := r.get e
      refine ⟨v, ?_, h2⟩
      rw [List.getElem?_append_left (by simpa [← r.len] using hi), List.getElem?_map, h1]
      rfl
  · rw [List.getElem?_append_right (by simpa using hi)] at h
    have := List.mem_of_getElem? h
    simp at this
section
variable {P : Program} {w : World} {K : PySem.W.Frag} {mg : Str → Option Value} {base : Heap}
theorem back {Z α α' : List Addr} {H H' : Hp} {μ μ' : Sto} {Qd : D → Sto → Prop} {Q : VK} (S : StR K Z α H μ) (e : Ext α H α' H') (S' : StR K Z α' H' μ') (Pd : Post K Z α H Qd Q) {d : D} {v : V} (r : R K Z α' H' d v) (h : expo μ.length d μ' Qd) : Q v H' := by
  obtain ⟨t, ht⟩ := e.pre
  have ec : α'.take μ.length = α := by rw [ht, ← S.len, List.take_left]
  have S2 : StR K Z α H' (μ'.take μ.length) := by
    have := S'.cut μ.length
    rw [ec] at this
    exact this
  have e2 : Ext α H α H' := ⟨e.keep, ⟨[], by simp⟩, fun _ z => .inl z, e.kind⟩
  unfold expo at h
  split at h
  · rename_i hb
    have r2 := R_down μ.length d hb r
    rw [ec] at r2
    exact Pd _ _ _ _ _ h e2 S2 r2
  · rename_i hb
    split at h
    · rename_i n
      obtain ⟨c, h1, h2, q⟩ := h
      obtain ⟨a, rfl, ha⟩ := r
      obtain ⟨vs, h3, h4, _⟩ := S'.at ha h1
      have r2 := Rs_down μ.length c h2 h4
      rw [ec] at r2
      have hn : ¬ n < α.length := by
        rw [S.len]
        intro z
        exact hb (by simp [below, z])
      have na : a ∉ α := fun z => by
        obtain ⟨m, hm, em⟩ := List.mem_iff_getElem.mp z
        have h5 : α'[m]? = some a := e.get (by rw [List.getElem?_eq_getElem hm, em])
        have := nd_ix S'.nd h5 ha.1
        omega
      have nz : a ∉ Z := fun z => (S'.hid a z).2 (List.mem_of_getElem? ha.1)
      exact Pd _ _ _ _ _ q e2 S2 ⟨a, vs, rfl, .inl ⟨na, nz, .inl h3⟩, r2⟩
    · rename_i n
      obtain ⟨C, ns, c, h1, h2, q⟩ := h
      obtain ⟨a, rfl, ha⟩ := r
      obtain ⟨⟨o, vs, h3, ⟨hl, dx, rfl⟩, h4⟩, _⟩ := S'.cell n a _ ha h1
      have r2 := Rs_down μ.length c h2 h4
      rw [ec] at r2
      have hn : ¬ n < α.length := by
        rw [S.len]
        intro z
        exact hb (by simp [below, z])
      have na : a ∉ α := fun z => by
        obtain ⟨m, hm, em⟩ := List.mem_iff_getElem.mp z
        have h5 : α'[m]? = some a := e.get (by rw [List.getElem?_eq_getElem hm, em])
        have := nd_ix S'.nd h5 ha
        omega
      have nz : a ∉ Z := fun z => (S'.hid a z).2 (List.mem_of_getElem? ha)
      exact Pd _ _ _ _ _ q e2 S2 ⟨a, vs, rfl, ⟨na, nz, hl, dx, h3⟩, r2⟩
    · exact h.elim
theorem fn_never {f : Addr} {fd : FuncData} {ps : List Str} {k : Nat} {F : WF} (h : ∀ ds μ Q, ¬ F ds μ Q) : FnOk P w K mg base CX0 k f fd ps (lF K F) :=
  ⟨fun vs H Q E ⟨_, _, ds, μ, Qd, _, _, q, _⟩ => absurd q (h ds μ Qd), fun _ _ _ _ _ _ _ _ _ _ _ _ _ ⟨_, _, ds, μ, Qd, _, _, q, _⟩ => absurd q (h ds μ Qd)⟩
/-- THE RULE for a def -/
theorem d_def {x qual : Str} {st : Stmt} {f : Addr} {fd : FuncData} {N ps : List Str} {k : Nat} {W : WS} {F : WF} (G : Fun K x qual st f fd) (S : FnScope N ps (defScope st))
    (hbody : ∀ (cdv : Value) (A : Around) (outer : List PySem.Env) (s : Shared) (H : Hp) (E : XK), Room k (A.deeper (envOfC qual (defScope st) s.heap.objs.size f cdv)) →
      PSs (cxOf CX0 P w K mg base N qual (defScope st) f cdv A outer s H E).nox (defBody st) (lS K W))
    (hF : ∀ ds μ Q, F ds μ Q → wDef N.length ps.length W ds μ Q) : FnOk P w K mg base CX0 (k + 1) f fd ps (lF K F) := by
  refine G.ok S (fun vs H Q E h => ?_) (fun cdv A outer s H vs Q E hr h => ⟨_, hbody cdv A outer s H E hr, ?_⟩)
  · obtain ⟨Z, α, ds, μ, Qd, S1, r, h, _⟩ := h
    rw [← r.len]
    exact (hF _ _ _ h).1
  · obtain ⟨Z, α, ds, μ, Qd, S1, r, h, Pd⟩ := h
    obtain ⟨hl, h⟩ := hF _ _ _ h
    have hl2 : vs.length = ps.length := r.len.symm.trans hl
    refine ⟨Z, α, _, μ, _, ?_, S1, h, ?_, ?_, fun _ _ _ _ _ z => z.elim, fun _ _ _ _ _ z => z.elim⟩
    · unfold L2.start
      rw [hl2]
      exact EnvR.start r _
    · intro ρ' μ' α' H' σ' q e S' E'
      refine back S1 e S' Pd (d := .non) rfl ?_
      unfold expo
      rw [if_pos (show below μ.length .non = true from rfl)]
      exact q
    · intro d μ' α' H' v q e S' r'
      exact back S1 e S' Pd r' q
theorem d_defK {x qual : Str} {st : Stmt} {f : Addr} {fd : FuncData} {N ps : List Str} {k : Nat} {W : WS} {F : WF} (G : Fun K x qual st f fd) (S : FnScope N ps (defScope st))
    (hbody : ∀ (cdv : Value) (A : Around) (outer : List PySem.Env) (s : Shared) (H : Hp) (E : XK), Room k (A.deeper (envOfC qual (defScope st) s.heap.objs.size f cdv)) →
      PSs (cxOf CX0 P w K mg base N qual (defScope st) f cdv A outer s H E).nox (defBody st) (lS K W))
    (hF : ∀ ds μ Q, F ds μ Q → wDefK N.length ps.length W ds μ Q) : FnOk P w K mg base CX0 (k + 1) f fd ps (lF K F) := by
  refine G.ok S (fun vs H Q E h => ?_) (fun cdv A outer s H vs Q E hr h => ⟨_, hbody cdv A outer s H E hr, ?_⟩)
  · obtain ⟨Z, α, ds, μ, Qd, S1, r, h, _⟩ := h
    rw [← r.len]
    exact (hF _ _ _ h).1
  · obtain ⟨Z, α, ds, μ, Qd, S1, r, h, Pd⟩ := h
    obtain ⟨hl, h⟩ := hF _ _ _ h
    have hl2 : vs.length = ps.length := r.len.symm.trans hl
    refine ⟨Z, α, _, μ, _, ?_, S1, h, ?_, ?_, fun _ _ _ _ _ z => z.elim, fun _ _ _ _ _ z => z.elim⟩
    · unfold L2.start
      rw [hl2]
      exact EnvR.start r _
    · intro ρ' μ' α' H' σ' q e S' E'
      exact Pd _ _ _ _ _ q e S' rfl
    · intro d μ' α' H' v q e S' r'
      exact Pd _ _ _ _ _ q e S' r'
end
end Dw
end
section
set_option Elab.async false
set_option linter.all false
set_option maxRecDepth 100000
set_option maxHeartbeats 4000000
namespace Dw
open PySem PySem.Spec PyProof.Rows L2
/-! ### one step of a reading at a time: each lemma turns the goal at its head into what follows -/
section
variable {D' : DEnds} {ρ : Env} {μ : Sto} {Q : D → Sto → Prop} {QB : Bool → Sto → Prop} {QA : List D → Sto → Prop} {QO : Option Int → Sto → Prop} {w a b c : WE} {t u : WS} {tb : WS} {ct cu : WT} {wa wr : WA} {g : WG} {gs : WGs} {r : W2} {i j n : Nat} {d : D} {F : WF}
def asB (QB : Bool → Sto → Prop) : D → Sto → Prop := fun x μ => match x with | .bl b => QB b μ | _ => False
def asI (QI : Int → Sto → Prop) : D → Sto → Prop := fun x μ => match x with | .int i => QI i μ | _ => False
def asP (n : Nat → Sto → Prop) : D → Sto → Prop := fun x μ => match x with | .loc i => n i μ | _ => False
def as2 (k : D → D → Sto → Prop) : List D → Sto → Prop := fun xs μ => match xs with | [a, b] => k a b μ | _ => False
def asT (QB : Bool → Sto → Prop) : D → Sto → Prop := fun x μ => match x with
  | .non => QB false μ
  | .bl b => QB b μ
  | .int i => QB (i != 0) μ
  | .str z => z.length ≤ sizeLine ∧ QB ((z.length : Int) != 0) μ
  | d => ∃ ds, sq μ d = some ds ∧ QB (!ds.isEmpty) μ
def asS (QI : List D → (Sto → Prop) → Sto → Prop) : D → Sto → Prop := fun d μ1 => match d with
  | .tup ds => QI ds (fun _ => True) μ1
  | .lst ds => QI ds (fun _ => True) μ1
  | .loc n => ∃ c, μ1[n]? = some c ∧ QI c (fun μ => μ[n]? = some c) μ1
  | _ => False
def asC (Q : D → Sto → Prop) (l u : Option Int) : D → Sto → Prop := fun x μ3 => match x with
  | .tup ds => ¬ (HT.sIx ds.length 0 l = 0 ∧ HT.sIx ds.length ds.length u = ds.length) ∧ Q (.tup (cutD ds l u)) μ3
  | x => ∃ ds, sl μ3 x = some ds ∧ Q (.lst (cutD ds l u)) μ3
def asTp (Q : D → Sto → Prop) : List D → Sto → Prop := fun xs μ => xs.length ≤ sizeLine ∧ Q (.tup xs) μ
def asLs (Q : D → Sto → Prop) : List D → Sto → Prop := fun xs μ => xs.length ≤ sizeLine ∧ Q (.lst xs) μ
def asNw (Q : D → Sto → Prop) : List D → Sto → Prop := fun xs μ1 => xs.length ≤ sizeLine ∧ belows μ1.length xs = true ∧ Q (.loc μ1.length) (μ1 ++ [xs])
def asK (F : WF) (is : List Nat) (n : Nat) (Q : D → Sto → Prop) : List D → Sto → Prop := fun xs μ => xs.length = n ∧ F (pick is xs) μ Q
theorem x_asTp {xs : List D} (e : xs.length ≤ 16777216) (h : Q (.tup xs) μ) : asTp Q xs μ := ⟨by rw [sizeLine_eq]; exact e, h⟩
theorem x_asLs {xs : List D} (e : xs.length ≤ 16777216) (h : Q (.lst xs) μ) : asLs Q xs μ := ⟨by rw [sizeLine_eq]; exact e, h⟩
theorem x_asNw {xs : List D} (e : xs.length ≤ 16777216) (e2 : belows μ.length xs = true) (h : Q (.loc μ.length) (μ ++ [xs])) : asNw Q xs μ := ⟨by rw [sizeLine_eq]; exact e, e2, h⟩
theorem x_asK {F : WF} {is : List Nat} {xs ys : List D} (e : xs.length = n) (e2 : pick is xs = ys) (h : F ys μ Q) : asK F is n Q xs μ := ⟨e, by rw [e2]; exact h⟩
theorem x_asB {p : Bool} (h : QB p μ) : asB QB (.bl p) μ := h
theorem x_asI {x : Int} {QI : Int → Sto → Prop} (h : QI x μ) : asI QI (.int x) μ := h
theorem x_asP {k : Nat → Sto → Prop} (h : k n μ) : asP k (.loc n) μ := h
theorem x_as2 {k : D → D → Sto → Prop} {x y : D} (h : k x y μ) : as2 k [x, y] μ := h
theorem x_asTn (h : QB false μ) : asT QB .non μ := h
theorem x_asTb {p : Bool} (h : QB p μ) : asT QB (.bl p) μ := h
theorem x_asTi {x : Int} (h : QB (x != 0) μ) : asT QB (.int x) μ := h
theorem x_asTt {ds : List D} (h : QB (!ds.isEmpty) μ) : asT QB (.tup ds) μ := ⟨ds, rfl, h⟩
theorem x_asTl {ds : List D} (h : QB (!ds.isEmpty) μ) : asT QB (.lst ds) μ := ⟨ds, rfl, h⟩
theorem x_asTq {ds : List D} (e : μ[n]? = some ds) (h : QB (!ds.isEmpty) μ) : asT QB (.loc n) μ := ⟨ds, e, h⟩
theorem x_asSt {ds : List D} {QI : List D → (Sto → Prop) → Sto → Prop} (h : QI ds (fun _ => True) μ) : asS QI (.tup ds) μ := h
theorem x_asSl {ds : List D} {QI : List D → (Sto → Prop) → Sto → Prop} (h : QI ds (fun _ => True) μ) : asS QI (.lst ds) μ := h
theorem x_asSp {ds : List D} {QI : List D → (Sto → Prop) → Sto → Prop} (e : μ[n]? = some ds) (h : QI ds (fun μ => μ[n]? = some ds) μ) : asS QI (.loc n) μ := ⟨ds, e, h⟩
theorem x_asCt {ds : List D} {l u : Option Int} (e : ¬ (HT.sIx ds.length 0 l = 0 ∧ HT.sIx ds.length ds.length u = ds.length)) (h : Q (.tup (cutD ds l u)) μ) : asC Q l u (.tup ds) μ := ⟨e, h⟩
theorem x_asCl {ds : List D} {l u : Option Int} (h : Q (.lst (cutD ds l u)) μ) : asC Q l u (.lst ds) μ := ⟨ds, rfl, h⟩
theorem x_asCp {ds : List D} {l u : Option Int} (e : μ[n]? = some ds) (h : Q (.lst (cutD ds l u)) μ) : asC Q l u (.loc n) μ := ⟨ds, e, h⟩
theorem it_t {p : Bool} {A B : Prop} (e : p = true) (h : A) : if p = true then A else B := by rw [if_pos e]; exact h
theorem it_f {p : Bool} {A B : Prop} (e : p = false) (h : B) : if p = true then A else B := by rw [if_neg (by rw [e]; decide)]; exact h
theorem it_c {p : Bool} {A B : Prop} (h1 : p = true → A) (h2 : p = false → B) : if p = true then A else B := by
  cases p with
  | true => exact h1 rfl
  | false => exact h2 rfl
theorem x_seq (h : t { D' with nx := u D' } ρ μ) : wSeq t u D' ρ μ := h
theorem x_next (h : D'.nx ρ μ) : wNext D' ρ μ := h
theorem x_asg (h : w ρ μ fun d μ1 => g d ρ fun ρ' => D'.nx ρ' μ1) : wAsg w g D' ρ μ := h
theorem x_par (h : wa ρ μ (as2 fun a b μ1 => D'.nx ((ρ.set i (some a)).set j (some b)) μ1)) : wPar i j wa D' ρ μ := h
theorem x_drop (h : w ρ μ fun _ μ1 => D'.nx ρ μ1) : wDrop w D' ρ μ := h
theorem x_ret (h : w ρ μ D'.rt) : wRet w D' ρ μ := h
/-- a def's ends -/
abbrev ends (μ : Sto) (Q : D → Sto → Prop) : DEnds := { nx := fun _ μ' => Q .non (μ'.take μ.length), rt := fun d μ' => expo μ.length d μ' Q }
/-- a def's body from its names -/
theorem x_def {n ar : Nat} {w : WS} {ds : List D} {ρ0 : Env} (e : ds.length = ar) (e2 : ds.map some ++ List.replicate (n - ar) none = ρ0) (h : w (ends μ Q) ρ0 μ) : wDef n ar w ds μ Q := ⟨e, by rw [e2]; exact h⟩
theorem x_retN (h : D'.rt .non μ) : wRetN D' ρ μ := h
theorem x_if (h : ct ρ μ fun b μ1 => if b = true then t D' ρ μ1 else u D' ρ μ1) : wIf ct t u D' ρ μ := h
theorem x_break (h : D'.bk ρ μ) : wBreak D' ρ μ := h
theorem x_cont (h : D'.ct ρ μ) : wCont D' ρ μ := h
theorem x_aug {x : D} (e : ρ[i]? = some (some x)) (h : w ρ μ fun y μ1 => r x y μ1 fun z μ2 => D'.nx (ρ.set i (some z)) μ2) : wAug i w r D' ρ μ := by
  unfold wAug
  rw [e]
  exact h
theorem x_put {wo wi we : WE} {rp : D → D → D → Sto → (Sto → Prop) → Prop} (h : we ρ μ fun d μ1 => wo ρ μ1 fun o μ2 => wi ρ μ2 fun i μ3 => rp o i d μ3 fun μ4 => D'.nx ρ μ4) : wPut wo wi we rp D' ρ μ := h
theorem x_gN {N : Env → Prop} (h : N (ρ.set i (some d))) : gN i d ρ N := h
theorem x_gT {ds : List D} {N : Env → Prop} (e : ds.length = n) (h : gs ds ρ N) : gT n gs (.tup ds) ρ N := ⟨e, h⟩
theorem x_gsCons {ds : List D} {N : Env → Prop} (h : g d ρ fun ρ' => gs ds ρ' N) : gsCons g gs (d :: ds) ρ N := h
theorem x_gsNil {N : Env → Prop} (h : N ρ) : gsNil [] ρ N := ⟨rfl, h⟩
theorem x_var {d : D} (e : ρ[i]? = some (some d)) (h : Q d μ) : wVar i ρ μ Q := by
  unfold wVar
  rw [e]
  exact h
theorem x_c (h : Q d μ) : wC d ρ μ Q := h
theorem x_op (h : a ρ μ fun x μ1 => b ρ μ1 fun y μ2 => r x y μ2 Q) : wOp r a b ρ μ Q := h
theorem x_test (h : w ρ μ (asB QB)) : wTest w ρ μ QB := h
theorem x_andT (h : ct ρ μ fun c μ1 => if c = true then cu ρ μ1 QB else QB false μ1) : wAndT ct cu ρ μ QB := h
theorem x_orT (h : ct ρ μ fun c μ1 => if c = true then QB true μ1 else cu ρ μ1 QB) : wOrT ct cu ρ μ QB := h
theorem x_notT (h : ct ρ μ fun c μ1 => QB (!c) μ1) : wNotT ct ρ μ QB := h
theorem x_andV (h : a ρ μ (asB fun c μ1 => if c = true then b ρ μ1 Q else Q (.bl false) μ1)) : wAndV a b ρ μ Q := by
  have e : (asB fun c μ1 => if c = true then b ρ μ1 Q else Q (.bl false) μ1) = fun x μ1 => match x with | .bl true => b ρ μ1 Q | .bl false => Q (.bl false) μ1 | _ => False := by
    funext x μ1
    cases x with
    | bl c => cases c <;> rfl
    | _ => rfl
  rw [e] at h
  exact h
theorem x_orV (h : a ρ μ (asB fun c μ1 => if c = true then Q (.bl true) μ1 else b ρ μ1 Q)) : wOrV a b ρ μ Q := by
  have e : (asB fun c μ1 => if c = true then Q (.bl true) μ1 else b ρ μ1 Q) = fun x μ1 => match x with | .bl true => Q (.bl true) μ1 | .bl false => b ρ μ1 Q | _ => False := by
    funext x μ1
    cases x with
    | bl c => cases c <;> rfl
    | _ => rfl
  rw [e] at h
  exact h
theorem x_notV (h : a ρ μ (asB fun c μ1 => Q (.bl (!c)) μ1)) : wNotV a ρ μ Q := h
theorem x_ifE (h : ct ρ μ fun c μ1 => if c = true then a ρ μ1 Q else b ρ μ1 Q) : wIfE ct a b ρ μ Q := h
theorem x_nil (h : QA [] μ) : wNil ρ μ QA := h
theorem x_cons (h : a ρ μ fun x μ1 => wr ρ μ1 fun xs μ2 => QA (x :: xs) μ2) : wCons a wr ρ μ QA := h
theorem x_tup (h : wr ρ μ (asTp Q)) : wTup wr ρ μ Q := h
theorem x_lst (h : wr ρ μ (asLs Q)) : wLst wr ρ μ Q := h
theorem x_new (h : wr ρ μ (asNw Q)) : wNew wr ρ μ Q := h
theorem x_call (h : wr ρ μ fun xs μ1 => F xs μ1 Q) : wCall F wr ρ μ Q := h
theorem x_callK {is : List Nat} (h : wr ρ μ (asK F is n Q)) : wCallK F is n wr ρ μ Q := h
theorem x_neg (h : w ρ μ (asI fun i μ1 => Q (.int (-i)) μ1)) : wNeg w ρ μ Q := h
theorem x_isi {T : String} (h : w ρ μ (asIs T Q)) : wIsi T w ρ μ Q := h
theorem x_asIs {T : String} (e : inert d = true) (h : Q (.bl (isD T d)) μ) : asIs T Q d μ := ⟨e, h⟩
theorem x_bits (h : w ρ μ (asI fun i μ1 => Q (.int (Builtin.Int.intBits i : Nat)) μ1)) : wBits w ρ μ Q := h
theorem x_app (h : a ρ μ (asP fun n μ1 => b ρ μ1 fun d μ2 => ∃ c, μ2[n]? = some c ∧ c.length < sizeLine ∧ below n d = true ∧ Q .non (μ2.set n (c ++ [d])))) : wApp a b ρ μ Q := h
theorem x_tru (h : w ρ μ (asT QB)) : wTru w ρ μ QB := h
theorem x_for {wi : WI} (h : wi ρ μ fun ds G μ1 => ∃ P : Nat → Env → Sto → Prop, P 0 ρ μ1 ∧ (∀ i ρ μ, P i ρ μ → G μ) ∧
  (∀ i d ρ μ, ds[i]? = some d → P i ρ μ → g d ρ fun ρ1 => tb { D' with nx := P (i + 1), ct := P (i + 1), bk := D'.nx } ρ1 μ) ∧ ∀ ρ μ, P ds.length ρ μ → D'.nx ρ μ) : wFor wi g tb D' ρ μ := h
theorem x_comp {wi : WI} {tt : WT} {te : WE} {vs : List Nat} (h : wi ρ μ fun ds G μ1 => ∃ P : Nat → List D → Sto → Prop, P 0 [] μ1 ∧ (∀ i acc μ, P i acc μ → G μ) ∧
  (∀ i d acc μ, ds[i]? = some d → P i acc μ → g d (wipeD ρ vs) fun ρ2 => tt ρ2 μ fun b μ3 => if b = true then te ρ2 μ3 fun y μ4 => acc.length < sizeLine ∧ P (i + 1) (acc ++ [y]) μ4 else P (i + 1) acc μ3) ∧
  ∀ acc μ, P ds.length acc μ → Q (.lst acc) μ) : wComp wi g tt te vs ρ μ Q := h
theorem x_while {wc : WT} (h : ∃ (P : Env → Sto → Prop) (m : Env → Sto → Nat), P ρ μ ∧ ∀ ρ μ, P ρ μ → wc ρ μ fun b μ1 =>
  if b = true then tb { D' with nx := fun ρ' μ' => P ρ' μ' ∧ m ρ' μ' < m ρ μ, ct := fun ρ' μ' => P ρ' μ' ∧ m ρ' μ' < m ρ μ, bk := D'.nx } ρ μ1 else D'.nx ρ μ1) : wWhile wc tb D' ρ μ := h
theorem x_yes (h : QB true μ) : wYes ρ μ QB := h
theorem x_rng1 {QI : List D → (Sto → Prop) → Sto → Prop} (h : w ρ μ (asI fun j μ1 => -(2 ^ 62) ≤ j ∧ j < 2 ^ 62 ∧ QI (rngD 0 j.toNat) (fun _ => True) μ1)) : wRng1 w ρ μ QI := h
theorem x_rng2 {QI : List D → (Sto → Prop) → Sto → Prop} (h : a ρ μ (asI fun i μ1 => b ρ μ1 (asI fun j μ2 => (-(2 ^ 62) ≤ i ∧ i < 2 ^ 62 ∧ -(2 ^ 62) ≤ j ∧ j < 2 ^ 62) ∧ QI (rngD i (j - i).toNat) (fun _ => True) μ2))) : wRng2 a b ρ μ QI := h
theorem x_seqI {QI : List D → (Sto → Prop) → Sto → Prop} (h : w ρ μ (asS QI)) : wSeqI w ρ μ QI := h
theorem x_sl {wl wh : WO} (h : w ρ μ fun x μ1 => wl ρ μ1 fun l μ2 => wh ρ μ2 fun u μ3 => asC Q l u x μ3) : wSl w wl wh ρ μ Q := h
theorem x_noP (h : QO none μ) : wNoP ρ μ QO := h
theorem x_part (h : w ρ μ (asI fun i μ1 => QO (some i) μ1)) : wPart w ρ μ QO := h
variable {x y : Int} {C : Int → Int → Prop} {f : Int → Int → Int} {fb : Int → Int → Bool}
theorem x_i0 (h : Q (.int (f x y)) μ) : wI0 f (.int x) (.int y) μ Q := h
theorem x_iB (h : Q (.bl (fb x y)) μ) : wIB fb (.int x) (.int y) μ Q := h
theorem x_iC (hc : C x y) (h : Q (.int (f x y)) μ) : wIC C f (.int x) (.int y) μ Q := ⟨hc, h⟩
theorem x_subB {p q : Bool} (h : Q (.int (b2i p - b2i q)) μ) : wSubB (.bl p) (.bl q) μ Q := h
theorem x_eqI {nb : Bool} (h : Q (.bl (xor nb (decide (x = y)))) μ) : wEqG nb (.int x) (.int y) μ Q := h
theorem x_eqS {nb : Bool} {s z : Str} (h : Q (.bl (xor nb (decide (s = z)))) μ) : wEqG nb (.str s) (.str z) μ Q := h
theorem x_eqB {nb : Bool} {p q : Bool} (h : Q (.bl (xor nb (decide (p = q)))) μ) : wEqG nb (.bl p) (.bl q) μ Q := h
theorem x_isN {nb : Bool} (h : Q (.bl (xor nb (isN d))) μ) : wIsN nb d .non μ Q := h
theorem x_ixT {ds : List D} (e : atI ds x = some d) (h : Q d μ) : wIx (.tup ds) (.int x) μ Q := ⟨ds, d, rfl, e, h⟩
theorem x_ixL {ds : List D} (e : atI ds x = some d) (h : Q d μ) : wIx (.lst ds) (.int x) μ Q := ⟨ds, d, rfl, e, h⟩
theorem x_ixP {ds : List D} (k : μ[n]? = some ds) (e : atI ds x = some d) (h : Q d μ) : wIx (.loc n) (.int x) μ Q := ⟨ds, d, k, e, h⟩
theorem x_rPut {ds : List D} {k : Nat} {QS : Sto → Prop} (e1 : μ[n]? = some ds) (e2 : ixN ds.length x = some k) (hb : below n d = true) (h : QS (μ.set n (ds.set k d))) : rPut (.loc n) (.int x) d μ QS := ⟨ds, k, e1, e2, hb, h⟩
theorem x_len {ds : List D} (h : Q (.int ds.length) μ) : fLen [.tup ds] μ Q := ⟨ds, rfl, h⟩
theorem x_lenL {ds : List D} (h : Q (.int ds.length) μ) : fLen [.lst ds] μ Q := ⟨ds, rfl, h⟩
theorem x_lenP {ds : List D} (e : μ[n]? = some ds) (h : Q (.int ds.length) μ) : fLen [.loc n] μ Q := ⟨ds, e, h⟩
theorem x_lenS {z : Str} (e : z.length ≤ sizeLine) (h : Q (.int z.length) μ) : fLen [.str z] μ Q := ⟨e, h⟩
theorem x_int (h : Q (.int x) μ) : fInt [.int x] μ Q := h
theorem x_intB {p : Bool} (h : Q (.int (b2i p)) μ) : fInt [.bl p] μ Q := h
theorem x_abs (h : Q (.int (if x < 0 then -x else x)) μ) : fAbs [.int x] μ Q := h
theorem x_max2 (h : Q (.int (if y > x then y else x)) μ) : fMax2 [.int x, .int y] μ Q := h
theorem x_min2 (h : Q (.int (if y < x then y else x)) μ) : fMin2 [.int x, .int y] μ Q := h
theorem x_tupT {ds : List D} (h : Q (.tup ds) μ) : fTuple [.tup ds] μ Q := ⟨ds, rfl, h⟩
theorem x_tupL {ds : List D} (h : Q (.tup ds) μ) : fTuple [.lst ds] μ Q := ⟨ds, rfl, h⟩
theorem x_tupP {ds : List D} (e : μ[n]? = some ds) (h : Q (.tup ds) μ) : fTuple [.loc n] μ Q := ⟨ds, e, h⟩
theorem x_str (e : x.natAbs < 10 ^ 4300) (h : Q (.str (toString x)) μ) : fStr [.int x] μ Q := ⟨e, h⟩
/-- what is handed back -/
theorem x_expo {b : Nat} (e : below b d = true) (h : Q d (μ.take b)) : expo b d μ Q := by
  unfold expo
  rw [if_pos e]
  exact h
theorem x_expo0 (e : below μ.length d = true) (h : Q d μ) : expo μ.length d μ Q := x_expo e (by rw [List.take_length]; exact h)
theorem x_expoL {b : Nat} {k : List D} (e : below b (.loc n) = false) (e1 : μ[n]? = some k) (e2 : belows b k = true) (h : Q (.lst k) (μ.take b)) : expo b (.loc n) μ Q := by
  unfold expo
  rw [if_neg (by rw [e]; decide)]
  exact ⟨k, e1, e2, h⟩
theorem le_line {k : Nat} (h : k ≤ 16777216) : k ≤ sizeLine := by rw [sizeLine_eq]; exact h
/-! one place of the store at work -/
theorem set_self' {c : List D} (e : μ[n]? = some c) : μ.set n c = μ := by
  obtain ⟨h, rfl⟩ := List.getElem?_eq_some_iff.mp e
  exact List.set_getElem_self h
theorem x_defP {m ar : Nat} {w : WS} {ds c : List D} {ρ0 : Env} (e : ds.length = ar) (e2 : ds.map some ++ List.replicate (m - ar) none = ρ0) (e3 : μ[n]? = some c) (h : w (ends μ Q) ρ0 (μ.set n c)) : wDef m ar w ds μ Q :=
  ⟨e, by rw [e2]; rw [set_self' e3] at h; exact h⟩
theorem x_ixQ {ds : List D} {x : Int} (k : n < μ.length) (e : atI ds x = some d) (h : Q d (μ.set n ds)) : wIx (.loc n) (.int x) (μ.set n ds) Q := ⟨ds, d, List.getElem?_set_self k, e, h⟩
theorem x_rPutQ {ds : List D} {x : Int} {k : Nat} {QS : Sto → Prop} (e1 : n < μ.length) (e2 : ixN ds.length x = some k) (hb : below n d = true) (h : QS (μ.set n (ds.set k d))) : rPut (.loc n) (.int x) d (μ.set n ds) QS :=
  ⟨ds, k, List.getElem?_set_self e1, e2, hb, by rw [List.set_set]; exact h⟩
theorem x_expoQ {c : List D} (e : below μ.length d = true) (h : Q d (μ.set n c)) : expo μ.length d (μ.set n c) Q := by
  refine x_expo e ?_
  rw [List.take_of_length_le (by rw [List.length_set]; exact Nat.le_refl _)]
  exact h
theorem mul_l (h1 : -(2 ^ 64) < x) (h2 : x < 2 ^ 64) : CMulA x y := .inl (.inl ⟨h1, h2⟩)
theorem mul_r (h1 : -(2 ^ 64) < y) (h2 : y < 2 ^ 64) : CMulA x y := .inl (.inr ⟨h1, h2⟩)
theorem mul_w {p q : Nat} (h1 : x.natAbs < 2 ^ p) (h2 : y.natAbs < 2 ^ q) (h : p + q < 900000) : CMulA x y := by
  refine .inr (wide_mul (a := p + 1) (b := q + 1) ?_ ?_ (by omega) (by omega) (by omega))
  · exact Nat.lt_of_lt_of_le h1 (Nat.pow_le_pow_right (by decide) (by omega))
  · exact Nat.lt_of_lt_of_le h2 (Nat.pow_le_pow_right (by decide) (by omega))
theorem div_w {p : Nat} (h0 : y ≠ 0) (h1 : y.natAbs < 2 ^ p) (h : p ≤ 9000) : CDivA x y := by
  refine ⟨h0, ?_⟩
  by_cases hp : p = 0
  · subst hp
    have : y.natAbs = 0 := by omega
    exact absurd (Int.natAbs_eq_zero.mp this) h0
  · exact Nat.lt_of_lt_of_le (PySem.Flt.log2_lt_of (by omega) h1) h
/-- a comprehension whose items are told by a function of data and a test, the store as it stands -/
theorem comp_fm {ds : List D} {tt : WT} {te : WE} {vs : List Nat} {Qc : List D → Sto → Prop} (p : D → Bool) (f : D → D) (hl : ds.length ≤ 16777216)
    (hs : ∀ d ∈ ds, ∀ (Q : D → Sto → Prop) (Z : Sto → Prop), (p d = true → Q (f d) μ) → (p d = false → Z μ) → g d (wipeD ρ vs) fun ρ2 => tt ρ2 μ fun b μ3 => if b = true then te ρ2 μ3 Q else Z μ3)
    (fin : Qc ((ds.filter p).map f) μ) : ∃ P : Nat → List D → Sto → Prop, P 0 [] μ ∧ (∀ i acc μ, P i acc μ → (fun _ => True) μ) ∧
      (∀ i d acc μ, ds[i]? = some d → P i acc μ → g d (wipeD ρ vs) fun ρ2 => tt ρ2 μ fun b μ3 => if b = true then te ρ2 μ3 fun y μ4 => acc.length < sizeLine ∧ P (i + 1) (acc ++ [y]) μ4 else P (i + 1) acc μ3) ∧
      ∀ acc μ, P ds.length acc μ → Qc acc μ := by
  refine ⟨fun i acc μ' => μ' = μ ∧ acc = ((ds.take i).filter p).map f, ⟨rfl, rfl⟩, fun _ _ _ _ => trivial, ?_, ?_⟩
  · rintro i d acc μ' hd ⟨rfl, rfl⟩
    have hi : i < ds.length := (List.getElem?_eq_some_iff.mp hd).1
    have hlt : (((ds.take i).filter p).map f).length < sizeLine := by
      rw [List.length_map, sizeLine_eq]
      have := List.length_filter_le p (ds.take i)
      rw [List.length_take] at this
      omega
    have et : ds.take (i + 1) = ds.take i ++ [d] := by rw [List.take_add_one, hd]; rfl
    refine hs d (List.mem_of_getElem? hd) (fun y μ4 => (((ds.take i).filter p).map f).length < sizeLine ∧ μ4 = μ' ∧ ((ds.take i).filter p).map f ++ [y] = ((ds.take (i + 1)).filter p).map f) (fun μ3 => μ3 = μ' ∧ ((ds.take i).filter p).map f = ((ds.take (i + 1)).filter p).map f) (fun h => ⟨hlt, rfl, ?_⟩) (fun h => ⟨rfl, ?_⟩)
    · rw [et, List.filter_append, List.map_append, List.filter_cons_of_pos h]
      rfl
    · rw [et, List.filter_append, List.map_append, List.filter_cons_of_neg (by rw [h]; decide)]
      simp
  · rintro acc μ' ⟨rfl, rfl⟩
    rw [List.take_length]
    exact fin
theorem comp_map {ds : List D} {tt : WT} {te : WE} {vs : List Nat} {Qc : List D → Sto → Prop} (f : D → D) (hl : ds.length ≤ 16777216)
    (hs : ∀ d ∈ ds, ∀ (Q : D → Sto → Prop) (Z : Sto → Prop), Q (f d) μ → g d (wipeD ρ vs) fun ρ2 => tt ρ2 μ fun b μ3 => if b = true then te ρ2 μ3 Q else Z μ3)
    (fin : Qc (ds.map f) μ) : ∃ P : Nat → List D → Sto → Prop, P 0 [] μ ∧ (∀ i acc μ, P i acc μ → (fun _ => True) μ) ∧
      (∀ i d acc μ, ds[i]? = some d → P i acc μ → g d (wipeD ρ vs) fun ρ2 => tt ρ2 μ fun b μ3 => if b = true then te ρ2 μ3 fun y μ4 => acc.length < sizeLine ∧ P (i + 1) (acc ++ [y]) μ4 else P (i + 1) acc μ3) ∧
      ∀ acc μ, P ds.length acc μ → Qc acc μ :=
  comp_fm (fun _ => true) f hl (fun d hd Q Z h _ => hs d hd Q Z (h rfl)) (by
    have e : ds.filter (fun _ => true) = ds := List.filter_eq_self.mpr fun _ _ => rfl
    rw [e]
    exact fin)
end
end Dw
end
section
set_option Elab.async false
set_option linter.all false
set_option maxRecDepth 100000
set_option maxHeartbeats 4000000
namespace Dw
open PySem PySem.Spec PyProof.Rows L2
/-- the law's call over the heap behind the top, whose digit limit nobody has set -/
theorem law_go {P : Program} {w : World} {K : PySem.W.Frag} {mg mb : Str → Option Value} {k : Nat} {fa a : Addr} {fd : FuncData} {x : Str} {F : WF} {s₁ : Shared} {vs : List Value} {ns : List Int}
    (KX : K.In s₁.heap) (hg : s₁.heap.Ns mainGlobals mg) (hb : s₁.heap.Ns builtinsNs mb) (hbb : ∀ x : Str, x ≠ "__name__" → mb x = bootBuiltins x) (hlim : s₁.heap.NoLimit) (hdig : s₁.heap.NoDigits) (hgen : s₁.gens = #[])
    (ha : s₁.heap.get? a = some { cls := .type "list", data := .seq vs.toArray }) (hi : IntsAre vs ns) (hl : ns.length ≤ sizeLine) (hr : Room k callerA)
    (G : ∀ base : Heap, K.In base → base.Ns mainGlobals mg → base.NoDigits → FnOk P w K mg base CX0 k fa fd [x] (lF K F)) (hbind : ∀ (s : Shared) (u : Value), BindsTo s fd ⟨[u], []⟩ [(x, u)])
    (hF : F [.lst (ns.map D.int)] [] fun d _ => d = .bl true) :
    codeAny (model P w) callerA (.call (.ref fa) ⟨[.ref a], []⟩) (fun r s' => r = .ok (.ret (.bool true)) ∧ OldK s₁.heap s'.heap ∧ s'.os = s₁.os ∧ AllBare s'.gens) s₁ := by
  have rv := vals_ints hi
  have core : ∀ H : Hp, Only H → Fz K [] [] H a (ns.map V.int) → HOk P w H s₁.heap → (∀ b, H b ≠ none → b = a) → (H a ≠ none → K.lookup a = none) →
      codeAny (model P w) callerA (.call (.ref fa) ⟨[.ref a], []⟩) (fun r s' => r = .ok (.ret (.bool true)) ∧ OldK s₁.heap s'.heap ∧ s'.os = s₁.os ∧ AllBare s'.gens) s₁ := by
    intro H hO hS hok hA hK
    have dictFree : ∀ {b : Addr} {o : Obj} {es : Array DictEntry} {ep : Nat}, s₁.heap.get? b = some o → o.data = .dict es ep → H b = none := fun {b o es ep} e d => by
      cases q : H b with
      | none => rfl
      | some u =>
        obtain rfl := hA b (by rw [q]; exact fun z => nomatch z)
        rw [ha] at e
        cases e
        exact nomatch (show Data.seq vs.toArray _ = Data.dict es ep from d)
    have ns' : ∀ {b : Addr} {m : Str → Option Value}, s₁.heap.Ns b m → (hidT s₁.heap H).Ns b m := fun ⟨o, es, ep, e, d, r⟩ => ⟨o, es, ep, hidT_get e (dictFree e d), d, r⟩
    have hKb : K.In (hidT s₁.heap H) := fun b o e => hidT_get (KX b o e) (by
      cases q : H b with
      | none => rfl
      | some u =>
        obtain rfl := hA b (by rw [q]; exact fun z => nomatch z)
        rw [hK (by rw [q]; exact fun z => nomatch z)] at e
        cases e)
    have hM : Mod K mg (hidT s₁.heap H) := ⟨hKb, ns' hg, ⟨mb, ns' hb, hbb⟩, let ⟨mc, h1, h2⟩ := hlim; ⟨mc, ns' h1, h2⟩⟩
    have hD : (hidT s₁.heap H).NoDigits := let ⟨mc, h1, h2⟩ := hdig; ⟨mc, ns' h1, h2⟩
    have e0 : Env0 P w K mg (hidT s₁.heap H) callerA [] s₁ H := ⟨rfl, hM, fun _ _ e => of_hidT e, Nat.le_of_eq (hidT_size _ _), trivial, (fun _ z => nomatch z), hok, .of_eq hgen⟩
    have S0 : StR K [] [] H [] := ⟨rfl, List.nodup_nil, (fun _ z => nomatch z), (fun n b c h1 _ => nomatch h1)⟩
    have wish : lF K F [.ref a] H (fun v _ => v = .bl true) (fun _ _ _ => False) :=
      ⟨[], [], [.lst (ns.map D.int)], [], _, S0, ⟨_, _, rfl, ⟨a, _, rfl, hS, Rs.ints ns⟩, rfl⟩, hF, fun d μ' α' H' v q _ _ r => by subst q; exact r⟩
    refine codeAny_mono ((G _ hKb (ns' hg) hD).run callerA [] s₁ H ⟨[.ref a], []⟩ [.ref a] [.ref a] _ _ hr e0 (hbind s₁ (.ref a)) (.cons rfl .nil) wish) fun r s' h => ?_
    cases r with
    | error e => exact h.elim
    | ok fl =>
      cases fl with
      | next => exact False.elim h
      | brk => exact False.elim h
      | cont => exact False.elim h
      | ret u =>
        obtain ⟨v, H', os, bare, un, hok', r', q⟩ := h
        obtain rfl : v = .bl true := q
        obtain rfl : u = Value.bool true := r'
        refine ⟨rfl, OldK.of_keep fun b o e => ?_, os, bare⟩
        rcases hO b with z | ⟨ob, xs, z⟩
        · exact un.keep b o e z (fun m => nomatch m) (fun m => nomatch m)
        · obtain ⟨e1, _⟩ := hok b _ z
          obtain ⟨e2, _⟩ := hok' b _ (un.frzs b ob _ z)
          rw [e] at e1
          cases e1
          exact e2
  have lv := hi.length
  cases hk : K.lookup a with
  | some o =>
    have e := KX a o hk
    rw [ha] at e
    cases e
    refine core (fun _ => none) (fun _ => .inl rfl) (.inr (.inr ⟨_, vs.toArray, _, hk, rfl, rfl, rfl, by rw [List.size_toArray, lv]; exact hl, by simpa using rv⟩)) (fun b u z => nomatch z) (fun b z => absurd rfl z) fun z => absurd rfl z
  | none =>
    refine core (fun b => if b = a then some (.frz { cls := .type "list", data := .seq vs.toArray } (.lst (ns.map V.int))) else none) (fun b => ?_) (.inl ⟨(fun z => nomatch z), (fun z => nomatch z), .inr ⟨_, if_pos rfl⟩⟩) (fun b u z => ?_) (fun b z => ?_) fun _ => hk
    · by_cases hb : b = a
      · exact .inr ⟨_, _, if_pos hb⟩
      · exact .inl (if_neg hb)
    · by_cases hb : b = a
      · have z' := (if_pos hb).symm.trans z
        cases z'
        subst hb
        exact ⟨ha, by rw [List.length_map]; exact hl, vs, _, rv, ha⟩
      · have z' := (if_neg hb).symm.trans z
        cases z'
    · by_cases hb : b = a
      · exact hb
      · exact absurd (if_neg hb) z
/-- the goal that the head leaves, from the law's promise by plain data -/
theorem walk_ofD {l : PySem.W.OpenLaw} {n k : Nat} {q : Program} {loose : List Str} {XP : (Str → Option Value) → Heap → Prop} {YP : World → Heap → Prop} {d : DefRec} {K : Params → PySem.W.Frag} {F : WF} {x : Str}
    (hn : l.most = some n) (hn2 : n ≤ sizeLine) (hdf : d.params.defaults = []) (hr : Room k callerA)
    (hY : ∀ (w : World) (h : Heap), YP w h → (K w.params).In h)
    (G : ∀ (w : World) (mg : Str → Option Value) (fa : Addr) (h : Heap), (K w.params).In h → h.Ns mainGlobals mg → mg d.name = some (.ref fa) →
      ∃ fd : FuncData, (∀ (s : Shared) (u : Value), BindsTo s fd ⟨[u], []⟩ [(x, u)]) ∧
        ∀ base : Heap, (K w.params).In base → base.Ns mainGlobals mg → base.NoDigits → FnOk l.prog w (K w.params) mg base CX0 k fa fd [x] (lF (K w.params) F))
    (hF : ∀ ns : List Int, ns.length ≤ n → (∀ z ∈ ns, Builtin.Int.intBits z ≤ 1048576) → F [.lst (ns.map D.int)] [] fun d _ => d = .bl true) :
    PySem.W.WalkO q loose XP YP l.row.toRowW d [] (fun f vs => PySem.call f vs) := by
  refine Att.attach_callB hn hdf fun w s₀ s₁ mg mb fa o pm cd doc a vs ns G' Y ho hd hcd hmg hobj hints hlen hbits hg => ?_
  obtain ⟨fd, hb, hG⟩ := G w mg fa _ (hY w _ Y) G'.T.g hmg
  exact law_go (hY w _ Y) G'.T.g G'.T.b G'.T.builtins G'.T.nolimit G'.T.nodigits hg hobj hints (Nat.le_trans hlen hn2) hr hG hb (hF ns hlen hbits)
end Dw
end
section
set_option Elab.async false
set_option linter.all false
set_option maxRecDepth 100000
set_option maxHeartbeats 4000000
namespace Dw
open PySem PySem.Spec PyProof.Rows L2
/-! ### three names at once -/
def as3 (k : D → D → D → Sto → Prop) : List D → Sto → Prop := fun xs μ => match xs with | [a, b, c] => k a b c μ | _ => False
def wPar3 (i j l : Nat) (t : WA) : WS := fun D ρ μ => t ρ μ (as3 fun a b c μ1 => D.nx (((ρ.set i (some a)).set j (some b)).set l (some c)) μ1)
theorem x_par3 {D' : DEnds} {ρ : Env} {μ : Sto} {i j l : Nat} {wa : WA} (h : wa ρ μ (as3 fun a b c μ1 => D'.nx (((ρ.set i (some a)).set j (some b)).set l (some c)) μ1)) : wPar3 i j l wa D' ρ μ := h
theorem x_as3 {μ : Sto} {k : D → D → D → Sto → Prop} {x y z : D} (h : k x y z μ) : as3 k [x, y, z] μ := h
section
variable {X : Cx}
theorem s_par3 {i j l : Nat} {x y z : Str} {a b c : Expr} {t : WA} {px py pz pt pos : Pos} {kt k2 pt2} (hc : X.calm = true) (hN : X.N.Nodup) (hi : X.N[i]? = some x) (hj : X.N[j]? = some y) (hl : X.N[l]? = some z) (hij : i ≠ j) (hil : i ≠ l) (hjl : j ≠ l)
    (hx : X.env.scope.names.lookup x = some .local) (hy : X.env.scope.names.lookup y = some .local) (hz : X.env.scope.names.lookup z = some .local) (ha : PA X [a, b, c] (lA X.K t))
    (hw : swappedStores [.Tuple [.Name x px, .Name y py, .Name z pz] kt pt] (.Tuple [a, b, c] k2 pt2) X.env = pure (some [x, y, z]))
    (hs : swapsWithSole [.Tuple [.Name x px, .Name y py, .Name z pz] kt pt] (.Tuple [a, b, c] k2 pt2) pos.line X.env = pure false := by rfl) :
    PS X (.Assign [.Tuple [.Name x px, .Name y py, .Name z pz] kt pt] (.Tuple [a, b, c] k2 pt2) pos) (lS X.K (wPar3 i j l t)) := PS_imp (ps_par3 hc hN hi hj hl hij hil hjl hx hy hz ha hw hs) fun D σ H h => by
  obtain ⟨Z, α, ρ, μ, Dd, E, S, w, P, P2, P3, P4⟩ := h
  refine ⟨Z, α, ρ, μ, _, E, S, w, fun xs μ1 α1 H1 vs q1 e1 S1 r1 => ?_⟩
  unfold as3 at q1
  match xs, q1, r1 with
  | [c, d, e], q1, r1 =>
    obtain ⟨v, us, rfl, r2, r3⟩ := r1
    obtain ⟨u, us2, rfl, r4, r5⟩ := r3
    obtain ⟨w2, us3, rfl, r6, r7⟩ := r5
    obtain rfl : us3 = [] := r7
    exact ⟨v, u, w2, rfl, P _ μ1 α1 H1 _ q1 e1 S1 ((((E.ext S.lsts e1).put r2 i).put r4 j).put r6 l)⟩
/-- a constant of the module -/
theorem d_gc {x : Str} {v : V} {pos : Pos} (d : D) (hg : Gl X x) (h : ∃ u, X.mg x = some u ∧ RelV v u) (hr : ∀ Z α H, R X.K Z α H d v) (hn : x ≠ "__name__" := by decide) (hdb : (x == ("__debug__" : Str)) = false := by decide) : PE X (.Name x pos) (lE X.K (wC d)) := by
  obtain ⟨u, h1, h2⟩ := h
  exact d_c d (pe_glob hg h1 h2 hdb) hr
/-! ### a < b < c -/
def asCh (k : Sto → Prop) (Q : D → Sto → Prop) : D → Sto → Prop := fun z μ3 => match z with
  | .bl true => k μ3
  | .bl false => Q (.bl false) μ3
  | _ => False
theorem chain_low {r r' : W2} {wa wb wc : WE} {σ : L2.St} {H : Hp} {Q : VK} (h : lE X.K (wChain r r' wa wb wc) σ H Q) : tChain (l2 X.K r) (l2 X.K r') (lE X.K wa) (lE X.K wb) (lE X.K wc) σ H Q := by
  obtain ⟨Z, α, ρ, μ, Qd, E, S, w, P⟩ := h
  refine ⟨Z, α, ρ, μ, _, E, S, w, fun x μ1 α1 H1 u q1 e1 S1 r1 => ⟨Z, α1, ρ, μ1, _, E.ext S.lsts e1, S1, q1, fun y μ2 α2 H2 v q2 e2 S2 r2 => ?_⟩⟩
  refine ⟨Z, α2, μ2, x, y, _, S2, R_ext S1.lsts e2 x r1, r2, q2, fun z μ3 α3 H3 t q3 e3 S3 r3 => ?_⟩
  cases z with
  | bl c =>
    cases c with
    | true =>
      refine ⟨true, r3, ?_⟩
      rw [if_pos rfl]
      refine ⟨Z, α3, ρ, μ3, _, E.ext S.lsts ((e1.trans e2).trans e3), S3, q3, fun u' μ4 α4 H4 w' q4 e4 S4 r4 => ?_⟩
      exact ⟨Z, α4, μ4, y, u', _, S4, R_ext S2.lsts (e3.trans e4) y r2, r4, q4, P.on (((e1.trans e2).trans e3).trans e4)⟩
    | false =>
      refine ⟨false, r3, ?_⟩
      rw [if_neg (by decide)]
      exact P _ _ _ _ _ q3 ((e1.trans e2).trans e3) S3 rfl
  | _ => exact False.elim q3
theorem d_chain {op op' : CmpOp} {r r' : W2} {a b c : Expr} {wa wb wc : WE} {pos : Pos} (ho : DOp X (compareOp op) r) (ho' : DOp X (compareOp op') r') (ha : PE X a (lE X.K wa)) (hb : PE X b (lE X.K wb)) (hc : PE X c (lE X.K wc))
    (hm : lastMarks [op, op'] [b, c] = false := by with_unfolding_all rfl) : PE X (.Compare a [op, op'] [b, c] pos) (lE X.K (wChain r r' wa wb wc)) := PE_imp (pe_chain ho ho' ha hb hc hm) fun _ _ _ h => chain_low h
theorem t_chain {op op' : CmpOp} {r r' : W2} {a b c : Expr} {wa wb wc : WE} {pos : Pos} (ho : DOp X (compareOp op) r) (ho' : DOp X (compareOp op') r') (ha : PE X a (lE X.K wa)) (hb : PE X b (lE X.K wb)) (hc : PE X c (lE X.K wc))
    (hm : lastMarks [op, op'] [b, c] = false := by with_unfolding_all rfl) : PT X (.Compare a [op, op'] [b, c] pos) (lT X.K (wTest (wChain r r' wa wb wc))) := PT_imp (pt_chain ho ho' ha hb hc hm) fun _ _ _ h => chain_low (test_low h)
theorem x_chain {r r' : W2} {a b c : WE} {ρ : Env} {μ : Sto} {Q : D → Sto → Prop} (h : a ρ μ fun x μ1 => b ρ μ1 fun y μ2 => r x y μ2 (asB fun k μ3 => if k = true then c ρ μ3 fun u μ4 => r' y u μ4 Q else Q (.bl false) μ3)) : wChain r r' a b c ρ μ Q := by
  have e : ∀ y, (asB fun k μ3 => if k = true then c ρ μ3 fun u μ4 => r' y u μ4 Q else Q (.bl false) μ3) = fun z μ3 => match z with
      | .bl true => c ρ μ3 fun u μ4 => r' y u μ4 Q
      | .bl false => Q (.bl false) μ3
      | _ => False := by
    intro y
    funext x μ1
    cases x with
    | bl c => cases c <;> rfl
    | _ => rfl
  unfold wChain
  simp only [e] at h
  exact h
/-! ### in, not in: of flat data -/
def flatD : D → Bool
  | .non => true
  | .bl _ => true
  | .int _ => true
  | .str _ => true
  | _ => false
def eqF : D → D → Bool
  | .non, .non => true
  | .bl a, .bl b => a == b
  | .bl a, .int b => (if a then 1 else 0) == b
  | .int a, .bl b => a == (if b then 1 else 0)
  | .int a, .int b => a == b
  | .str a, .str b => a == b
  | _, _ => false
def wIn (neg : Bool) : W2 := fun a b μ Q => flatD a = true ∧ ∃ ds, sq μ b = some ds ∧ ds.all flatD = true ∧ Q (.bl (xor neg (ds.any fun y => eqF y a))) μ
theorem flat_of {K : PySem.W.Frag} {Z α : List Addr} {H : Hp} : ∀ {d e : D} {u v : V}, flatD d = true → flatD e = true → R K Z α H d u → R K Z α H e v → flatV u = true ∧ eqV u v = eqF d e := by
  intro d e u v h1 h2 r1 r2
  cases d <;> first | (cases h1; done) | skip
  all_goals cases e <;> first | (cases h2; done) | skip
  all_goals (simp only [R] at r1 r2; subst r1; subst r2; exact ⟨rfl, rfl⟩)
theorem in_of {K : PySem.W.Frag} {Z α : List Addr} {H : Hp} {a : D} {u : V} (h1 : flatD a = true) (r1 : R K Z α H a u) : ∀ {ds : List D} {vs : List V}, ds.all flatD = true → Rs K Z α H ds vs → vs.all flatV = true ∧ inV u vs = ds.any fun y => eqF y a
  | [], _, _, h => by simp only [Rs] at h; subst h; exact ⟨rfl, rfl⟩
  | d :: ds, _, hf, h => by
    simp only [Rs] at h
    obtain ⟨v, r, rfl, h2, h3⟩ := h
    rw [List.all_cons, Bool.and_eq_true] at hf
    obtain ⟨k1, k2⟩ := in_of h1 r1 hf.2 h3
    obtain ⟨k3, k4⟩ := flat_of hf.1 h1 h2 r1
    refine ⟨by rw [List.all_cons, k3, k1]; rfl, ?_⟩
    show (eqV v u || inV u r) = _
    rw [k2, k4, List.any_cons]
theorem in_low {neg : Bool} {x y : V} {H : Hp} {Q : VK} (h : l2 X.K (wIn neg) x y H Q) : rIn X.K neg x y H Q := by
  obtain ⟨Z, α, μ, a, b, Qd, S, ra, rb, ⟨fa, ds, hs, hf, q⟩, P⟩ := h
  obtain ⟨p, vs, rfl, k1, k2⟩ := sq_of S rb hs
  obtain ⟨k3, k4⟩ := in_of fa ra hf k2
  obtain ⟨k5, _⟩ := flat_of fa fa ra ra
  refine ⟨p, vs, rfl, k1, k5, k3, P _ _ _ _ _ q Ext.refl S ?_⟩
  rw [k4]
  cases neg <;> cases (ds.any fun y => eqF y a) <;> rfl
theorem o_in : DOp X (compareOp .In) (wIn false) := fun pins s σ H x y v u Q I rx ry q => op_in_seq pins s σ H x y v u Q I rx ry (in_low q)
theorem o_notIn : DOp X (compareOp .NotIn) (wIn true) := fun pins s σ H x y v u Q I rx ry q => op_notIn_seq pins s σ H x y v u Q I rx ry (in_low q)
theorem x_inL {neg : Bool} {ds : List D} {a : D} {μ : Sto} {Q : D → Sto → Prop} (e1 : flatD a = true) (e2 : ds.all flatD = true) (h : Q (.bl (xor neg (ds.any fun y => eqF y a))) μ) : wIn neg a (.lst ds) μ Q := ⟨e1, ds, rfl, e2, h⟩
theorem x_inT {neg : Bool} {ds : List D} {a : D} {μ : Sto} {Q : D → Sto → Prop} (e1 : flatD a = true) (e2 : ds.all flatD = true) (h : Q (.bl (xor neg (ds.any fun y => eqF y a))) μ) : wIn neg a (.tup ds) μ Q := ⟨e1, ds, rfl, e2, h⟩
end
end Dw
end
section
set_option linter.all false
set_option maxRecDepth 100000
/-! whole roots, and how Newton's steps come to them: plain numbers alone -/
namespace Rt
def isq : Nat → Nat
  | 0 => 0
  | n + 1 => if (isq n + 1) * (isq n + 1) ≤ n + 1 then isq n + 1 else isq n
theorem isq_spec : ∀ n : Nat, isq n * isq n ≤ n ∧ n < (isq n + 1) * (isq n + 1)
  | 0 => by simp [isq]
  | n + 1 => by
    obtain ⟨h1, h2⟩ := isq_spec n
    unfold isq
    split
    · rename_i h
      refine ⟨h, ?_⟩
      have e : (isq n + 1 + 1) * (isq n + 1 + 1) = (isq n + 1) * (isq n + 1) + 2 * (isq n + 1) + 1 := by grind
      omega
    · rename_i h
      exact ⟨by omega, by omega⟩
/-- the greatest whole number whose square is not above n -/
def rt (n : Int) : Int := (isq n.toNat : Int)
theorem rt_nn (n : Int) : 0 ≤ rt n := Int.natCast_nonneg _
theorem rt_le {n : Int} (h : 0 ≤ n) : rt n * rt n ≤ n := by
  have := (isq_spec n.toNat).1
  unfold rt
  have e : ((n.toNat : Nat) : Int) = n := Int.toNat_of_nonneg h
  have : ((isq n.toNat * isq n.toNat : Nat) : Int) ≤ (n.toNat : Int) := Int.ofNat_le.mpr this
  rw [e, Int.natCast_mul] at this
  exact this
theorem rt_lt {n : Int} (h : 0 ≤ n) : n < (rt n + 1) * (rt n + 1) := by
  have := (isq_spec n.toNat).2
  unfold rt
  have e : ((n.toNat : Nat) : Int) = n := Int.toNat_of_nonneg h
  have : (n.toNat : Int) < (((isq n.toNat + 1) * (isq n.toNat + 1) : Nat) : Int) := Int.ofNat_lt.mpr this
  rw [e, Int.natCast_mul] at this
  exact this
theorem sq_nn (a : Int) : 0 ≤ a * a := by
  rcases Int.le_total 0 a with h | h
  · exact Int.mul_nonneg h h
  · exact Int.mul_nonneg_of_nonpos_of_nonpos h h
theorem mul_mono {a b c d : Int} (h0 : 0 ≤ a) (h1 : a ≤ b) (h2 : 0 ≤ c) (h3 : c ≤ d) : a * c ≤ b * d :=
  Int.le_trans (Int.mul_le_mul_of_nonneg_right h1 h2) (Int.mul_le_mul_of_nonneg_left h3 (Int.le_trans h0 h1))
theorem lt_of_sq {a b : Int} (hb : 0 ≤ b) (h : a * a < b * b) : a < b := by
  by_cases k : a < b
  · exact k
  · have := mul_mono hb (Int.not_lt.mp k) hb (Int.not_lt.mp k)
    omega
theorem le_of_sq {a b : Int} (hb : 0 ≤ b) (h : a * a ≤ b * b) : a ≤ b := by
  by_cases k : a ≤ b
  · exact k
  · have h1 : b + 1 ≤ a := by omega
    have := mul_mono (by omega) h1 (by omega) h1
    have e : (b + 1) * (b + 1) = b * b + 2 * b + 1 := by grind
    omega
theorem rt_uniq {n r : Int} (h0 : 0 ≤ r) (h1 : r * r ≤ n) (h2 : n < (r + 1) * (r + 1)) : rt n = r := by
  have hn : 0 ≤ n := Int.le_trans (sq_nn r) h1
  have a := lt_of_sq (b := rt n + 1) (by have := rt_nn n; omega) (Int.lt_of_le_of_lt h1 (rt_lt hn))
  have b := lt_of_sq (b := r + 1) (by omega) (Int.lt_of_le_of_lt (rt_le hn) h2)
  omega
theorem rt_mono {n m : Int} (h0 : 0 ≤ n) (h : n ≤ m) : rt n ≤ rt m := by
  have := lt_of_sq (b := rt m + 1) (by have := rt_nn m; omega) (Int.lt_of_le_of_lt (Int.le_trans (rt_le h0) h) (rt_lt (by omega)))
  omega
theorem rt_self {a : Int} (h : 0 ≤ a) : rt (a * a) = a := rt_uniq h (Int.le_refl _) (by
  have e : (a + 1) * (a + 1) = a * a + 2 * a + 1 := by grind
  omega)
theorem rt_le_self {n : Int} (h : 0 ≤ n) : rt n ≤ n := by
  have := rt_le h
  have h2 := rt_nn n
  by_cases k : rt n = 0
  · omega
  · have : rt n * 1 ≤ rt n * rt n := Int.mul_le_mul_of_nonneg_left (by omega) h2
    omega
/-! ### Newton -/
theorem newton_ge {n x : Int} (h0 : 0 ≤ n) (hx : 0 < x) : rt n ≤ (x + n / x) / 2 := by
  by_cases k : rt n ≤ (x + n / x) / 2
  · exact k
  · have h1 : n < (n / x + 1) * x := Int.lt_ediv_add_one_mul_self n hx
    have h2 : (n / x + 1) * x ≤ (2 * rt n - x) * x := Int.mul_le_mul_of_nonneg_right (by omega) (by omega)
    have h3 := sq_nn (x - rt n)
    have h4 : (2 * rt n - x) * x = rt n * rt n - (x - rt n) * (x - rt n) := by grind
    have h5 := rt_le h0
    omega
theorem newton_stop {n x : Int} (h0 : 0 ≤ n) (hx : 0 < x) (h : rt n ≤ x) (hs : x ≤ (x + n / x) / 2) : x = rt n := by
  have h1 : n / x * x ≤ n := Int.ediv_mul_le n (by omega)
  have h2 : x * x ≤ n / x * x := Int.mul_le_mul_of_nonneg_right (by omega) (by omega)
  have := lt_of_sq (b := rt n + 1) (by have := rt_nn n; omega) (Int.lt_of_le_of_lt (Int.le_trans h2 h1) (rt_lt h0))
  omega
/-- from x the steps stop within k of them -/
def conv (n : Int) : Nat → Int → Prop
  | 0, _ => False
  | k + 1, x => x ≤ (x + n / x) / 2 ∨ ((x + n / x) / 2 < x ∧ conv n k ((x + n / x) / 2))
theorem conv_mono {n : Int} : ∀ {k m : Nat} {x : Int}, k ≤ m → conv n k x → conv n m x
  | 0, _, _, _, h => h.elim
  | k + 1, 0, _, h, _ => by omega
  | k + 1, m + 1, x, h, q => by
    rcases q with q | ⟨q1, q2⟩
    · exact .inl q
    · exact .inr ⟨q1, conv_mono (by omega) q2⟩
theorem conv_near {n : Int} (h0 : 0 < n) : ∀ (j : Nat) {x : Int}, rt n ≤ x → 0 < x → x ≤ rt n + j → conv n (j + 1) x
  | 0, x, h1, h2, h3 => by
    have := newton_ge (x := x) (Int.le_of_lt h0) h2
    exact .inl (by omega)
  | j + 1, x, h1, h2, h3 => by
    have g := newton_ge (x := x) (Int.le_of_lt h0) h2
    by_cases k : x ≤ (x + n / x) / 2
    · exact .inl k
    · refine .inr ⟨by omega, conv_near h0 j g ?_ (by omega)⟩
      have r1 : 1 ≤ rt n := by
        have := rt_lt (Int.le_of_lt h0)
        have h4 := rt_nn n
        by_cases z : rt n = 0
        · rw [z] at this; omega
        · omega
      omega
theorem rt_pos {n : Int} (h0 : 0 < n) : 1 ≤ rt n := by
  have := rt_lt (Int.le_of_lt h0)
  have h4 := rt_nn n
  by_cases z : rt n = 0
  · rw [z] at this; omega
  · omega
/-- 2 x (e' - 1) is at most e e -/
theorem newton_quad {n x : Int} (h0 : 0 < n) (hx : 0 < x) (h : rt n ≤ x) : 2 * x * ((x + n / x) / 2 - rt n - 1) ≤ (x - rt n) * (x - rt n) := by
  generalize hy : (x + n / x) / 2 = y
  have h1 : n / x * x ≤ n := Int.ediv_mul_le n (by omega)
  have h2 : 2 * y ≤ x + n / x := by omega
  have h3 : 2 * y * x ≤ (x + n / x) * x := Int.mul_le_mul_of_nonneg_right h2 (by omega)
  have h4 : (x + n / x) * x = x * x + n / x * x := by grind
  have h5 := rt_lt (Int.le_of_lt h0)
  have h6 : (rt n + 1) * (rt n + 1) = rt n * rt n + 2 * rt n + 1 := by grind
  have h7 : 2 * x * (y - rt n - 1) = 2 * y * x - 2 * (rt n * x) - 2 * x := by grind
  have h8 : (x - rt n) * (x - rt n) = x * x - 2 * (rt n * x) + rt n * rt n := by grind
  omega
theorem newton_half {n x : Int} (h0 : 0 < n) (hx : 0 < x) (h : rt n ≤ x) : 2 * ((x + n / x) / 2 - rt n - 1) ≤ x - rt n := by
  have q := newton_quad h0 hx h
  by_cases k : 2 * ((x + n / x) / 2 - rt n - 1) ≤ x - rt n
  · exact k
  · have h1 : x * (x - rt n + 1) ≤ x * (2 * ((x + n / x) / 2 - rt n - 1)) := Int.mul_le_mul_of_nonneg_left (by omega) (by omega)
    have h2 : x * (2 * ((x + n / x) / 2 - rt n - 1)) = 2 * x * ((x + n / x) / 2 - rt n - 1) := by grind
    have h3 : (x - rt n) * (x - rt n) ≤ x * (x - rt n) := Int.mul_le_mul_of_nonneg_right (by have := rt_nn n; omega) (by omega)
    have h4 : x * (x - rt n + 1) = x * (x - rt n) + x := by grind
    omega
theorem conv_quad {n : Int} (h0 : 0 < n) : ∀ (j : Nat) (T : Nat) {x : Int}, 1 ≤ T → rt n ≤ x → 0 < x → (x - rt n) * (T : Int) ≤ rt n → rt n < ((T ^ (2 ^ j) : Nat) : Int) → conv n (j + 2) x
  | 0, T, x, hT, h1, h2, h3, h4 => by
    refine conv_mono (by omega) (conv_near h0 0 h1 h2 ?_)
    have e : (T ^ (2 ^ 0) : Nat) = T := by simp
    rw [e] at h4
    by_cases z : x - rt n = 0
    · omega
    · have : 1 * (T : Int) ≤ (x - rt n) * (T : Int) := Int.mul_le_mul_of_nonneg_right (by omega) (by omega)
      omega
  | j + 1, T, x, hT, h1, h2, h3, h4 => by
    have g := newton_ge (x := x) (Int.le_of_lt h0) h2
    have r1 := rt_pos h0
    by_cases k : x ≤ (x + n / x) / 2
    · exact .inl k
    · refine .inr ⟨by omega, ?_⟩
      have q := newton_quad h0 h2 h1
      generalize hy : (x + n / x) / 2 = y at g k q ⊢
      by_cases near : y ≤ rt n + 1
      · exact conv_mono (by omega) (conv_near h0 1 g (by omega) (by omega))
      · refine conv_quad h0 j (T * T) (Nat.mul_pos hT hT) g (by omega) ?_ ?_
        · have a1 : 2 * rt n * (y - rt n - 1) ≤ 2 * x * (y - rt n - 1) := Int.mul_le_mul_of_nonneg_right (by omega) (by omega)
          have a2 : 2 * rt n * (y - rt n - 1) ≤ (x - rt n) * (x - rt n) := Int.le_trans a1 q
          have a3 : (2 * rt n * (y - rt n - 1)) * ((T : Int) * T) ≤ ((x - rt n) * (x - rt n)) * ((T : Int) * T) := Int.mul_le_mul_of_nonneg_right a2 (Int.mul_nonneg (by omega) (by omega))
          have a4 : ((x - rt n) * (x - rt n)) * ((T : Int) * T) = ((x - rt n) * T) * ((x - rt n) * T) := by grind
          have a5 : ((x - rt n) * T) * ((x - rt n) * T) ≤ rt n * rt n := mul_mono (Int.mul_nonneg (by omega) (by omega)) h3 (Int.mul_nonneg (by omega) (by omega)) h3
          have a6 : (2 * rt n * (y - rt n - 1)) * ((T : Int) * T) = rt n * (2 * (y - rt n - 1) * ((T : Int) * T)) := by grind
          have a7 : rt n * (2 * (y - rt n - 1) * ((T : Int) * T)) ≤ rt n * rt n := by omega
          have a8 : 2 * (y - rt n - 1) * ((T : Int) * T) ≤ rt n := Int.le_of_mul_le_mul_left a7 (by omega)
          have a9 : (y - rt n) * ((T : Int) * T) ≤ 2 * (y - rt n - 1) * ((T : Int) * T) := Int.mul_le_mul_of_nonneg_right (by omega) (Int.mul_nonneg (by omega) (by omega))
          rw [Int.natCast_mul]
          omega
        · have e : (T * T) ^ (2 ^ j) = T ^ (2 ^ (j + 1)) := by
            rw [← Nat.pow_two, ← Nat.pow_mul, Nat.pow_succ 2 j, Nat.mul_comm]
          rw [e]
          exact h4
theorem conv_half {n : Int} (h0 : 0 < n) (c : Int) (K : Nat) (hK : ∀ x, rt n ≤ x → 0 < x → x - rt n ≤ 2 + c → conv n K x) : ∀ (m : Nat) {x : Int}, rt n ≤ x → 0 < x → x - rt n ≤ 2 + ((2 ^ m : Nat) : Int) * c → conv n (m + K) x
  | 0, x, h1, h2, h3 => by
    rw [Nat.zero_add]
    exact hK x h1 h2 (by simpa using h3)
  | m + 1, x, h1, h2, h3 => by
    rw [show m + 1 + K = (m + K) + 1 by omega]
    have g := newton_ge (x := x) (Int.le_of_lt h0) h2
    have q := newton_half h0 h2 h1
    have r1 := rt_pos h0
    by_cases k : x ≤ (x + n / x) / 2
    · exact .inl k
    · refine .inr ⟨by omega, conv_half h0 c K hK m g (by omega) ?_⟩
      have e : ((2 ^ (m + 1) : Nat) : Int) * c = 2 * (((2 ^ m : Nat) : Int) * c) := by
        rw [Nat.pow_succ, Int.natCast_mul]
        grind
      omega
/-- from at most 32 times the root 353 steps are enough, for roots below 2^4096 -/
theorem conv_32 {n x : Int} (h0 : 0 < n) (hb : rt n < ((2 ^ (2 ^ 12) : Nat) : Int)) (h1 : rt n ≤ x) (h2 : 0 < x) (h3 : x ≤ 32 * rt n + 32) : conv n 1200 x := by
  by_cases k : rt n ≤ 10
  · exact conv_mono (by decide) (conv_near h0 352 h1 h2 (by omega))
  · refine conv_mono (k := 7 + (12 + 2)) (by decide) (conv_half h0 (rt n / 2 - 2) (12 + 2) (fun y a b c => ?_) 7 h1 h2 ?_)
    · exact conv_quad h0 12 2 (by decide) a b (by omega) hb
    · have e : ((2 ^ 7 : Nat) : Int) = 128 := by decide
      rw [e]
      omega
end Rt
end
section
set_option Elab.async false
set_option linter.all false
set_option maxRecDepth 100000
namespace Rt
open PySem PySem.Spec PyProof.Rows L2 Dw
theorem str_len {n : Int} (h : 1 ≤ n) : n < ((10 ^ (Str.ofString (toString n)).length : Nat) : Int) ∧ ((10 ^ ((Str.ofString (toString n)).length - 1) : Nat) : Int) ≤ n ∧ 1 ≤ (Str.ofString (toString n)).length := by
  obtain ⟨m, rfl⟩ := Int.eq_ofNat_of_zero_le (show 0 ≤ n by omega)
  have e : (Str.ofString (toString (m : Int))).length = m.repr.length := by
    rw [PySem.ofString_length]
    rfl
  rw [e]
  have p : 0 < m.repr.length := Nat.length_repr_pos
  refine ⟨Int.ofNat_lt.mpr ((Nat.length_repr_le_iff p).mp (Nat.le_refl _)), ?_, p⟩
  by_cases k : m.repr.length - 1 = 0
  · rw [k]; omega
  · refine Int.ofNat_le.mpr (Nat.not_lt.mp fun z => ?_)
    have := (Nat.length_repr_le_iff (show 0 < m.repr.length - 1 by omega)).mpr z
    omega
theorem len_le {n : Int} {k : Nat} (h : 1 ≤ n) (hk : n < ((10 ^ k : Nat) : Int)) : (Str.ofString (toString n)).length ≤ k := by
  obtain ⟨_, h2, h3⟩ := str_len h
  have : 10 ^ ((Str.ofString (toString n)).length - 1) < 10 ^ k := by exact_mod_cast Int.lt_of_le_of_lt h2 hk
  have := (Nat.pow_lt_pow_iff_right (show 1 < 10 by decide)).mp this
  omega
/-- the start by the number of figures: not below the root, at most 32 times it -/
theorem start_dec {n : Int} {L : Nat} (h1 : n < ((10 ^ L : Nat) : Int)) (h2 : ((10 ^ (L - 1) : Nat) : Int) ≤ n) (h3 : 1 ≤ L) : rt n ≤ ((10 ^ (L / 2 + 1) : Nat) : Int) ∧ ((10 ^ (L / 2 + 1) : Nat) : Int) ≤ 32 * rt n + 32 := by
  have n0 : 0 ≤ n := Int.le_trans (Int.natCast_nonneg _) h2
  have sq : ((10 ^ (L / 2 + 1) : Nat) : Int) * ((10 ^ (L / 2 + 1) : Nat) : Int) = ((10 ^ (L / 2 + 1 + (L / 2 + 1)) : Nat) : Int) := by
    rw [← Int.natCast_mul, ← Nat.pow_add]
  constructor
  · refine le_of_sq (Int.natCast_nonneg _) ?_
    rw [sq]
    have : (10 ^ L : Nat) ≤ 10 ^ (L / 2 + 1 + (L / 2 + 1)) := Nat.pow_le_pow_right (by decide) (by omega)
    have := Int.ofNat_le.mpr this
    have := rt_le n0
    omega
  · refine Int.le_of_lt (lt_of_sq (by have := rt_nn n; omega) ?_)
    rw [sq]
    have a : (10 ^ (L / 2 + 1 + (L / 2 + 1)) : Nat) ≤ 10 ^ (3 + (L - 1)) := Nat.pow_le_pow_right (by decide) (by omega)
    rw [Nat.pow_add 10 3] at a
    have a := Int.ofNat_le.mpr a
    rw [Int.natCast_mul] at a
    have b := rt_lt n0
    have c : (32 * rt n + 32) * (32 * rt n + 32) = 1024 * ((rt n + 1) * (rt n + 1)) := by grind
    have d : ((10 ^ 3 : Nat) : Int) = 1000 := by decide
    rw [d] at a
    omega
/-- the start by the number of bits -/
theorem half_bits (n : Int) : ((((Builtin.Int.intBits n : Nat) : Int) + 1).fdiv 2).toNat = (Builtin.Int.intBits n + 1) / 2 := by
  rw [Int.fdiv_eq_ediv_of_nonneg _ (by decide)]
  omega
theorem start_bits {n : Int} (h : 0 < n) : rt n ≤ 1 * (2 : Int) ^ ((((Builtin.Int.intBits n : Nat) : Int) + 1).fdiv 2).toNat := by
  rw [half_bits, Int.one_mul]
  obtain ⟨m, rfl⟩ := Int.eq_ofNat_of_zero_le (Int.le_of_lt h)
  have hb : Builtin.Int.intBits (m : Int) = m.log2 + 1 := by
    unfold Builtin.Int.intBits
    rw [if_neg (by simp; omega)]
    rfl
  rw [hb]
  have lt : m < 2 ^ (m.log2 + 1) := Nat.lt_log2_self
  refine le_of_sq (by exact_mod_cast Nat.zero_le _) ?_
  have e : ((2 : Int) ^ ((m.log2 + 1 + 1) / 2)) * ((2 : Int) ^ ((m.log2 + 1 + 1) / 2)) = ((2 ^ ((m.log2 + 1 + 1) / 2 + (m.log2 + 1 + 1) / 2) : Nat) : Int) := by
    rw [Nat.pow_add]
    push_cast
    rfl
  rw [e]
  have a : (2 ^ (m.log2 + 1) : Nat) ≤ 2 ^ ((m.log2 + 1 + 1) / 2 + (m.log2 + 1 + 1) / 2) := Nat.pow_le_pow_right (by decide) (by omega)
  have := rt_le (Int.le_of_lt h)
  have := Int.ofNat_le.mpr a
  omega
end Rt
end
section
set_option linter.all false
set_option maxRecDepth 100000
/-! the sign of a √g + b √s - c against the whole roots of g K K, s K K: plain numbers alone -/
namespace Rt
theorem sq_lt {a b : Int} (h0 : 0 ≤ a) (h : a < b) : a * a < b * b := by
  have e : b * b = a * a + (b - a) * (b + a) := by grind
  have := Int.mul_pos (show 0 < b - a by omega) (show 0 < b + a by omega)
  omega
theorem sq_le {a b : Int} (h0 : 0 ≤ a) (h : a ≤ b) : a * a ≤ b * b := mul_mono h0 h h0 h
/-- the sum is above C -/
theorem plus_up {p q G S C : Int} (p0 : 0 ≤ p) (q0 : 0 ≤ q) (hp : p * p ≤ G) (hq : q * q ≤ S) (c0 : 0 ≤ C) (h : C < p + q) (r : 0 ≤ C * C - G - S) : (C * C - G - S) * (C * C - G - S) < 4 * (G * S) := by
  have a := sq_lt c0 h
  have e : (p + q) * (p + q) = p * p + 2 * (p * q) + q * q := by grind
  have b := sq_lt r (show C * C - G - S < 2 * (p * q) by omega)
  have e2 : 2 * (p * q) * (2 * (p * q)) = 4 * ((p * p) * (q * q)) := by grind
  have d := mul_mono (sq_nn p) hp (sq_nn q) hq
  omega
/-- the sum is below C -/
theorem plus_down {p q G S C : Int} (p0 : 0 ≤ p) (q0 : 0 ≤ q) (G0 : 0 ≤ G) (S0 : 0 ≤ S) (hp : G < (p + 1) * (p + 1)) (hq : S < (q + 1) * (q + 1)) (h : (p + 1) + (q + 1) ≤ C) : 0 < C * C - G - S ∧ 4 * (G * S) < (C * C - G - S) * (C * C - G - S) := by
  have a := sq_le (a := (p + 1) + (q + 1)) (by omega) h
  have e : ((p + 1) + (q + 1)) * ((p + 1) + (q + 1)) = (p + 1) * (p + 1) + 2 * ((p + 1) * (q + 1)) + (q + 1) * (q + 1) := by grind
  have pos := Int.mul_pos (show 0 < p + 1 by omega) (show 0 < q + 1 by omega)
  have b := sq_lt (a := 2 * ((p + 1) * (q + 1))) (by omega) (show 2 * ((p + 1) * (q + 1)) < C * C - G - S by omega)
  have e2 : 2 * ((p + 1) * (q + 1)) * (2 * ((p + 1) * (q + 1))) = 4 * (((p + 1) * (p + 1)) * ((q + 1) * (q + 1))) := by grind
  have d := mul_mono G0 (Int.le_of_lt hp) S0 (Int.le_of_lt hq)
  exact ⟨by omega, by omega⟩
/-- the difference is above C, C above 0 -/
theorem minus_up {p q G S C : Int} (q0 : 0 ≤ q) (S0 : 0 ≤ S) (hp : p * p ≤ G) (hq : S < (q + 1) * (q + 1)) (c0 : 0 < C) (h : (q + 1) + C ≤ p) : C * C - G - S < 0 ∧ 4 * (G * S) < (C * C - G - S) * (C * C - G - S) := by
  have a := sq_le (a := (q + 1) + C) (by omega) h
  have e : ((q + 1) + C) * ((q + 1) + C) = (q + 1) * (q + 1) + 2 * (C * (q + 1)) + C * C := by grind
  have pos := Int.mul_pos c0 (show 0 < q + 1 by omega)
  have b := sq_lt (a := 2 * (C * (q + 1))) (by omega) (show 2 * (C * (q + 1)) < G - S - C * C by omega)
  have e2 : 2 * (C * (q + 1)) * (2 * (C * (q + 1))) = 4 * ((C * C) * ((q + 1) * (q + 1))) := by grind
  have d : (C * C) * S ≤ (C * C) * ((q + 1) * (q + 1)) := Int.mul_le_mul_of_nonneg_left (Int.le_of_lt hq) (sq_nn C)
  have i : (C * C - G - S) * (C * C - G - S) - 4 * (G * S) = (G - S - C * C) * (G - S - C * C) - 4 * ((C * C) * S) := by grind
  exact ⟨by omega, by omega⟩
/-- the difference is above -D, D above 0, and below 0 -/
theorem minus_mid {p q G S D : Int} (p0 : 0 ≤ p) (G0 : 0 < G) (hp : p * p ≤ G) (hp' : G < (p + 1) * (p + 1)) (q0 : 0 ≤ q) (hq : S < (q + 1) * (q + 1)) (d0 : 0 < D) (h : q + 1 ≤ p + D) (gs : G < S) (r : D * D - G - S ≤ 0) : (D * D - G - S) * (D * D - G - S) < 4 * (G * S) := by
  have i : (D * D - G - S) * (D * D - G - S) - 4 * (G * S) = (S - G - D * D) * (S - G - D * D) - 4 * (G * (D * D)) := by grind
  have a := sq_le (a := q + 1) (by omega) h
  have e : (p + D) * (p + D) = p * p + 2 * (p * D) + D * D := by grind
  have up : S - G - D * D < 2 * (p * D) := by omega
  have up2 : 2 * (p * D) * (2 * (p * D)) = 4 * ((p * p) * (D * D)) := by grind
  have up3 : (p * p) * (D * D) ≤ G * (D * D) := Int.mul_le_mul_of_nonneg_right hp (sq_nn D)
  by_cases neg : 0 ≤ S - G - D * D
  · have := sq_lt neg up
    omega
  · have sw : (S - G - D * D) * (S - G - D * D) = (G + D * D - S) * (G + D * D - S) := by grind
    by_cases k : D ≤ 2 * p
    · have b : D * D ≤ 2 * p * D := Int.mul_le_mul_of_nonneg_right k (by omega)
      have e3 : 2 * p * D = 2 * (p * D) := by grind
      have c := sq_lt (a := G + D * D - S) (b := 2 * (p * D)) (by omega) (by omega)
      omega
    · have b := sq_le (a := p + 1) (b := D) (by omega) (by omega)
      have c := sq_le (a := G + D * D - S) (b := 2 * G) (by omega) (by omega)
      have e3 : 2 * G * (2 * G) = 4 * (G * G) := by grind
      have d : G * G < G * (D * D) := Int.mul_lt_mul_of_pos_left (by omega) G0
      omega
theorem scale_lt {x y w : Int} (hw : 0 < w) (h : x * w < y * w) : x < y := Int.lt_of_mul_lt_mul_right h (Int.le_of_lt hw)
/-- what is nearly 0 is 0 -/
theorem tiny {g s r K p q e B : Int} (hB : 1 ≤ B) (hK : 200 * (B * B * B) < K) (p0 : 0 ≤ p) (q0 : 0 ≤ q) (hp : p * p ≤ g * (K * K)) (hp' : g * (K * K) < (p + 1) * (p + 1)) (hq : q * q ≤ s * (K * K)) (hq' : s * (K * K) < (q + 1) * (q + 1))
    (pB : p ≤ B * K) (qB : q ≤ B * K) (he : (e = 1 ∨ e = -1)) (d1 : 2 * (p * q) - e * (r * (K * K)) ≤ 21 * (B * K)) (d2 : -(21 * (B * K)) ≤ 2 * (p * q) - e * (r * (K * K))) : r * r = 4 * g * s := by
  have hB3 : 1 ≤ B * B * B := by
    have := mul_mono (show (0 : Int) ≤ 1 by decide) hB (show (0 : Int) ≤ 1 by decide) hB
    have := mul_mono (show (0 : Int) ≤ 1 by decide) (show 1 ≤ B * B by omega) (show (0 : Int) ≤ 1 by decide) hB
    omega
  have K0 : 200 < K := by omega
  generalize hW : K * K = W at *
  generalize hb : B * K = b at *
  have bK : K ≤ b := by
    have := Int.mul_le_mul_of_nonneg_right hB (show 0 ≤ K by omega)
    omega
  generalize hY : p * q = Y at *
  have Y0 : 0 ≤ Y := by rw [← hY]; exact Int.mul_nonneg p0 q0
  have YB : Y ≤ b * b := by rw [← hY]; exact mul_mono p0 pB q0 qB
  generalize hX : r * W = X at *
  have dd : (2 * Y - e * X) * (2 * Y - e * X) ≤ 21 * b * (21 * b) := by
    have h1 : 0 ≤ (21 * b - (2 * Y - e * X)) * (21 * b + (2 * Y - e * X)) := Int.mul_nonneg (by omega) (by omega)
    have h2 : (21 * b - (2 * Y - e * X)) * (21 * b + (2 * Y - e * X)) = 21 * b * (21 * b) - (2 * Y - e * X) * (2 * Y - e * X) := by grind
    omega
  have id1 : 2 * Y * (2 * Y) - X * X = 4 * (Y * (2 * Y - e * X)) - (2 * Y - e * X) * (2 * Y - e * X) := by
    rcases he with rfl | rfl <;> grind
  have yd1 : Y * (2 * Y - e * X) ≤ b * b * (21 * b) := Int.le_trans (Int.mul_le_mul_of_nonneg_left d1 Y0) (Int.mul_le_mul_of_nonneg_right YB (by omega))
  have yd2 : -(b * b * (21 * b)) ≤ Y * (2 * Y - e * X) := by
    have h1 := Int.mul_le_mul_of_nonneg_left (show -(2 * Y - e * X) ≤ 21 * b by omega) Y0
    have h2 := Int.mul_le_mul_of_nonneg_right YB (show 0 ≤ 21 * b by omega)
    have h3 : Y * -(2 * Y - e * X) = -(Y * (2 * Y - e * X)) := by grind
    omega
  have sq0 := sq_nn (2 * Y - e * X)
  -- 4 G S against 4 p p q q
  generalize hG : g * W = G at *
  generalize hS : s * W = S at *
  have e1 : (p + 1) * (p + 1) = p * p + 2 * p + 1 := by grind
  have e2 : (q + 1) * (q + 1) = q * q + 2 * q + 1 := by grind
  have g1 : p * p * (q * q) ≤ G * S := mul_mono (sq_nn p) hp (sq_nn q) hq
  have g2 : G * S ≤ (p * p + 2 * p) * (q * q + 2 * q) := mul_mono (Int.le_trans (sq_nn p) hp) (by omega) (Int.le_trans (sq_nn q) hq) (by omega)
  have g3 : (p * p + 2 * p) * (q * q + 2 * q) = Y * Y + 2 * (Y * p) + 2 * (Y * q) + 4 * Y := by rw [← hY]; grind
  have g4 : p * p * (q * q) = Y * Y := by rw [← hY]; grind
  have yp : Y * p ≤ b * b * b := mul_mono Y0 YB p0 pB
  have yq : Y * q ≤ b * b * b := mul_mono Y0 YB q0 qB
  have bb : 200 * (b * b) ≤ b * b * b := by
    have := Int.mul_le_mul_of_nonneg_left (show 200 ≤ b by omega) (sq_nn b)
    omega
  have b3 : b * b * (21 * b) = 21 * (b * b * b) := by grind
  have b2 : 21 * b * (21 * b) = 441 * (b * b) := by grind
  have y2 : 2 * Y * (2 * Y) = 4 * (Y * Y) := by grind
  -- b b b is small against W W
  have small : 200 * (b * b * b) < W * W := by
    have h1 : b * b * b = (B * B * B) * (K * K * K) := by rw [← hb]; grind
    have h2 : W * W = K * (K * K * K) := by rw [← hW]; grind
    have h3 : 0 < K * K * K := Int.mul_pos (Int.mul_pos (by omega) (by omega)) (by omega)
    have h4 := Int.mul_lt_mul_of_pos_right hK h3
    have h5 : 200 * (B * B * B) * (K * K * K) = 200 * ((B * B * B) * (K * K * K)) := by grind
    omega
  have fin : (4 * g * s - r * r) * (W * W) = 4 * (G * S) - X * X := by rw [← hG, ← hS, ← hX]; grind
  have b3p : 0 ≤ b * b * b := Int.mul_nonneg (sq_nn b) (by omega)
  have WW : 0 < W * W := by omega
  have up : (4 * g * s - r * r) * (W * W) < W * W := by omega
  have dn : -(W * W) < (4 * g * s - r * r) * (W * W) := by omega
  have n1 : 4 * g * s - r * r < 1 := Int.lt_of_mul_lt_mul_right (a := W * W) (by omega) (by omega)
  have n2 : -1 < 4 * g * s - r * r := Int.lt_of_mul_lt_mul_right (a := W * W) (by omega) (by omega)
  omega
end Rt
end
section
set_option Elab.async false
set_option linter.all false
set_option maxRecDepth 100000
set_option maxHeartbeats 4000000

namespace K60
open PySem PySem.Spec PyProof.Rows L2 Dw

def topS (i : Nat) : Stmt := PySem.Challenge.pw_lastfigure_k60_figures_for_roots.main.body.getD i (.Pass ⟨0, 0, 0, 0⟩)
abbrev s_is_number : Stmt := topS 1
abbrev n_is_number : List Str := ["value"]
theorem sc_is_number : FnScope n_is_number ["value"] (defScope s_is_number) := ⟨rfl, rfl, rfl, by decide +kernel, rfl, by decide +kernel, by decide +kernel⟩
abbrev s_is_from_to : Stmt := topS 2
abbrev n_is_from_to : List Str := ["value", "low", "high"]
theorem sc_is_from_to : FnScope n_is_from_to ["value", "low", "high"] (defScope s_is_from_to) := ⟨rfl, rfl, rfl, by decide +kernel, rfl, by decide +kernel, by decide +kernel⟩
abbrev s_tens : Stmt := topS 4
abbrev n_tens : List Str := ["many", "found", "_"]
theorem sc_tens : FnScope n_tens ["many"] (defScope s_tens) := ⟨rfl, rfl, rfl, by decide +kernel, rfl, by decide +kernel, by decide +kernel⟩
abbrev s_floor_root : Stmt := topS 6
abbrev n_floor_root : List Str := ["number", "guess", "better"]
theorem sc_floor_root : FnScope n_floor_root ["number"] (defScope s_floor_root) := ⟨rfl, rfl, rfl, by decide +kernel, rfl, by decide +kernel, by decide +kernel⟩
abbrev s_ground_of : Stmt := topS 9
abbrev n_ground_of : List Str := ["p"]
theorem sc_ground_of : FnScope n_ground_of ["p"] (defScope s_ground_of) := ⟨rfl, rfl, rfl, by decide +kernel, rfl, by decide +kernel, by decide +kernel⟩
abbrev s_border_below : Stmt := topS 10
abbrev n_border_below : List Str := ["ground", "root"]
theorem sc_border_below : FnScope n_border_below ["ground"] (defScope s_border_below) := ⟨rfl, rfl, rfl, by decide +kernel, rfl, by decide +kernel, by decide +kernel⟩
abbrev s_border_by : Stmt := topS 11
abbrev n_border_by : List Str := ["ground", "side", "below", "middle"]
theorem sc_border_by : FnScope n_border_by ["ground", "side"] (defScope s_border_by) := ⟨rfl, rfl, rfl, by decide +kernel, rfl, by decide +kernel, by decide +kernel⟩
abbrev s_sum_sign : Stmt := topS 12
abbrev n_sum_sign : List Str := ["one", "ground", "other", "second", "number", "first", "rest", "product", "more"]
theorem sc_sum_sign : FnScope n_sum_sign ["one", "ground", "other", "second", "number"] (defScope s_sum_sign) := ⟨rfl, rfl, rfl, by decide +kernel, rfl, by decide +kernel, by decide +kernel⟩
abbrev s_room_order : Stmt := topS 13
abbrev n_room_order : List Str := ["x", "ground", "y", "second", "one", "other"]
theorem sc_room_order : FnScope n_room_order ["x", "ground", "y", "second"] (defScope s_room_order) := ⟨rfl, rfl, rfl, by decide +kernel, rfl, by decide +kernel, by decide +kernel⟩
abbrev s_worst_of_few : Stmt := topS 32
abbrev n_worst_of_few : List Str := ["least", "most", "p", "side", "unit", "best", "border", "N", "x"]
theorem sc_worst_of_few : FnScope n_worst_of_few ["least", "most", "p", "side"] (defScope s_worst_of_few) := ⟨rfl, rfl, rfl, by decide +kernel, rfl, by decide +kernel, by decide +kernel⟩
abbrev s_worst_of_many : Stmt := topS 34
def S_worst_of_many : WF := fun _ _ _ => False
abbrev s_worst_up_to : Stmt := topS 35
abbrev n_worst_up_to : List Str := ["most", "p", "side"]
theorem sc_worst_up_to : FnScope n_worst_up_to ["most", "p", "side"] (defScope s_worst_up_to) := ⟨rfl, rfl, rfl, by decide +kernel, rfl, by decide +kernel, by decide +kernel⟩
abbrev s_most_figured : Stmt := topS 36
abbrev n_most_figured : List Str := ["a"]
theorem sc_most_figured : FnScope n_most_figured ["a"] (defScope s_most_figured) := ⟨rfl, rfl, rfl, by decide +kernel, rfl, by decide +kernel, by decide +kernel⟩
abbrev s_worst_root : Stmt := topS 38
abbrev n_worst_root : List Str := ["a", "p", "side"]
theorem sc_worst_root : FnScope n_worst_root ["a", "p", "side"] (defScope s_worst_root) := ⟨rfl, rfl, rfl, by decide +kernel, rfl, by decide +kernel, by decide +kernel⟩
abbrev s_is_enough : Stmt := topS 39
abbrev n_is_enough : List Str := ["N", "p", "side", "w", "ground", "fine", "x"]
theorem sc_is_enough : FnScope n_is_enough ["N", "p", "side", "w"] (defScope s_is_enough) := ⟨rfl, rfl, rfl, by decide +kernel, rfl, by decide +kernel, by decide +kernel⟩
abbrev s_least_for_side : Stmt := topS 40
abbrev n_least_for_side : List Str := ["a", "p", "side", "N", "w"]
theorem sc_least_for_side : FnScope n_least_for_side ["a", "p", "side"] (defScope s_least_for_side) := ⟨rfl, rfl, rfl, by decide +kernel, rfl, by decide +kernel, by decide +kernel⟩
abbrev s_least_for_roots : Stmt := topS 41
abbrev n_least_for_roots : List Str := ["a", "p", "side"]
theorem sc_least_for_roots : FnScope n_least_for_roots ["a", "p", "side"] (defScope s_least_for_roots) := ⟨rfl, rfl, rfl, by decide +kernel, rfl, by decide +kernel, by decide +kernel⟩
abbrev s_judge_for_roots : Stmt := topS 42
abbrev n_judge_for_roots : List Str := ["a", "p", "side", "w", "value"]
theorem sc_judge_for_roots : FnScope n_judge_for_roots ["a", "p", "side", "w", "value"] (defScope s_judge_for_roots) := ⟨rfl, rfl, rfl, by decide +kernel, rfl, by decide +kernel, by decide +kernel⟩
abbrev s_L_flow : Stmt := topS 44
abbrev n_L_flow : List Str := ["script", "cell"]
theorem sc_L_flow : FnScope n_L_flow ["script"] (defScope s_L_flow) := ⟨rfl, rfl, rfl, by decide +kernel, rfl, by decide +kernel, by decide +kernel⟩
abbrev s_L_draw : Stmt := topS 45
abbrev n_L_draw : List Str := ["flow", "many", "got", "cell", "first", "second"]
theorem sc_L_draw : FnScope n_L_draw ["flow", "many"] (defScope s_L_draw) := ⟨rfl, rfl, rfl, by decide +kernel, rfl, by decide +kernel, by decide +kernel⟩
abbrev s_L_pick : Stmt := topS 46
abbrev n_L_pick : List Str := ["flow", "things"]
theorem sc_L_pick : FnScope n_L_pick ["flow", "things"] (defScope s_L_pick) := ⟨rfl, rfl, rfl, by decide +kernel, rfl, by decide +kernel, by decide +kernel⟩
abbrev s_L_is_whole : Stmt := topS 47
abbrev n_L_is_whole : List Str := ["value"]
theorem sc_L_is_whole : FnScope n_L_is_whole ["value"] (defScope s_L_is_whole) := ⟨rfl, rfl, rfl, by decide +kernel, rfl, by decide +kernel, by decide +kernel⟩
abbrev s_L_same : Stmt := topS 48
abbrev n_L_same : List Str := ["found", "due", "k"]
theorem sc_L_same : FnScope n_L_same ["found", "due"] (defScope s_L_same) := ⟨rfl, rfl, rfl, by decide +kernel, rfl, by decide +kernel, by decide +kernel⟩
abbrev s_L_ten : Stmt := topS 49
abbrev n_L_ten : List Str := ["k", "made", "step"]
theorem sc_L_ten : FnScope n_L_ten ["k"] (defScope s_L_ten) := ⟨rfl, rfl, rfl, by decide +kernel, rfl, by decide +kernel, by decide +kernel⟩
abbrev s_L_floor_root : Stmt := topS 50
abbrev n_L_floor_root : List Str := ["n", "x", "step", "y"]
theorem sc_L_floor_root : FnScope n_L_floor_root ["n"] (defScope s_L_floor_root) := ⟨rfl, rfl, rfl, by decide +kernel, rfl, by decide +kernel, by decide +kernel⟩
abbrev s_L_root_wrong : Stmt := topS 51
abbrev n_L_root_wrong : List Str := ["n", "p", "w", "side", "more", "t", "s", "low", "above", "below", "up", "down"]
theorem sc_L_root_wrong : FnScope n_L_root_wrong ["n", "p", "w", "side"] (defScope s_L_root_wrong) := ⟨rfl, rfl, rfl, by decide +kernel, rfl, by decide +kernel, by decide +kernel⟩
abbrev s_L_least_roots : Stmt := topS 52
abbrev n_L_least_roots : List Str := ["a", "p", "side", "w", "bad", "n"]
theorem sc_L_least_roots : FnScope n_L_least_roots ["a", "p", "side"] (defScope s_L_least_roots) := ⟨rfl, rfl, rfl, by decide +kernel, rfl, by decide +kernel, by decide +kernel⟩
abbrev s_L_value : Stmt := topS 53
abbrev n_L_value : List Str := ["flow", "a", "n", "k", "root"]
theorem sc_L_value : FnScope n_L_value ["flow", "a"] (defScope s_L_value) := ⟨rfl, rfl, rfl, by decide +kernel, rfl, by decide +kernel, by decide +kernel⟩
abbrev s_law : Stmt := topS 54
abbrev n_law : List Str := ["script", "flow", "turn", "a", "p", "side", "w", "k", "value", "figures_of", "due", "told"]
theorem sc_law : FnScope n_law ["script"] (defScope s_law) := ⟨rfl, rfl, rfl, by decide +kernel, rfl, by decide +kernel, by decide +kernel⟩
/-- what the top has left -/
structure Tx (K : PySem.W.Frag) (mg : Str → Option Value) where
  a_is_number : Addr
  d_is_number : FuncData
  F_is_number : Fun K "is_number" "is_number" s_is_number a_is_number d_is_number
  g_is_number : mg "is_number" = some (.ref a_is_number)
  b_is_number : Binds K d_is_number ["value"] []
  a_is_from_to : Addr
  d_is_from_to : FuncData
  F_is_from_to : Fun K "is_from_to" "is_from_to" s_is_from_to a_is_from_to d_is_from_to
  g_is_from_to : mg "is_from_to" = some (.ref a_is_from_to)
  b_is_from_to : Binds K d_is_from_to ["value", "low", "high"] []
  a_tens : Addr
  d_tens : FuncData
  F_tens : Fun K "tens" "tens" s_tens a_tens d_tens
  g_tens : mg "tens" = some (.ref a_tens)
  b_tens : Binds K d_tens ["many"] []
  a_floor_root : Addr
  d_floor_root : FuncData
  F_floor_root : Fun K "floor_root" "floor_root" s_floor_root a_floor_root d_floor_root
  g_floor_root : mg "floor_root" = some (.ref a_floor_root)
  b_floor_root : Binds K d_floor_root ["number"] []
  a_ground_of : Addr
  d_ground_of : FuncData
  F_ground_of : Fun K "ground_of" "ground_of" s_ground_of a_ground_of d_ground_of
  g_ground_of : mg "ground_of" = some (.ref a_ground_of)
  b_ground_of : Binds K d_ground_of ["p"] []
  a_border_below : Addr
  d_border_below : FuncData
  F_border_below : Fun K "border_below" "border_below" s_border_below a_border_below d_border_below
  g_border_below : mg "border_below" = some (.ref a_border_below)
  b_border_below : Binds K d_border_below ["ground"] []
  a_border_by : Addr
  d_border_by : FuncData
  F_border_by : Fun K "border_by" "border_by" s_border_by a_border_by d_border_by
  g_border_by : mg "border_by" = some (.ref a_border_by)
  b_border_by : Binds K d_border_by ["ground", "side"] []
  a_sum_sign : Addr
  d_sum_sign : FuncData
  F_sum_sign : Fun K "sum_sign" "sum_sign" s_sum_sign a_sum_sign d_sum_sign
  g_sum_sign : mg "sum_sign" = some (.ref a_sum_sign)
  b_sum_sign : Binds K d_sum_sign ["one", "ground", "other", "second", "number"] []
  a_room_order : Addr
  d_room_order : FuncData
  F_room_order : Fun K "room_order" "room_order" s_room_order a_room_order d_room_order
  g_room_order : mg "room_order" = some (.ref a_room_order)
  b_room_order : Binds K d_room_order ["x", "ground", "y", "second"] []
  a_worst_of_few : Addr
  d_worst_of_few : FuncData
  F_worst_of_few : Fun K "worst_of_few" "worst_of_few" s_worst_of_few a_worst_of_few d_worst_of_few
  g_worst_of_few : mg "worst_of_few" = some (.ref a_worst_of_few)
  b_worst_of_few : Binds K d_worst_of_few ["least", "most", "p", "side"] []
  a_worst_of_many : Addr
  d_worst_of_many : FuncData
  F_worst_of_many : Fun K "worst_of_many" "worst_of_many" s_worst_of_many a_worst_of_many d_worst_of_many
  g_worst_of_many : mg "worst_of_many" = some (.ref a_worst_of_many)
  b_worst_of_many : Binds K d_worst_of_many ["most", "p", "side"] []
  a_worst_up_to : Addr
  d_worst_up_to : FuncData
  F_worst_up_to : Fun K "worst_up_to" "worst_up_to" s_worst_up_to a_worst_up_to d_worst_up_to
  g_worst_up_to : mg "worst_up_to" = some (.ref a_worst_up_to)
  b_worst_up_to : Binds K d_worst_up_to ["most", "p", "side"] []
  a_most_figured : Addr
  d_most_figured : FuncData
  F_most_figured : Fun K "most_figured" "most_figured" s_most_figured a_most_figured d_most_figured
  g_most_figured : mg "most_figured" = some (.ref a_most_figured)
  b_most_figured : Binds K d_most_figured ["a"] []
  a_worst_root : Addr
  d_worst_root : FuncData
  F_worst_root : Fun K "worst_root" "worst_root" s_worst_root a_worst_root d_worst_root
  g_worst_root : mg "worst_root" = some (.ref a_worst_root)
  b_worst_root : Binds K d_worst_root ["a", "p", "side"] []
  a_is_enough : Addr
  d_is_enough : FuncData
  F_is_enough : Fun K "is_enough" "is_enough" s_is_enough a_is_enough d_is_enough
  g_is_enough : mg "is_enough" = some (.ref a_is_enough)
  b_is_enough : Binds K d_is_enough ["N", "p", "side", "w"] []
  a_least_for_side : Addr
  d_least_for_side : FuncData
  F_least_for_side : Fun K "least_for_side" "least_for_side" s_least_for_side a_least_for_side d_least_for_side
  g_least_for_side : mg "least_for_side" = some (.ref a_least_for_side)
  b_least_for_side : Binds K d_least_for_side ["a", "p", "side"] []
  a_least_for_roots : Addr
  d_least_for_roots : FuncData
  F_least_for_roots : Fun K "least_for_roots" "least_for_roots" s_least_for_roots a_least_for_roots d_least_for_roots
  g_least_for_roots : mg "least_for_roots" = some (.ref a_least_for_roots)
  b_least_for_roots : Binds K d_least_for_roots ["a", "p", "side"] []
  a_judge_for_roots : Addr
  d_judge_for_roots : FuncData
  F_judge_for_roots : Fun K "judge_for_roots" "judge_for_roots" s_judge_for_roots a_judge_for_roots d_judge_for_roots
  g_judge_for_roots : mg "judge_for_roots" = some (.ref a_judge_for_roots)
  b_judge_for_roots : Binds K d_judge_for_roots ["a", "p", "side", "w", "value"] []
  a_L_flow : Addr
  d_L_flow : FuncData
  F_L_flow : Fun K "_law_flow" "_law_flow" s_L_flow a_L_flow d_L_flow
  g_L_flow : mg "_law_flow" = some (.ref a_L_flow)
  b_L_flow : Binds K d_L_flow ["script"] []
  a_L_draw : Addr
  d_L_draw : FuncData
  F_L_draw : Fun K "_law_draw" "_law_draw" s_L_draw a_L_draw d_L_draw
  g_L_draw : mg "_law_draw" = some (.ref a_L_draw)
  b_L_draw : Binds K d_L_draw ["flow", "many"] []
  a_L_pick : Addr
  d_L_pick : FuncData
  F_L_pick : Fun K "_law_pick" "_law_pick" s_L_pick a_L_pick d_L_pick
  g_L_pick : mg "_law_pick" = some (.ref a_L_pick)
  b_L_pick : Binds K d_L_pick ["flow", "things"] []
  a_L_is_whole : Addr
  d_L_is_whole : FuncData
  F_L_is_whole : Fun K "_law_is_whole" "_law_is_whole" s_L_is_whole a_L_is_whole d_L_is_whole
  g_L_is_whole : mg "_law_is_whole" = some (.ref a_L_is_whole)
  b_L_is_whole : Binds K d_L_is_whole ["value"] []
  a_L_same : Addr
  d_L_same : FuncData
  F_L_same : Fun K "_law_same" "_law_same" s_L_same a_L_same d_L_same
  g_L_same : mg "_law_same" = some (.ref a_L_same)
  b_L_same : Binds K d_L_same ["found", "due"] []
  a_L_ten : Addr
  d_L_ten : FuncData
  F_L_ten : Fun K "_law_ten" "_law_ten" s_L_ten a_L_ten d_L_ten
  g_L_ten : mg "_law_ten" = some (.ref a_L_ten)
  b_L_ten : Binds K d_L_ten ["k"] []
  a_L_floor_root : Addr
  d_L_floor_root : FuncData
  F_L_floor_root : Fun K "_law_floor_root" "_law_floor_root" s_L_floor_root a_L_floor_root d_L_floor_root
  g_L_floor_root : mg "_law_floor_root" = some (.ref a_L_floor_root)
  b_L_floor_root : Binds K d_L_floor_root ["n"] []
  a_L_root_wrong : Addr
  d_L_root_wrong : FuncData
  F_L_root_wrong : Fun K "_law_root_wrong" "_law_root_wrong" s_L_root_wrong a_L_root_wrong d_L_root_wrong
  g_L_root_wrong : mg "_law_root_wrong" = some (.ref a_L_root_wrong)
  b_L_root_wrong : Binds K d_L_root_wrong ["n", "p", "w", "side"] []
  a_L_least_roots : Addr
  d_L_least_roots : FuncData
  F_L_least_roots : Fun K "_law_least_roots" "_law_least_roots" s_L_least_roots a_L_least_roots d_L_least_roots
  g_L_least_roots : mg "_law_least_roots" = some (.ref a_L_least_roots)
  b_L_least_roots : Binds K d_L_least_roots ["a", "p", "side"] []
  a_L_value : Addr
  d_L_value : FuncData
  F_L_value : Fun K "_law_value" "_law_value" s_L_value a_L_value d_L_value
  g_L_value : mg "_law_value" = some (.ref a_L_value)
  b_L_value : Binds K d_L_value ["flow", "a"] []
  a_law : Addr
  d_law : FuncData
  F_law : Fun K "law" "law" s_law a_law d_law
  g_law : mg "law" = some (.ref a_law)
  b_law : Binds K d_law ["script"] []
  kb_judge_for_roots_4_3_2_1_0 : KB d_judge_for_roots ["a", "p", "side", "w", "value"] ["value", "w", "side", "p", "a"] [4, 3, 2, 1, 0]
  kb_least_for_roots_2_1_0 : KB d_least_for_roots ["a", "p", "side"] ["side", "p", "a"] [2, 1, 0]
  m_abs : mg "abs" = none
  m_bool : mg "bool" = none
  m_int : mg "int" = none
  m_isinstance : mg "isinstance" = none
  m_len : mg "len" = none
  m_max : mg "max" = none
  m_range : mg "range" = none
  m_str : mg "str" = none
  m_tuple : mg "tuple" = none
  c_FEW : ∃ u, mg "FEW" = some u ∧ RelV (.int 10000 ) u
end K60
end
section
set_option Elab.async false
set_option linter.all false
set_option maxRecDepth 100000
set_option maxHeartbeats 4000000
namespace K60
open PySem PySem.Spec PyProof.Rows L2 Dw Rt
def bel (t : Int) : Int := if (rt t).fmod 2 = 1 then rt t else rt t - 1
def bord (t : Int) : Int := if t ≤ (bel t + 1) * (bel t + 1) then bel t else bel t + 2
def b2 (b : Bool) : Int := b2i b
/-- the sign of a √g + b √s - c, a and b 1 or -1 -/
def sgnSum (a g b s c : Int) : Int :=
  let first := if a = b then (if 0 < g + s then a else 0) else a * (b2 (decide (s < g)) - b2 (decide (g < s)))
  if first * c ≤ 0 then (if first ≠ 0 then first else b2 (decide (c < 0)) - b2 (decide (0 < c)))
  else
    let rest := c * c - g - s
    let product := 4 * g * s
    let more := if a = b then (if rest < 0 then 1 else b2 (decide (rest * rest < product)) - b2 (decide (product < rest * rest)))
      else (if 0 < rest then -1 else b2 (decide (product < rest * rest)) - b2 (decide (rest * rest < product)))
    first * more
def order (x g y s : Int) : Int :=
  let one : Int := if x * x < g then 1 else -1
  let other : Int := if y * y < s then 1 else -1
  sgnSum one g (-other) s (one * x - other * y)
def ab (x : Int) : Int := if x < 0 then -x else x
def far (x t : Int) (k : Nat) : Int := ab (x * 10 ^ k - rt (t * 10 ^ k * 10 ^ k))
def farSgn (x t y u : Int) (k : Nat) (z : Int) : Int := if 4 < ab (far x t k - far y u k) then (if far x t k < far y u k then -1 else 1) else z
def nearer (x t y u : Int) : Int :=
  if rt t * rt t = t ∧ rt u * rt u = u then b2 (decide (ab (y - rt u) < ab (x - rt t))) - b2 (decide (ab (x - rt t) < ab (y - rt u)))
  else if t = u ∧ ab (x - y) = 0 then 0
  else farSgn x t y u 20 (farSgn x t y u 80 (farSgn x t y u 600 0))
inductive Sd where
  | both | above | below
def Sd.s : Sd → Str
  | .both => "both"
  | .above => "above"
  | .below => "below"
def bordS : Sd → Int → Int
  | .both, n => bord n
  | .above, n => bel n + 2
  | .below, n => bel n
/-- the first of 1 to n that is nearest to its border -/
def best (U : Int) (sd : Sd) : Nat → Int
  | 0 => 0
  | n + 1 => if best U sd n = 0 ∨ order (bordS sd (((n + 1 : Nat) : Int) * U)) (((n + 1 : Nat) : Int) * U) (bordS sd (best U sd n * U)) (best U sd n * U) < 0 then ((n + 1 : Nat) : Int) else best U sd n
/-! ### what each def promises -/
def S_tens : WF := fun ds μ Q => ∃ m : Nat, ds = [.int m] ∧ m ≤ 200 ∧ Q (.tup [.int (10 ^ m), .int 1]) μ
def S_floor_root : WF := fun ds μ Q => ∃ n : Int, ds = [.int n] ∧ 0 ≤ n ∧ n < 2 ^ 8000 ∧ Q (.int (rt n)) μ
def S_ground_of : WF := fun ds μ Q => ∃ p : Nat, ds = [.int p] ∧ p ≤ 50 ∧ Q (.int (4 * 10 ^ (2 * p))) μ
def S_border_below : WF := fun ds μ Q => ∃ n : Int, ds = [.int n] ∧ 0 ≤ n ∧ n < 2 ^ 8000 ∧ Q (.int (bel n)) μ
def S_border_by : WF := fun ds μ Q => ∃ (n : Int) (sd : Sd), ds = [.int n, .str sd.s] ∧ 0 ≤ n ∧ n < 2 ^ 8000 ∧ Q (.int (bordS sd n)) μ
def gr (p : Nat) : Int := 4 * 10 ^ (2 * p)
def S_worst_of_few : WF := fun ds μ Q => ∃ (m p : Nat) (sd : Sd), ds = [.int 1, .int m, .int p, .str sd.s] ∧ m ≤ 999 ∧ p ≤ 50 ∧ Q (.int (best (gr p) sd m)) μ
def S_worst_up_to : WF := fun ds μ Q => ∃ (m p : Nat) (sd : Sd), ds = [.int m, .int p, .str sd.s] ∧ m ≤ 999 ∧ p ≤ 50 ∧ Q (.int (best (gr p) sd m)) μ
def S_most_figured : WF := fun ds μ Q => ∃ a : Nat, ds = [.int a] ∧ a ≤ 200 ∧ Q (.int (10 ^ a - 1)) μ
def S_worst_root : WF := fun ds μ Q => ∃ (a p : Nat) (sd : Sd), ds = [.int a, .int p, .str sd.s] ∧ a ≤ 3 ∧ p ≤ 50 ∧ Q (.int (best (gr p) sd (10 ^ a - 1))) μ
def S_sum_sign : WF := fun ds μ Q => ∃ a g b s c : Int, ds = [.int a, .int g, .int b, .int s, .int c] ∧ (a = 1 ∨ a = -1) ∧ (b = 1 ∨ b = -1) ∧ g.natAbs < 2 ^ 8000 ∧ s.natAbs < 2 ^ 8000 ∧ c.natAbs < 2 ^ 8000 ∧ Q (.int (sgnSum a g b s c)) μ
def S_room_order : WF := fun ds μ Q => ∃ x g y s : Int, ds = [.int x, .int g, .int y, .int s] ∧ x.natAbs < 2 ^ 7000 ∧ g.natAbs < 2 ^ 7000 ∧ y.natAbs < 2 ^ 7000 ∧ s.natAbs < 2 ^ 7000 ∧ Q (.int (order x g y s)) μ
/-- the bag of draws -/
def Flow (c : List D) : Prop := ∃ (a b k n : Int) (ns : List Int), c = [.int a, .int b, .int k, .int n, .lst (ns.map D.int)] ∧ 0 ≤ b ∧ b ≤ 60 ∧ 0 ≤ k
def S_L_flow : WF := fun ds μ Q => ∃ ns : List Int, ds = [.lst (ns.map D.int)] ∧ ns.length ≤ 63 ∧ ∀ c, Flow c → Q (.loc μ.length) (μ ++ [c])
def S_L_draw : WF := fun ds μ Q => ∃ (f : Nat) (many : Int) (c : List D), ds = [.loc f, .int many] ∧ 0 < many ∧ many < 2 ^ 1000 ∧ μ[f]? = some c ∧ Flow c ∧ ∀ r c', 0 ≤ r → r < many → Flow c' → Q (.int r) (μ.set f c')
def S_L_pick : WF := fun ds μ Q => ∃ (f : Nat) (xs : List D) (c : List D), ds = [.loc f, .lst xs] ∧ 0 < xs.length ∧ xs.length < 1000 ∧ belows μ.length xs = true ∧ μ[f]? = some c ∧ Flow c ∧ ∀ (r : Nat) x c', xs[r]? = some x → Flow c' → Q x (μ.set f c')
/-- whole numbers, None, True, False, tuples of such, n deep -/
def deep : Nat → D → Prop
  | 0, _ => False
  | n + 1, d => d = .non ∨ (∃ b, d = .bl b) ∨ (∃ i, d = .int i) ∨ ∃ ds, d = .tup ds ∧ ds.length < 1000 ∧ ∀ x ∈ ds, deep n x
def S_L_same (n : Nat) : WF := fun ds μ Q => ∃ d, ds = [d, d] ∧ deep n d ∧ Q (.bl true) μ
def S_L_ten : WF := fun ds μ Q => ∃ m : Nat, ds = [.int m] ∧ m ≤ 2000 ∧ Q (.int (10 ^ m)) μ
def S_L_floor_root : WF := fun ds μ Q => ∃ n : Int, ds = [.int n] ∧ 0 ≤ n ∧ n < 10 ^ 1500 ∧ Q (.int (rt n)) μ
inductive Sh where
  | both | low | high
def Sh.s : Sh → Str
  | .both => "both"
  | .low => "low"
  | .high => "high"
def fine (p w : Nat) : Int := 10 ^ (w - p)
def okL (t f : Int) : Bool := decide ((bel t * f + 1) * (bel t * f + 1) ≤ t * f * f)
def okH (t f : Int) : Bool := decide (t * f * f < ((bel t + 2) * f - 1) * ((bel t + 2) * f - 1))
/-- no hand of w places prints n's root wrong on this side -/
def ok (sd : Sh) (n : Int) (p w : Nat) : Bool := decide (p ≤ w) && (match sd with
  | .low => okL (n * gr p) (fine p w)
  | .high => okH (n * gr p) (fine p w)
  | .both => okL (n * gr p) (fine p w) && okH (n * gr p) (fine p w))
def Least (a p : Nat) (sd : Sh) (w0 : Nat) : Prop := p ≤ w0 ∧ w0 < p + 60 ∧ (∀ n : Int, 1 ≤ n → n < 10 ^ a → ok sd n p w0 = true) ∧ ∀ w, p ≤ w → w < w0 → ∃ n : Int, 1 ≤ n ∧ n < 10 ^ a ∧ ok sd n p w = false
def sideB : Sh → Sd
  | .low => .below
  | _ => .above
def LeastAt (N : Int) (p : Nat) (sd : Sh) (w0 : Nat) : Prop := p ≤ w0 ∧ w0 < p + 60 ∧ ok sd N p w0 = true ∧ ∀ w, p ≤ w → w < w0 → ok sd N p w = false
def isI : D → Bool
  | .int _ => true
  | _ => false
def S_is_number : WF := fun ds μ Q => ∃ d, ds = [d] ∧ inert d = true ∧ Q (.bl (isI d)) μ
def S_L_is_whole : WF := fun ds μ Q => ∃ d, ds = [d] ∧ inert d = true ∧ Q (.bl (isI d)) μ
/-- a number from lo to hi -/
def inR (d : D) (lo hi : Int) : Bool := match d with
  | .int i => decide (lo ≤ i) && decide (i ≤ hi)
  | _ => false
def S_is_from_to : WF := fun ds μ Q => ∃ (d : D) (lo hi : Int), ds = [d, .int lo, .int hi] ∧ inert d = true ∧ Q (.bl (inR d lo hi)) μ
def S_is_enough : WF := fun ds μ Q => ∃ (n : Int) (p : Nat) (sd : Sh) (w : Nat), ds = [.int n, .int p, .str sd.s, .int w] ∧ 1 ≤ n ∧ n < 10 ^ 40 ∧ p ≤ 40 ∧ w ≤ p + 60 ∧ Q (.bl (ok sd n p w)) μ
def S_least_for_side : WF := fun ds μ Q => ∃ (a p : Nat) (sd : Sh) (w0 : Nat), ds = [.int a, .int p, .str sd.s] ∧ sd ≠ .both ∧ 1 ≤ a ∧ a ≤ 3 ∧ p ≤ 5 ∧ LeastAt (best (gr p) (sideB sd) (10 ^ a - 1)) p sd w0 ∧ Q (.int w0) μ
def S_least_for_roots : WF := fun ds μ Q => ∃ (a p : Nat) (sd : Sh) (w0 : Nat), ds = [.int a, .int p, .str sd.s] ∧ 1 ≤ a ∧ a ≤ 3 ∧ p ≤ 5 ∧ Least a p sd w0 ∧ Q (.int w0) μ
def judge (a p : Nat) (sd : Sh) (w : Nat) : D → Bool
  | .int i => decide (1 ≤ i) && decide (i ≤ 10 ^ a - 1) && !ok sd i p w
  | _ => false
def S_judge_for_roots : WF := fun ds μ Q => ∃ (a p : Nat) (sd : Sh) (w : Nat) (d : D), ds = [.int a, .int p, .str sd.s, .int w, d] ∧ a ≤ 40 ∧ p ≤ 40 ∧ w ≤ p + 60 ∧ inert d = true ∧ Q (.bl (judge a p sd w d)) μ
def S_L_root_wrong : WF := fun ds μ Q => ∃ (n : Int) (p : Nat) (sd : Sh) (w : Nat), ds = [.int n, .int p, .int w, .str sd.s] ∧ 1 ≤ n ∧ n < 10 ^ 40 ∧ p ≤ 40 ∧ w ≤ p + 60 ∧ Q (.bl (!ok sd n p w)) μ
def S_L_least_roots : WF := fun ds μ Q => ∃ (a p : Nat) (sd : Sh) (w0 : Nat), ds = [.int a, .int p, .str sd.s] ∧ 1 ≤ a ∧ a ≤ 3 ∧ p ≤ 5 ∧ Least a p sd w0 ∧ Q (.int w0) μ
def Val (d : D) : Prop := (∃ n : Int, d = .int n) ∨ d = .bl true ∨ d = .non ∨ ∃ n : Int, d = .tup [.int n]
def S_L_value : WF := fun ds μ Q => ∃ (f a : Nat) (c : List D), ds = [.loc f, .int a] ∧ a ≤ 40 ∧ μ[f]? = some c ∧ Flow c ∧ ∀ d c', Val d → Flow c' → Q d (μ.set f c')
def S_law : WF := fun ds μ Q => ∃ ns : List Int, ds = [.lst (ns.map D.int)] ∧ ns.length ≤ 63 ∧ μ = [] ∧ ∀ μ', Q (.bl true) μ'
end K60
end
section
set_option Elab.async false
set_option linter.all false
set_option maxRecDepth 100000
set_option maxHeartbeats 4000000

namespace K60
open PySem PySem.Spec PyProof.Rows L2 Dw
def w_is_number : WS := (wRet (wAndV (wIsi "int" (wVar 0)) (wNotV (wIsi "bool" (wVar 0)))))

def w_is_from_to : WS := (wRet (wAndV (wCall S_is_number (wCons (wVar 0) wNil)) (wChain wLe wLe (wVar 1) (wVar 0) (wVar 2))))

def w_tens : WS := (wSeq (wAsg (wC (.int 1)) (gN 1))
  (wSeq (wFor (wRng1 (wCall fAbs (wCons (wVar 0) wNil))) (gN 2) (wAug 1 (wC (.int 10)) wMul))
  (wRet (wIfE (wTest (wOp wGe (wVar 0) (wC (.int 0)))) (wTup (wCons (wVar 1) (wCons (wC (.int 1)) wNil))) (wTup (wCons (wC (.int 1)) (wCons (wVar 1) wNil)))))))

def w_floor_root : WS := (wSeq (wIf (wTest (wOp wEq (wVar 0) (wC (.int 0)))) (wRet (wC (.int 0))) wNext)
  (wSeq (wAsg (wOp wShl (wC (.int 1)) (wOp wDiv (wOp wAdd (wBits (wVar 0)) (wC (.int 1))) (wC (.int 2)))) (gN 1))
  (wWhile (wTru (wC (.bl true))) (wSeq (wAsg (wOp wDiv (wOp wAdd (wVar 1) (wOp wDiv (wVar 0) (wVar 1))) (wC (.int 2))) (gN 2))
  (wSeq (wIf (wTest (wOp wGe (wVar 2) (wVar 1))) (wRet (wVar 1)) wNext)
  (wAsg (wVar 2) (gN 1)))))))

def w_ground_of : WS := (wRet (wOp wMul (wC (.int 4)) (wOp wIx (wCall S_tens (wCons (wOp wMul (wC (.int 2)) (wVar 0)) wNil)) (wC (.int 0)))))

def w_border_below : WS := (wSeq (wAsg (wCall S_floor_root (wCons (wVar 0) wNil)) (gN 1))
  (wRet (wIfE (wTest (wOp wEq (wOp wMod (wVar 1) (wC (.int 2))) (wC (.int 1)))) (wVar 1) (wOp wSub (wVar 1) (wC (.int 1))))))

def w_border_by : WS := (wSeq (wAsg (wCall S_border_below (wCons (wVar 0) wNil)) (gN 2))
  (wSeq (wIf (wTest (wOp wEq (wVar 1) (wC (.str "below")))) (wRet (wVar 2)) wNext)
  (wSeq (wIf (wTest (wOp wEq (wVar 1) (wC (.str "above")))) (wRet (wOp wAdd (wVar 2) (wC (.int 2)))) wNext)
  (wSeq (wAsg (wOp wAdd (wVar 2) (wC (.int 1))) (gN 3))
  (wRet (wIfE (wTest (wOp wLe (wVar 0) (wOp wMul (wVar 3) (wVar 3)))) (wVar 2) (wOp wAdd (wVar 2) (wC (.int 2)))))))))

def w_sum_sign_1 : WS := (wRet (wOp wMul (wVar 5) (wVar 8)))
def w_sum_sign_2 : WS := (wSeq (wIf (wTest (wOp wLe (wOp wMul (wVar 5) (wVar 4)) (wC (.int 0)))) (wRet (wIfE (wTest (wOp wNe (wVar 5) (wC (.int 0)))) (wVar 5) (wOp wSubB (wOp wLt (wVar 4) (wC (.int 0))) (wOp wGt (wVar 4) (wC (.int 0)))))) wNext)
  (wSeq (wAsg (wOp wSub (wOp wSub (wOp wMul (wVar 4) (wVar 4)) (wVar 1)) (wVar 3)) (gN 6))
  (wSeq (wAsg (wOp wMul (wOp wMul (wC (.int 4)) (wVar 1)) (wVar 3)) (gN 7))
  (wSeq (wIf (wTest (wOp wEq (wVar 0) (wVar 2))) (wAsg (wIfE (wTest (wOp wLt (wVar 6) (wC (.int 0)))) (wC (.int 1)) (wOp wSubB (wOp wGt (wVar 7) (wOp wMul (wVar 6) (wVar 6))) (wOp wLt (wVar 7) (wOp wMul (wVar 6) (wVar 6))))) (gN 8)) (wAsg (wIfE (wTest (wOp wGt (wVar 6) (wC (.int 0)))) (wNeg (wC (.int 1))) (wOp wSubB (wOp wGt (wOp wMul (wVar 6) (wVar 6)) (wVar 7)) (wOp wLt (wOp wMul (wVar 6) (wVar 6)) (wVar 7)))) (gN 8)))
  w_sum_sign_1))))
def w_sum_sign : WS := (wSeq (wIf (wTest (wOp wEq (wVar 0) (wVar 2))) (wAsg (wIfE (wTest (wOp wGt (wOp wAdd (wVar 1) (wVar 3)) (wC (.int 0)))) (wVar 0) (wC (.int 0))) (gN 5)) (wAsg (wOp wMul (wVar 0) (wOp wSubB (wOp wGt (wVar 1) (wVar 3)) (wOp wLt (wVar 1) (wVar 3)))) (gN 5)))
  w_sum_sign_2)

def w_room_order : WS := (wSeq (wAsg (wIfE (wTest (wOp wGt (wVar 1) (wOp wMul (wVar 0) (wVar 0)))) (wC (.int 1)) (wNeg (wC (.int 1)))) (gN 4))
  (wSeq (wAsg (wIfE (wTest (wOp wGt (wVar 3) (wOp wMul (wVar 2) (wVar 2)))) (wC (.int 1)) (wNeg (wC (.int 1)))) (gN 5))
  (wRet (wCall S_sum_sign (wCons (wVar 4) (wCons (wVar 1) (wCons (wNeg (wVar 5)) (wCons (wVar 3) (wCons (wOp wSub (wOp wMul (wVar 4) (wVar 0)) (wOp wMul (wVar 5) (wVar 2))) wNil)))))))))

def w_worst_of_few : WS := (wSeq (wPar3 4 5 6 (wCons (wCall S_ground_of (wCons (wVar 2) wNil)) (wCons (wC (.int 0)) (wCons (wC (.int 0)) wNil))))
  (wSeq (wFor (wRng2 (wVar 0) (wOp wAdd (wVar 1) (wC (.int 1)))) (gN 7) (wSeq (wAsg (wCall S_border_by (wCons (wOp wMul (wVar 7) (wVar 4)) (wCons (wVar 3) wNil))) (gN 8))
  (wIf (wOrT (wTest (wOp wEq (wVar 5) (wC (.int 0)))) (wTest (wOp wLt (wCall S_room_order (wCons (wVar 8) (wCons (wOp wMul (wVar 7) (wVar 4)) (wCons (wVar 6) (wCons (wOp wMul (wVar 5) (wVar 4)) wNil))))) (wC (.int 0))))) (wPar 5 6 (wCons (wVar 7) (wCons (wVar 8) wNil))) wNext)))
  (wRet (wVar 5))))

def w_worst_up_to : WS := (wRet (wIfE (wTest (wOp wLt (wVar 0) (wC (.int 10000)))) (wCall S_worst_of_few (wCons (wC (.int 1)) (wCons (wVar 0) (wCons (wVar 1) (wCons (wVar 2) wNil))))) (wCall S_worst_of_many (wCons (wVar 0) (wCons (wVar 1) (wCons (wVar 2) wNil))))))

def w_most_figured : WS := (wRet (wOp wSub (wOp wIx (wCall S_tens (wCons (wVar 0) wNil)) (wC (.int 0))) (wC (.int 1))))

def w_worst_root : WS := (wRet (wCall S_worst_up_to (wCons (wCall S_most_figured (wCons (wVar 0) wNil)) (wCons (wVar 1) (wCons (wVar 2) wNil)))))

def w_is_enough : WS := (wSeq (wIf (wTest (wOp wLt (wVar 3) (wVar 1))) (wRet (wC (.bl false))) wNext)
  (wSeq (wPar 4 5 (wCons (wOp wMul (wVar 0) (wCall S_ground_of (wCons (wVar 1) wNil))) (wCons (wOp wIx (wCall S_tens (wCons (wOp wSub (wVar 3) (wVar 1)) wNil)) (wC (.int 0))) wNil)))
  (wSeq (wAsg (wCall S_border_by (wCons (wVar 4) (wCons (wC (.str "below")) wNil))) (gN 6))
  (wSeq (wIf (wAndT (wTest (wOp wNe (wVar 2) (wC (.str "high")))) (wTest (wOp wGt (wOp wMul (wOp wAdd (wOp wMul (wVar 6) (wVar 5)) (wC (.int 1))) (wOp wAdd (wOp wMul (wVar 6) (wVar 5)) (wC (.int 1)))) (wOp wMul (wOp wMul (wVar 4) (wVar 5)) (wVar 5))))) (wRet (wC (.bl false))) wNext)
  (wSeq (wAsg (wOp wAdd (wVar 6) (wC (.int 2))) (gN 6))
  (wRet (wOrV (wOp wEq (wVar 2) (wC (.str "low"))) (wOp wLt (wOp wMul (wOp wMul (wVar 4) (wVar 5)) (wVar 5)) (wOp wMul (wOp wSub (wOp wMul (wVar 6) (wVar 5)) (wC (.int 1))) (wOp wSub (wOp wMul (wVar 6) (wVar 5)) (wC (.int 1))))))))))))

def w_least_for_side : WS := (wSeq (wPar 3 4 (wCons (wCall S_worst_root (wCons (wVar 0) (wCons (wVar 1) (wCons (wIfE (wTest (wOp wEq (wVar 2) (wC (.str "low")))) (wC (.str "below")) (wC (.str "above"))) wNil)))) (wCons (wVar 1) wNil)))
  (wSeq (wWhile (wNotT (wTru (wCall S_is_enough (wCons (wVar 3) (wCons (wVar 1) (wCons (wVar 2) (wCons (wVar 4) wNil))))))) (wAug 4 (wC (.int 1)) wAdd))
  (wRet (wVar 4))))

def w_least_for_roots : WS := (wSeq (wIf (wTest (wOp wEq (wVar 2) (wC (.str "both")))) (wRet (wCall fMax2 (wCons (wCall S_least_for_side (wCons (wVar 0) (wCons (wVar 1) (wCons (wC (.str "low")) wNil)))) (wCons (wCall S_least_for_side (wCons (wVar 0) (wCons (wVar 1) (wCons (wC (.str "high")) wNil)))) wNil)))) wNext)
  (wRet (wCall S_least_for_side (wCons (wVar 0) (wCons (wVar 1) (wCons (wVar 2) wNil))))))

def w_judge_for_roots : WS := (wRet (wAndV (wCall S_is_from_to (wCons (wVar 4) (wCons (wC (.int 1)) (wCons (wCall S_most_figured (wCons (wVar 0) wNil)) wNil)))) (wNotV (wCall S_is_enough (wCons (wVar 4) (wCons (wVar 1) (wCons (wVar 2) (wCons (wVar 3) wNil))))))))

def w_L_flow : WS := (wRet (wNew (wCons (wC (.int 0)) (wCons (wC (.int 0)) (wCons (wC (.int 0)) (wCons (wC (.int 0)) (wCons (wComp (wSeqI (wSl (wVar 0) wNoP (wPart (wC (.int 63))))) (gN 1) wYes (wCall fAbs (wCons (wCall fInt (wCons (wVar 1) wNil)) wNil)) [1]) wNil)))))))

def w_L_draw_1 : WS := (wSeq (wAsg (wOp wMod (wCall fInt (wCons (wOp wAdd (wOp wMul (wVar 3) (wC (.int 48271))) (wOp wMul (wOp wIx (wVar 0) (wC (.int 3))) (wC (.int 69621)))) wNil)) (wC (.int 2147483647))) (gN 4))
  (wSeq (wAsg (wOp wMod (wCall fInt (wCons (wOp wAdd (wOp wMul (wVar 4) (wVar 4)) (wOp wMul (wOp wIx (wVar 0) (wC (.int 3))) (wC (.int 40692)))) wNil)) (wC (.int 2147483399))) (gN 5))
  (wRet (wOp wMod (wCall fInt (wCons (wOp wMod (wCall fInt (wCons (wOp wAdd (wOp wMul (wVar 5) (wVar 5)) (wVar 4)) wNil)) (wC (.int 2147483647))) wNil)) (wVar 1)))))
def w_L_draw_2 : WS := (wSeq (wIf (wTest (wOp wGt (wOp wIx (wVar 0) (wC (.int 1))) (wC (.int 0)))) (wSeq (wAsg (wOp wMod (wCall fInt (wCons (wOp wIx (wVar 0) (wC (.int 0))) wNil)) (wVar 1)) (gN 2))
  (wSeq (wPut (wVar 0) (wC (.int 0)) (wOp wDiv (wOp wIx (wVar 0) (wC (.int 0))) (wVar 1)) rPut)
  (wSeq (wPut (wVar 0) (wC (.int 1)) (wOp wMul (wOp wSub (wOp wIx (wVar 0) (wC (.int 1))) (wC (.int 1))) (wCall fInt (wCons (wOp wGt (wOp wIx (wVar 0) (wC (.int 0))) (wC (.int 0))) wNil))) rPut)
  (wRet (wVar 2))))) wNext)
  (wSeq (wAsg (wC (.int 7)) (gN 3))
  (wSeq (wIf (wTest (wOp wGt (wCall fLen (wCons (wOp wIx (wVar 0) (wC (.int 4))) wNil)) (wC (.int 0)))) (wSeq (wAsg (wOp wIx (wOp wIx (wVar 0) (wC (.int 4))) (wOp wMod (wCall fInt (wCons (wOp wIx (wVar 0) (wC (.int 2))) wNil)) (wCall fLen (wCons (wOp wIx (wVar 0) (wC (.int 4))) wNil)))) (gN 3))
  (wPut (wVar 0) (wC (.int 2)) (wOp wAdd (wOp wIx (wVar 0) (wC (.int 2))) (wC (.int 1))) rPut)) wNext)
  w_L_draw_1)))
def w_L_draw : WS := (wSeq (wPut (wVar 0) (wC (.int 3)) (wOp wAdd (wOp wIx (wVar 0) (wC (.int 3))) (wC (.int 1))) rPut)
  (wSeq (wIf (wAndT (wTest (wOp wEq (wOp wIx (wVar 0) (wC (.int 1))) (wC (.int 0)))) (wAndT (wTest (wOp wLt (wOp wIx (wVar 0) (wC (.int 2))) (wCall fLen (wCons (wOp wIx (wVar 0) (wC (.int 4))) wNil)))) (wTest (wOp wGe (wOp wIx (wOp wIx (wVar 0) (wC (.int 4))) (wOp wIx (wVar 0) (wC (.int 2)))) (wOp wPow (wC (.int 10)) (wC (.int 18))))))) (wSeq (wPut (wVar 0) (wC (.int 0)) (wOp wIx (wOp wIx (wVar 0) (wC (.int 4))) (wOp wIx (wVar 0) (wC (.int 2)))) rPut)
  (wSeq (wPut (wVar 0) (wC (.int 1)) (wC (.int 60)) rPut)
  (wPut (wVar 0) (wC (.int 2)) (wOp wAdd (wOp wIx (wVar 0) (wC (.int 2))) (wC (.int 1))) rPut))) wNext)
  w_L_draw_2))

def w_L_pick : WS := (wRet (wOp wIx (wVar 1) (wCall S_L_draw (wCons (wVar 0) (wCons (wCall fLen (wCons (wVar 1) wNil)) wNil)))))

def w_L_is_whole : WS := (wRet (wAndV (wIsi "int" (wVar 0)) (wNotV (wIsi "bool" (wVar 0)))))

def w_L_same (Sr : WF) : WS := (wSeq (wIf (wOrT (wTru (wIsi "bool" (wVar 1))) (wTest (wOp (wIsN false) (wVar 1) (wC .non)))) (wRet (wIfE (wTru (wIsi "bool" (wVar 1))) (wAndV (wIsi "bool" (wVar 0)) (wOp wEq (wVar 0) (wVar 1))) (wOp (wIsN false) (wVar 0) (wC .non)))) wNext)
  (wSeq (wIf (wTru (wIsi "int" (wVar 1))) (wRet (wAndV (wCall S_L_is_whole (wCons (wVar 0) wNil)) (wOp wEq (wVar 0) (wVar 1)))) wNext)
  (wSeq (wIf (wOrT (wNotT (wTru (wIsi "tuple" (wVar 0)))) (wTest (wOp wNe (wCall fLen (wCons (wVar 0) wNil)) (wCall fLen (wCons (wVar 1) wNil))))) (wRet (wC (.bl false))) wNext)
  (wRet (wOp wEq (wCall fLen (wCons (wComp (wRng1 (wCall fLen (wCons (wVar 1) wNil))) (gN 2) (wNotT (wTru (wCall Sr (wCons (wOp wIx (wVar 0) (wVar 2)) (wCons (wOp wIx (wVar 1) (wVar 2)) wNil))))) (wVar 2) [2]) wNil)) (wC (.int 0)))))))

def w_L_ten : WS := (wSeq (wAsg (wC (.int 1)) (gN 1))
  (wSeq (wFor (wRng1 (wVar 0)) (gN 2) (wAsg (wOp wMul (wC (.int 10)) (wVar 1)) (gN 1)))
  (wRet (wVar 1))))

def w_L_floor_root : WS := (wSeq (wIf (wTest (wOp wLt (wVar 0) (wC (.int 2)))) (wRet (wVar 0)) wNext)
  (wSeq (wAsg (wCall S_L_ten (wCons (wOp wAdd (wOp wDiv (wCall fLen (wCons (wCall fStr (wCons (wVar 0) wNil)) wNil)) (wC (.int 2))) (wC (.int 1))) wNil)) (gN 1))
  (wSeq (wFor (wRng1 (wC (.int 1200))) (gN 2) (wSeq (wAsg (wOp wDiv (wOp wAdd (wVar 1) (wOp wDiv (wVar 0) (wVar 1))) (wC (.int 2))) (gN 3))
  (wSeq (wIf (wTest (wOp wGe (wVar 3) (wVar 1))) (wRet (wVar 1)) wNext)
  (wAsg (wVar 3) (gN 1)))))
  (wRet (wVar 1)))))

def w_L_root_wrong : WS := (wSeq (wIf (wTest (wOp wLt (wVar 2) (wVar 1))) (wRet (wC (.bl true))) wNext)
  (wSeq (wAsg (wCall S_L_ten (wCons (wOp wSub (wVar 2) (wVar 1)) wNil)) (gN 4))
  (wSeq (wAsg (wOp wMul (wOp wMul (wC (.int 4)) (wVar 0)) (wCall S_L_ten (wCons (wOp wMul (wC (.int 2)) (wVar 1)) wNil))) (gN 5))
  (wSeq (wAsg (wCall S_L_floor_root (wCons (wVar 5) wNil)) (gN 6))
  (wSeq (wAsg (wIfE (wTest (wOp wEq (wOp wMod (wCall fInt (wCons (wVar 6) wNil)) (wC (.int 2))) (wC (.int 1)))) (wVar 6) (wOp wSub (wVar 6) (wC (.int 1)))) (gN 7))
  (wSeq (wPar 8 9 (wCons (wOp wSub (wOp wMul (wOp wAdd (wVar 7) (wC (.int 2))) (wVar 4)) (wC (.int 1))) (wCons (wOp wAdd (wOp wMul (wVar 7) (wVar 4)) (wC (.int 1))) wNil)))
  (wSeq (wAsg (wOrV (wOp wLe (wVar 8) (wC (.int 0))) (wOp wGe (wOp wMul (wOp wMul (wVar 5) (wVar 4)) (wVar 4)) (wOp wMul (wVar 8) (wVar 8)))) (gN 10))
  (wSeq (wAsg (wOp wLt (wOp wMul (wOp wMul (wVar 5) (wVar 4)) (wVar 4)) (wOp wMul (wVar 9) (wVar 9))) (gN 11))
  (wRet (wOrV (wAndV (wOp wNe (wVar 3) (wC (.str "low"))) (wVar 10)) (wAndV (wOp wNe (wVar 3) (wC (.str "high"))) (wVar 11))))))))))))

def w_L_least_roots : WS := (wSeq (wFor (wRng2 (wVar 1) (wOp wAdd (wVar 1) (wC (.int 60)))) (gN 3) (wSeq (wAsg (wC (.bl false)) (gN 4))
  (wSeq (wFor (wRng2 (wC (.int 1)) (wCall S_L_ten (wCons (wVar 0) wNil))) (gN 5) (wIf (wTru (wCall S_L_root_wrong (wCons (wVar 5) (wCons (wVar 1) (wCons (wVar 3) (wCons (wVar 2) wNil)))))) (wSeq (wAsg (wC (.bl true)) (gN 4))
  wBreak) wNext))
  (wIf (wNotT (wTru (wVar 4))) (wRet (wVar 3)) wNext))))
  (wRet (wC .non)))

def w_L_value : WS := (wSeq (wAsg (wC (.int 0)) (gN 2))
  (wSeq (wFor (wRng1 (wVar 1)) (gN 3) (wAsg (wOp wAdd (wOp wMul (wC (.int 10)) (wVar 2)) (wCall S_L_draw (wCons (wVar 0) (wCons (wC (.int 10)) wNil)))) (gN 2)))
  (wSeq (wAsg (wCall S_L_floor_root (wCons (wVar 2) wNil)) (gN 4))
  (wRet (wCall S_L_pick (wCons (wVar 0) (wCons (wLst (wCons (wVar 2) (wCons (wVar 2) (wCons (wOp wMul (wVar 4) (wVar 4)) (wCons (wOp wMul (wVar 4) (wVar 4)) (wCons (wOp wAdd (wOp wMul (wVar 4) (wVar 4)) (wC (.int 1))) (wCons (wOp wSub (wOp wMul (wVar 4) (wVar 4)) (wC (.int 1))) (wCons (wOp wAdd (wOp wMul (wVar 4) (wVar 4)) (wVar 4)) (wCons (wC (.int 0)) (wCons (wC (.int 1)) (wCons (wCall S_L_ten (wCons (wVar 1) wNil)) (wCons (wOp wSub (wCall S_L_ten (wCons (wVar 1) wNil)) (wC (.int 1))) (wCons (wC (.bl true)) (wCons (wC .non) (wCons (wTup (wCons (wVar 2) wNil)) (wCons (wNeg (wC (.int 4))) wNil)))))))))))))))) wNil)))))))

def w_law_1 : WS := (wSeq (wPar 8 9 (wCons (wCall S_L_value (wCons (wVar 1) (wCons (wVar 3) wNil))) (wCons (wOp wSub (wVar 6) (wCall fInt (wCons (wOp wEq (wVar 7) (wC (.int 2))) wNil))) wNil)))
  (wSeq (wAsg (wAndV (wCall S_L_is_whole (wCons (wVar 8) wNil)) (wAndV (wChain wLe wLt (wC (.int 1)) (wVar 8) (wCall S_L_ten (wCons (wVar 3) wNil))) (wCall S_L_root_wrong (wCons (wVar 8) (wCons (wVar 4) (wCons (wVar 9) (wCons (wVar 5) wNil))))))) (gN 10))
  (wSeq (wAsg (wIfE (wTest (wOp (wIn false) (wVar 7) (wLst (wCons (wC (.int 0)) (wCons (wC (.int 2)) (wCons (wC (.int 4)) wNil)))))) (wCall S_judge_for_roots (wCons (wVar 3) (wCons (wVar 4) (wCons (wVar 5) (wCons (wVar 9) (wCons (wVar 8) wNil)))))) (wCallK S_judge_for_roots [4, 3, 2, 1, 0] 5 (wCons (wVar 8) (wCons (wVar 9) (wCons (wVar 5) (wCons (wVar 4) (wCons (wVar 3) wNil))))))) (gN 11))
  (wIf (wNotT (wTru (wCall (S_L_same 2) (wCons (wVar 11) (wCons (wVar 10) wNil))))) (wRet (wC (.bl false))) wNext))))
def w_law : WS := (wSeq (wAsg (wCall S_L_flow (wCons (wVar 0) wNil)) (gN 1))
  (wSeq (wFor (wRng1 (wC (.int 2))) (gN 2) (wSeq (wAsg (wCall S_L_pick (wCons (wVar 1) (wCons (wLst (wCons (wC (.int 1)) (wCons (wC (.int 1)) (wCons (wC (.int 2)) (wCons (wC (.int 2)) (wCons (wC (.int 2)) (wCons (wC (.int 3)) wNil))))))) wNil))) (gN 3))
  (wSeq (wPar 4 5 (wCons (wOp wAdd (wC (.int 1)) (wCall S_L_draw (wCons (wVar 1) (wCons (wOp wAdd (wOp wDiv (wVar 3) (wC (.int 2))) (wC (.int 4))) wNil)))) (wCons (wCall S_L_pick (wCons (wVar 1) (wCons (wLst (wCons (wC (.str "both")) (wCons (wC (.str "low")) (wCons (wC (.str "high")) wNil)))) wNil))) wNil)))
  (wSeq (wAsg (wCall S_L_least_roots (wCons (wVar 3) (wCons (wVar 4) (wCons (wVar 5) wNil)))) (gN 6))
  (wSeq (wIf (wNotT (wTru (wCall (S_L_same 2) (wCons (wIfE (wTest (wOp wEq (wVar 2) (wC (.int 0)))) (wCall S_least_for_roots (wCons (wVar 3) (wCons (wVar 4) (wCons (wVar 5) wNil)))) (wCallK S_least_for_roots [2, 1, 0] 3 (wCons (wVar 5) (wCons (wVar 4) (wCons (wVar 3) wNil))))) (wCons (wVar 6) wNil))))) (wRet (wC (.bl false))) wNext)
  (wFor (wRng1 (wC (.int 6))) (gN 7) (wSeq (wIf (wTest (wOp wGt (wVar 7) (wC (.int 2)))) (wSeq (wPar 3 5 (wCons (wOp wAdd (wC (.int 1)) (wCall S_L_draw (wCons (wVar 1) (wCons (wC (.int 40)) wNil)))) (wCons (wCall S_L_pick (wCons (wVar 1) (wCons (wLst (wCons (wC (.str "both")) (wCons (wC (.str "low")) (wCons (wC (.str "high")) wNil)))) wNil))) wNil)))
  (wSeq (wAsg (wOp wAdd (wC (.int 1)) (wCall S_L_draw (wCons (wVar 1) (wCons (wC (.int 40)) wNil)))) (gN 4))
  (wAsg (wOp wAdd (wCall fMax2 (wCons (wC (.int 0)) (wCons (wOp wSub (wVar 4) (wC (.int 2))) wNil))) (wCall S_L_draw (wCons (wVar 1) (wCons (wC (.int 53)) wNil)))) (gN 6)))) wNext)
  w_law_1)))))))
  (wRet (wC (.bl true)))))

end K60
end
section
set_option Elab.async false
set_option linter.all false
set_option maxRecDepth 100000
set_option maxHeartbeats 4000000
set_option exponentiation.threshold 20000
namespace K60
open PySem PySem.Spec PyProof.Rows L2 Dw Rt
local macro_rules | `(tactic| walk_at "st") => `(tactic| first
  | with_reducible refine x_seq ?_
  | with_reducible refine x_next ?_
  | with_reducible refine x_asg ?_
  | with_reducible refine x_gN ?_
  | ((with_reducible apply x_var); · rfl)
  | with_reducible refine x_c ?_
  | with_reducible refine x_op ?_
  | with_reducible refine x_i0 ?_
  | with_reducible refine x_iB ?_
  | with_reducible refine x_eqI ?_
  | with_reducible refine x_asB ?_
  | with_reducible refine x_asI ?_
  | with_reducible refine x_call ?_
  | with_reducible refine x_cons ?_
  | with_reducible refine x_nil ?_
  | with_reducible refine x_ret ?_
  | with_reducible refine x_test ?_
  | with_reducible refine x_if ?_
  | with_reducible refine x_ifE ?_
  | with_reducible refine x_asP ?_
  | with_reducible refine x_as2 ?_
  | with_reducible refine x_par ?_
  | with_reducible refine x_par3 ?_
  | with_reducible refine x_as3 ?_
  | with_reducible refine x_drop ?_
  | with_reducible refine x_retN ?_
  | with_reducible refine x_break ?_
  | with_reducible refine x_cont ?_
  | ((with_reducible apply x_aug); · rfl)
  | with_reducible refine x_put ?_
  | ((with_reducible refine x_gT ?_ ?_); · rfl)
  | with_reducible refine x_gsCons ?_
  | with_reducible refine x_gsNil ?_
  | with_reducible refine x_chain ?_
  | ((with_reducible apply x_inL); (case e1 => rfl); (case e2 => rfl))
  | ((with_reducible apply x_inT); (case e1 => rfl); (case e2 => rfl))
  | with_reducible refine x_andT ?_
  | with_reducible refine x_orT ?_
  | with_reducible refine x_notT ?_
  | with_reducible refine x_andV ?_
  | with_reducible refine x_orV ?_
  | with_reducible refine x_notV ?_
  | with_reducible refine x_tup ?_
  | with_reducible refine x_lst ?_
  | with_reducible refine x_new ?_
  | with_reducible refine x_callK ?_
  | ((with_reducible refine x_asTp ?_ ?_); · exact Nat.le_of_ble_eq_true rfl)
  | ((with_reducible refine x_asLs ?_ ?_); · exact Nat.le_of_ble_eq_true rfl)
  | ((with_reducible apply x_asK); (case e => rfl); (case e2 => rfl))
  | ((with_reducible apply x_ixQ); (case k => assumption); (case e => rfl))
  | ((with_reducible apply x_rPutQ); (case e1 => assumption); (case e2 => rfl); (case hb => rfl))
  | ((with_reducible refine x_expoQ ?_ ?_); · rfl)
  | with_reducible refine x_neg ?_
  | with_reducible refine x_isi ?_
  | ((with_reducible refine x_asIs ?_ ?_); · rfl)
  | with_reducible refine x_bits ?_
  | with_reducible refine x_app ?_
  | with_reducible refine x_tru ?_
  | with_reducible refine x_asTb ?_
  | with_reducible refine x_asTi ?_
  | with_reducible refine x_asTn ?_
  | with_reducible refine x_asTt ?_
  | with_reducible refine x_asTl ?_
  | with_reducible refine x_for ?_
  | with_reducible refine x_comp ?_
  | with_reducible refine x_yes ?_
  | with_reducible refine x_rng1 ?_
  | with_reducible refine x_rng2 ?_
  | with_reducible refine x_seqI ?_
  | with_reducible refine x_asSt ?_
  | with_reducible refine x_asSl ?_
  | with_reducible refine x_sl ?_
  | with_reducible refine x_asCl ?_
  | with_reducible refine x_noP ?_
  | with_reducible refine x_part ?_
  | with_reducible refine x_subB ?_
  | with_reducible refine x_eqS ?_
  | with_reducible refine x_eqB ?_
  | with_reducible refine x_isN ?_
  | ((with_reducible refine x_iC ?_ ?_); · first | exact mul_l (by decide) (by decide) | exact mul_r (by decide) (by decide) | exact div_w (p := 40) (by decide) (by decide) (by decide) | (show (_ : Int) ≠ 0; decide) | assumption)
  | ((with_reducible apply x_ixT); · rfl)
  | ((with_reducible apply x_ixL); · rfl)
  | with_reducible refine x_len ?_
  | with_reducible refine x_lenL ?_
  | with_reducible refine x_int ?_
  | with_reducible refine x_intB ?_
  | with_reducible refine x_abs ?_
  | with_reducible refine x_max2 ?_
  | with_reducible refine x_min2 ?_
  | with_reducible refine x_tupT ?_
  | with_reducible refine x_tupL ?_
  | ((with_reducible refine x_expo0 ?_ ?_); · rfl))
local macro_rules | `(tactic| walk_at "go") => `(tactic| repeat (walk_at "st"))
set_option exponentiation.threshold 20000
theorem h_tens : ∀ ds μ Q, S_tens ds μ Q → wDef 3 1 w_tens ds μ Q := by
  rintro ds μ Q ⟨m, rfl, hm, q⟩
  refine x_def (ρ0 := [some (.int m), none, none]) rfl rfl ?_
  unfold w_tens
  walk_at "go"
  have e : (if (m : Int) < 0 then -(m : Int) else m) = m := if_neg (by omega)
  rw [e]
  refine ⟨by omega, by omega, fun i ρ μ' => μ' = μ ∧ ∃ o, ρ = [some (.int m), some (.int (10 ^ i)), o], ⟨rfl, none, rfl⟩, fun _ _ _ _ => trivial, ?_, ?_⟩
  · rintro i d ρ μ' hd ⟨rfl, o, rfl⟩
    walk_at "go"
    exact ⟨rfl, some d, rfl⟩
  · rintro ρ μ' ⟨rfl, o, rfl⟩
    rw [rngD_len]
    walk_at "go"
    refine it_t (by simp) ?_
    walk_at "go"
    simpa using q
theorem bits_lt {n : Int} (h0 : 0 ≤ n) {k : Nat} (hk : 0 < k) (h : n < 2 ^ k) : Builtin.Int.intBits n ≤ k := by
  unfold Builtin.Int.intBits
  split
  · omega
  · rename_i z
    have z : n.natAbs ≠ 0 := by simp at z; omega
    have : n.natAbs < 2 ^ k := by
      have : ((n.natAbs : Nat) : Int) < ((2 ^ k : Nat) : Int) := by
        push_cast
        omega
      exact Int.ofNat_lt.mp this
    have := (Nat.log2_lt z).mpr this
    omega
theorem abs_lt {x : Int} {k : Nat} (h0 : 0 ≤ x) (h : x < 2 ^ k) : x.natAbs < 2 ^ k := by
  have : ((x.natAbs : Nat) : Int) < ((2 ^ k : Nat) : Int) := by
    push_cast
    omega
  exact Int.ofNat_lt.mp this
theorem fdiv_nn (a : Int) {b : Int} (h : 0 ≤ b) : a.fdiv b = a / b := Int.fdiv_eq_ediv_of_nonneg a h
theorem h_floor_root : ∀ ds μ Q, S_floor_root ds μ Q → wDef 3 1 w_floor_root ds μ Q := by
  rintro ds μ Q ⟨n, rfl, h0, h1, q⟩
  refine x_def (ρ0 := [some (.int n), none, none]) rfl rfl ?_
  unfold w_floor_root
  walk_at "go"
  refine it_c (fun hc => ?_) (fun hc => ?_)
  · have hc : n = 0 := by simpa using hc
    subst hc
    walk_at "go"
    exact q
  · have hc : n ≠ 0 := by simpa using hc
    walk_at "go"
    have hb := bits_lt h0 (by decide) h1
    have hs := start_bits (n := n) (by omega)
    have hg : (2 : Int) ^ ((((Builtin.Int.intBits n : Nat) : Int) + 1).fdiv 2).toNat < 2 ^ 8001 := by
      rw [half_bits]
      exact Int.pow_lt_pow_of_lt (by decide) (by omega)
    have hp : (0 : Int) < 2 ^ ((((Builtin.Int.intBits n : Nat) : Int) + 1).fdiv 2).toNat := Int.pow_pos (by decide)
    refine x_iC ⟨by rw [fdiv_nn _ (by decide)]; omega, by rw [fdiv_nn _ (by decide)]; omega, by decide⟩ ?_
    walk_at "go"
    refine x_while ⟨fun ρ μ' => μ' = μ ∧ ∃ x o, ρ = [some (.int n), some (.int x), o] ∧ rt n ≤ x ∧ 0 < x ∧ x < 2 ^ 8001, fun ρ μ' => (match ρ with | [_, some (.int x), _] => x.toNat | _ => 0), ⟨rfl, _, none, rfl, hs, by omega, by omega⟩, ?_⟩
    rintro ρ μ' ⟨rfl, x, o, rfl, a1, a2, a3⟩
    walk_at "go"
    refine it_t rfl ?_
    walk_at "go"
    refine x_iC (div_w (p := 8001) (by omega) (abs_lt (by omega) a3) (by decide)) ?_
    walk_at "go"
    rw [show n.fdiv x = n / x from fdiv_nn _ (by omega), show (x + n / x).fdiv 2 = (x + n / x) / 2 from fdiv_nn _ (by decide)]
    have g := newton_ge (x := x) h0 a2
    refine it_c (fun hc => ?_) (fun hc => ?_)
    · have hc : x ≤ (x + n / x) / 2 := by simpa using hc
      have e := newton_stop h0 a2 a1 hc
      walk_at "go"
      rw [e]
      exact q
    · have hc : ¬ x ≤ (x + n / x) / 2 := by simpa using hc
      walk_at "go"
      have r1 := rt_pos (n := n) (by omega)
      exact ⟨⟨rfl, _, _, rfl, g, by omega, by omega⟩, by show Int.toNat _ < Int.toNat _; omega⟩
theorem h_ground_of : ∀ ds μ Q, S_ground_of ds μ Q → wDef 1 1 w_ground_of ds μ Q := by
  rintro ds μ Q ⟨p, rfl, h, q⟩
  refine x_def (ρ0 := [some (.int p)]) rfl rfl ?_
  unfold w_ground_of
  walk_at "go"
  refine ⟨2 * p, by simp, by omega, ?_⟩
  walk_at "go"
  exact q
theorem h_border_below : ∀ ds μ Q, S_border_below ds μ Q → wDef 2 1 w_border_below ds μ Q := by
  rintro ds μ Q ⟨n, rfl, h0, h1, q⟩
  refine x_def (ρ0 := [some (.int n), none]) rfl rfl ?_
  unfold w_border_below
  walk_at "go"
  refine ⟨n, rfl, h0, h1, ?_⟩
  walk_at "go"
  unfold bel at q
  refine it_c (fun hc => ?_) (fun hc => ?_)
  · rw [if_pos (by simpa using hc)] at q
    walk_at "go"
    exact q
  · rw [if_neg (by simpa using hc)] at q
    walk_at "go"
    exact q
theorem rt_lt_of {n : Int} {k : Nat} (h0 : 0 ≤ n) (h : n < 2 ^ k) : rt n < 2 ^ k := by
  have := rt_le_self h0
  omega
theorem h_border_by : ∀ ds μ Q, S_border_by ds μ Q → wDef 4 2 w_border_by ds μ Q := by
  rintro ds μ Q ⟨n, sd, rfl, h0, h1, q⟩
  refine x_def (ρ0 := [some (.int n), some (.str sd.s), none, none]) rfl rfl ?_
  unfold w_border_by
  walk_at "go"
  refine ⟨n, rfl, h0, h1, ?_⟩
  walk_at "go"
  cases sd with
  | below =>
    refine it_t (by decide) ?_
    walk_at "go"
    exact q
  | above =>
    refine it_f (by decide) ?_
    walk_at "go"
    refine it_t (by decide) ?_
    walk_at "go"
    exact q
  | both =>
  refine it_f (by decide) ?_
  walk_at "go"
  refine it_f (by decide) ?_
  walk_at "go"
  have b1 : (bel n + 1).natAbs < 2 ^ 8001 := by
    have := rt_lt_of h0 h1
    have := rt_nn n
    unfold bel
    have e : (2 : Int) ^ 8001 = 2 * 2 ^ 8000 := by rw [Int.pow_succ]; omega
    split
    · exact abs_lt (by omega) (by omega)
    · exact abs_lt (by omega) (by omega)
  refine x_iC (mul_w b1 b1 (by decide)) ?_
  walk_at "go"
  unfold bordS bord at q
  refine it_c (fun hc => ?_) (fun hc => ?_)
  · simp only [] at q
    rw [if_pos (by simpa using hc)] at q
    walk_at "go"
    exact q
  · simp only [] at q
    rw [if_neg (by simpa using hc)] at q
    walk_at "go"
    exact q
theorem nabs_mul {x y : Int} {p q : Nat} (h1 : x.natAbs < 2 ^ p) (h2 : y.natAbs < 2 ^ q) : (x * y).natAbs < 2 ^ (p + q) := wide_lt h1 h2
theorem nabs_add {x y : Int} {p : Nat} (h1 : x.natAbs < 2 ^ p) (h2 : y.natAbs < 2 ^ p) : (x + y).natAbs < 2 ^ (p + 1) := by
  rw [Nat.pow_succ]
  omega
theorem nabs_sub {x y : Int} {p : Nat} (h1 : x.natAbs < 2 ^ p) (h2 : y.natAbs < 2 ^ p) : (x - y).natAbs < 2 ^ (p + 1) := by
  rw [Nat.pow_succ]
  omega
theorem nabs_mono {x : Int} {p q : Nat} (h : x.natAbs < 2 ^ p) (k : p ≤ q) : x.natAbs < 2 ^ q := Nat.lt_of_lt_of_le h (Nat.pow_le_pow_right (by decide) k)
theorem h_sum_sign : ∀ ds μ Q, S_sum_sign ds μ Q → wDef 9 5 w_sum_sign ds μ Q := by
  rintro ds μ Q ⟨a, g, b, s, c, rfl, ha, hb, hg, hs, hc, q⟩
  refine x_def (ρ0 := [some (.int a), some (.int g), some (.int b), some (.int s), some (.int c), none, none, none, none]) rfl rfl ?_
  unfold w_sum_sign
  have key : ∀ f : Int, f.natAbs < 2 → f = (if a = b then (if 0 < g + s then a else 0) else a * (b2 (decide (s < g)) - b2 (decide (g < s)))) → 
      w_sum_sign_2 (ends μ Q) [some (.int a), some (.int g), some (.int b), some (.int s), some (.int c), some (.int f), none, none, none] μ := by
    intro f hf ef
    unfold w_sum_sign_2
    have hr : (c * c - g - s).natAbs < 2 ^ 16002 := nabs_sub (nabs_sub (nabs_mul hc hc) (nabs_mono hg (by decide))) (nabs_mono hs (by decide))
    walk_at "go"
    refine x_iC (mul_l (by omega) (by omega)) ?_
    walk_at "go"
    unfold sgnSum at q
    simp only [] at q
    rw [← ef] at q
    refine it_c (fun hc1 => ?_) (fun hc1 => ?_)
    · rw [if_pos (by simpa using hc1)] at q
      walk_at "go"
      refine it_c (fun hc2 => ?_) (fun hc2 => ?_)
      · rw [if_pos (by simpa using hc2)] at q
        walk_at "go"
        exact q
      · rw [if_neg (by simpa using hc2)] at q
        walk_at "go"
        exact q
    · rw [if_neg (by simpa using hc1)] at q
      walk_at "go"
      refine x_iC (mul_w hc hc (by decide)) ?_
      walk_at "go"
      refine x_iC (mul_w (p := 8010) (q := 8000) (nabs_mono (nabs_mul (p := 3) (by decide) hg) (by decide)) hs (by decide)) ?_
      walk_at "go"
      have mm : CMulA (c * c - g - s) (c * c - g - s) := mul_w hr hr (by decide)
      have fin : ∀ z : Int, (z = 1 ∨ z = -1 ∨ z = 0) → CMulA f z := fun z hz => mul_l (by omega) (by omega)
      have bz : ∀ p q : Bool, b2i p - b2i q = 1 ∨ b2i p - b2i q = -1 ∨ b2i p - b2i q = 0 := by decide
      refine it_c (fun hc3 => ?_) (fun hc3 => ?_)
      · rw [if_pos (by simpa using hc3)] at q
        walk_at "go"
        refine it_c (fun hc4 => ?_) (fun hc4 => ?_)
        · rw [if_pos (by simpa using hc4)] at q
          walk_at "go"
          unfold w_sum_sign_1
          walk_at "go"
          exact q
        · rw [if_neg (by simpa using hc4)] at q
          walk_at "go"
          unfold w_sum_sign_1
          walk_at "go"
          refine x_iC (fin _ (bz _ _)) ?_
          walk_at "go"
          exact q
      · rw [if_neg (by simpa using hc3)] at q
        walk_at "go"
        refine it_c (fun hc4 => ?_) (fun hc4 => ?_)
        · rw [if_pos (by simpa using hc4)] at q
          walk_at "go"
          unfold w_sum_sign_1
          walk_at "go"
          exact q
        · rw [if_neg (by simpa using hc4)] at q
          walk_at "go"
          unfold w_sum_sign_1
          walk_at "go"
          refine x_iC (fin _ (bz _ _)) ?_
          walk_at "go"
          exact q
  walk_at "go"
  refine it_c (fun hc1 => ?_) (fun hc1 => ?_)
  · have hc1 : a = b := by simpa using hc1
    rw [if_pos hc1] at key
    walk_at "go"
    refine it_c (fun hc2 => ?_) (fun hc2 => ?_)
    · rw [if_pos (by simpa using hc2)] at key
      walk_at "go"
      exact key a (by omega) rfl
    · rw [if_neg (by simpa using hc2)] at key
      walk_at "go"
      exact key 0 (by decide) rfl
  · have hc1 : a ≠ b := by simpa using hc1
    rw [if_neg hc1] at key
    walk_at "go"
    refine x_iC (mul_l (by omega) (by omega)) ?_
    walk_at "go"
    refine key _ ?_ rfl
    have bz : ∀ p q : Bool, b2i p - b2i q = 1 ∨ b2i p - b2i q = -1 ∨ b2i p - b2i q = 0 := by decide
    try unfold b2
    have := bz (decide (s < g)) (decide (g < s))
    generalize b2i (decide (s < g)) - b2i (decide (g < s)) = z at this
    rcases ha with rfl | rfl <;> rcases this with rfl | rfl | rfl <;> decide
theorem h_room_order : ∀ ds μ Q, S_room_order ds μ Q → wDef 6 4 w_room_order ds μ Q := by
  rintro ds μ Q ⟨x, g, y, s, rfl, hx, hg, hy, hs, q⟩
  refine x_def (ρ0 := [some (.int x), some (.int g), some (.int y), some (.int s), none, none]) rfl rfl ?_
  unfold w_room_order
  have key : ∀ (i j : Int), (i = 1 ∨ i = -1) → (j = 1 ∨ j = -1) → i = (if x * x < g then 1 else -1) → j = (if y * y < s then 1 else -1) →
      (wRet (wCall S_sum_sign (wCons (wVar 4) (wCons (wVar 1) (wCons (wNeg (wVar 5)) (wCons (wVar 3) (wCons (wOp wSub (wOp wMul (wVar 4) (wVar 0)) (wOp wMul (wVar 5) (wVar 2))) wNil))))))) { nx := fun _ μ' => Q .non (μ'.take μ.length), rt := fun d μ' => expo μ.length d μ' Q } [some (.int x), some (.int g), some (.int y), some (.int s), some (.int i), some (.int j)] μ := by
    intro i j hi hj ei ej
    walk_at "go"
    refine x_iC (mul_l (by omega) (by omega)) ?_
    walk_at "go"
    refine x_iC (mul_l (by omega) (by omega)) ?_
    walk_at "go"
    refine ⟨i, g, -j, s, i * x - j * y, rfl, hi, by omega, nabs_mono hg (by decide), nabs_mono hs (by decide), ?_, ?_⟩
    · refine nabs_mono (p := 7002) (nabs_sub (p := 7001) ?_ ?_) (by decide)
      · rcases hi with rfl | rfl <;> (rw [Nat.pow_succ]; omega)
      · rcases hj with rfl | rfl <;> (rw [Nat.pow_succ]; omega)
    · walk_at "go"
      rw [ei, ej]
      exact q
  have xx : CMulA x x := mul_w hx hx (by decide)
  have yy : CMulA y y := mul_w hy hy (by decide)
  walk_at "go"
  refine it_c (fun hc => ?_) (fun hc => ?_)
  · walk_at "go"
    refine it_c (fun hd => ?_) (fun hd => ?_)
    · walk_at "st"
      walk_at "st"
      exact key 1 1 (.inl rfl) (.inl rfl) (by rw [if_pos (by simpa using hc)]) (by rw [if_pos (by simpa using hd)])
    · walk_at "st"
      walk_at "st"
      walk_at "st"
      walk_at "st"
      exact key 1 (-1) (.inl rfl) (.inr rfl) (by rw [if_pos (by simpa using hc)]) (by rw [if_neg (by simpa using hd)])
  · walk_at "go"
    refine it_c (fun hd => ?_) (fun hd => ?_)
    · walk_at "st"
      walk_at "st"
      exact key (-1) 1 (.inr rfl) (.inl rfl) (by rw [if_neg (by simpa using hc)]) (by rw [if_pos (by simpa using hd)])
    · walk_at "st"
      walk_at "st"
      walk_at "st"
      walk_at "st"
      exact key (-1) (-1) (.inr rfl) (.inr rfl) (by rw [if_neg (by simpa using hc)]) (by rw [if_neg (by simpa using hd)])
end K60
end
section
set_option Elab.async false
set_option linter.all false
set_option maxRecDepth 100000
set_option maxHeartbeats 4000000
set_option exponentiation.threshold 20000
namespace K60
open PySem PySem.Spec PyProof.Rows L2 Dw Rt
local macro_rules | `(tactic| walk_at "st") => `(tactic| first
  | with_reducible refine x_seq ?_
  | with_reducible refine x_next ?_
  | with_reducible refine x_asg ?_
  | with_reducible refine x_gN ?_
  | ((with_reducible apply x_var); · rfl)
  | with_reducible refine x_c ?_
  | with_reducible refine x_op ?_
  | with_reducible refine x_i0 ?_
  | with_reducible refine x_iB ?_
  | with_reducible refine x_eqI ?_
  | with_reducible refine x_asB ?_
  | with_reducible refine x_asI ?_
  | with_reducible refine x_call ?_
  | with_reducible refine x_cons ?_
  | with_reducible refine x_nil ?_
  | with_reducible refine x_ret ?_
  | with_reducible refine x_test ?_
  | with_reducible refine x_if ?_
  | with_reducible refine x_ifE ?_
  | with_reducible refine x_asP ?_
  | with_reducible refine x_as2 ?_
  | with_reducible refine x_par ?_
  | with_reducible refine x_par3 ?_
  | with_reducible refine x_as3 ?_
  | with_reducible refine x_drop ?_
  | with_reducible refine x_retN ?_
  | with_reducible refine x_break ?_
  | with_reducible refine x_cont ?_
  | ((with_reducible apply x_aug); · rfl)
  | with_reducible refine x_put ?_
  | ((with_reducible refine x_gT ?_ ?_); · rfl)
  | with_reducible refine x_gsCons ?_
  | with_reducible refine x_gsNil ?_
  | with_reducible refine x_chain ?_
  | ((with_reducible apply x_inL); (case e1 => rfl); (case e2 => rfl))
  | ((with_reducible apply x_inT); (case e1 => rfl); (case e2 => rfl))
  | with_reducible refine x_andT ?_
  | with_reducible refine x_orT ?_
  | with_reducible refine x_notT ?_
  | with_reducible refine x_andV ?_
  | with_reducible refine x_orV ?_
  | with_reducible refine x_notV ?_
  | with_reducible refine x_tup ?_
  | with_reducible refine x_lst ?_
  | with_reducible refine x_new ?_
  | with_reducible refine x_callK ?_
  | ((with_reducible refine x_asTp ?_ ?_); · exact Nat.le_of_ble_eq_true rfl)
  | ((with_reducible refine x_asLs ?_ ?_); · exact Nat.le_of_ble_eq_true rfl)
  | ((with_reducible apply x_asK); (case e => rfl); (case e2 => rfl))
  | ((with_reducible apply x_ixQ); (case k => assumption); (case e => rfl))
  | ((with_reducible apply x_rPutQ); (case e1 => assumption); (case e2 => rfl); (case hb => rfl))
  | ((with_reducible refine x_expoQ ?_ ?_); · rfl)
  | with_reducible refine x_neg ?_
  | with_reducible refine x_isi ?_
  | ((with_reducible refine x_asIs ?_ ?_); · rfl)
  | with_reducible refine x_bits ?_
  | with_reducible refine x_app ?_
  | with_reducible refine x_tru ?_
  | with_reducible refine x_asTb ?_
  | with_reducible refine x_asTi ?_
  | with_reducible refine x_asTn ?_
  | with_reducible refine x_asTt ?_
  | with_reducible refine x_asTl ?_
  | with_reducible refine x_for ?_
  | with_reducible refine x_comp ?_
  | with_reducible refine x_yes ?_
  | with_reducible refine x_rng1 ?_
  | with_reducible refine x_rng2 ?_
  | with_reducible refine x_seqI ?_
  | with_reducible refine x_asSt ?_
  | with_reducible refine x_asSl ?_
  | with_reducible refine x_sl ?_
  | with_reducible refine x_asCl ?_
  | with_reducible refine x_noP ?_
  | with_reducible refine x_part ?_
  | with_reducible refine x_subB ?_
  | with_reducible refine x_eqS ?_
  | with_reducible refine x_eqB ?_
  | with_reducible refine x_isN ?_
  | ((with_reducible refine x_iC ?_ ?_); · first | exact mul_l (by decide) (by decide) | exact mul_r (by decide) (by decide) | exact div_w (p := 40) (by decide) (by decide) (by decide) | (show (_ : Int) ≠ 0; decide) | assumption)
  | ((with_reducible apply x_ixT); · rfl)
  | ((with_reducible apply x_ixL); · rfl)
  | with_reducible refine x_len ?_
  | with_reducible refine x_lenL ?_
  | with_reducible refine x_int ?_
  | with_reducible refine x_intB ?_
  | with_reducible refine x_abs ?_
  | with_reducible refine x_max2 ?_
  | with_reducible refine x_min2 ?_
  | with_reducible refine x_tupT ?_
  | with_reducible refine x_tupL ?_
  | ((with_reducible refine x_expo0 ?_ ?_); · rfl))
local macro_rules | `(tactic| walk_at "go") => `(tactic| repeat (walk_at "st"))
theorem ten_pow (k : Nat) : ((10 ^ k : Nat) : Int) = (10 : Int) ^ k := by push_cast; rfl
theorem dec_bin {n : Int} {k m : Nat} (h : n < 10 ^ k) (hm : 10 ^ k ≤ 2 ^ m := by decide) : n < 2 ^ m := by
  have : ((10 ^ k : Nat) : Int) ≤ ((2 ^ m : Nat) : Int) := Int.ofNat_le.mpr hm
  rw [ten_pow] at this
  have e : ((2 ^ m : Nat) : Int) = 2 ^ m := by push_cast; rfl
  rw [e] at this
  omega
theorem ground_le {p : Nat} (h : p ≤ 50) : (4 * 10 ^ (2 * p) : Int) < 2 ^ 340 := by
  have : (10 ^ (2 * p) : Nat) ≤ 10 ^ 100 := Nat.pow_le_pow_right (by decide) (by omega)
  have := Int.ofNat_le.mpr this
  rw [ten_pow, ten_pow] at this
  have : (4 * 10 ^ 100 : Int) < 2 ^ 340 := by decide
  omega
theorem ground_pos (p : Nat) : 0 < (4 * 10 ^ (2 * p) : Int) := by
  have : (0 : Int) < 10 ^ (2 * p) := Int.pow_pos (by decide)
  omega
theorem of_abs {x : Int} {k : Nat} (h0 : 0 ≤ x) (h : x.natAbs < 2 ^ k) : x < 2 ^ k := by
  have : ((x.natAbs : Nat) : Int) < ((2 ^ k : Nat) : Int) := Int.ofNat_lt.mpr h
  push_cast at this
  omega
theorem prod_lt {n g : Int} {a b : Nat} (h0 : 0 ≤ n) (h1 : n < 2 ^ a) (h2 : 0 ≤ g) (h3 : g < 2 ^ b) : 0 ≤ n * g ∧ n * g < 2 ^ (a + b) :=
  ⟨Int.mul_nonneg h0 h2, of_abs (Int.mul_nonneg h0 h2) (nabs_mul (abs_lt h0 h1) (abs_lt h2 h3))⟩
theorem lt_mono {x : Int} {p q : Nat} (h : x < 2 ^ p) (k : p ≤ q) : x < 2 ^ q := by
  have : ((2 ^ p : Nat) : Int) ≤ ((2 ^ q : Nat) : Int) := Int.ofNat_le.mpr (Nat.pow_le_pow_right (by decide) k)
  push_cast at this
  omega
theorem bord_nn {n : Int} (h : 0 ≤ n) : -1 ≤ bord n ∧ bord n ≤ n + 2 := by
  have := rt_nn n
  have := rt_le_self h
  unfold bord bel
  split <;> split <;> omega
theorem bord_abs {n : Int} {k : Nat} (h : 0 ≤ n) (h1 : n < 2 ^ k) (hk : 2 ≤ k) : (bord n).natAbs < 2 ^ (k + 1) := by
  have := bord_nn h
  have e : (2 : Nat) ^ (k + 1) = 2 * 2 ^ k := by rw [Nat.pow_succ]; omega
  have h2 : (4 : Nat) ≤ 2 ^ k := Nat.pow_le_pow_right (n := 2) (by decide) hk
  have := abs_lt h h1
  omega
theorem below_ints {n : Nat} : ∀ ns : List Int, belows n (ns.map D.int) = true
  | [] => rfl
  | _ :: ns => by simp [belows, below, below_ints ns]
theorem h_L_flow : ∀ ds μ Q, S_L_flow ds μ Q → wDefK 2 1 w_L_flow ds μ Q := by
  rintro ds μ Q ⟨ns, rfl, hl, q⟩
  refine ⟨rfl, ?_⟩
  unfold w_L_flow
  walk_at "go"
  have key : ∀ d ∈ Dw.cutD (ns.map D.int) none (some 63), ∃ i : Int, d = .int i := fun d hd => by
    have hd := List.mem_of_mem_drop (List.mem_of_mem_take hd)
    obtain ⟨i, _, e⟩ := List.mem_map.mp hd
    exact ⟨i, e.symm⟩
  have ln : (Dw.cutD (ns.map D.int) none (some 63)).length ≤ ns.length := by
    unfold Dw.cutD
    rw [List.length_take, List.length_drop, List.length_map]
    omega
  refine comp_map (fun d => match d with | .int i => .int (if i < 0 then -i else i) | d => d) (by omega) (fun d hd Q Z h => ?_) ?_
  · obtain ⟨i, rfl⟩ := key d hd
    walk_at "go"
    refine it_t rfl ?_
    walk_at "go"
    exact h
  · walk_at "go"
    generalize hc : List.map _ (Dw.cutD (ns.map D.int) none (some 63)) = cs
    have hcs : ∃ ms : List Int, cs = ms.map D.int := by
      subst hc
      generalize Dw.cutD (ns.map D.int) none (some 63) = l at key
      induction l with
      | nil => exact ⟨[], rfl⟩
      | cons d l ih =>
        obtain ⟨i, rfl⟩ := key d List.mem_cons_self
        obtain ⟨ms, e⟩ := ih fun d hd => key d (List.mem_cons_of_mem _ hd)
        exact ⟨(if i < 0 then -i else i) :: ms, by rw [List.map_cons, e]; rfl⟩
    obtain ⟨ms, rfl⟩ := hcs
    refine x_asNw (Nat.le_of_ble_eq_true rfl) (by simp [belows, below, below_ints]) ?_
    exact q _ ⟨0, 0, 0, 0, ms, rfl, by decide, by decide, by decide⟩
theorem fmod_rng {x m : Int} (h : 0 < m) : 0 ≤ x.fmod m ∧ x.fmod m < m := by
  rw [Int.fmod_eq_emod_of_nonneg _ (Int.le_of_lt h)]
  exact ⟨Int.emod_nonneg _ (by omega), Int.emod_lt_of_pos _ h⟩
theorem atI_ok {ns : List Int} {i : Int} (h0 : 0 ≤ i) (h : i < ns.length) : ∃ z, atI (ns.map D.int) i = some (.int z) := by
  obtain ⟨k, rfl⟩ := Int.eq_ofNat_of_zero_le h0
  have hk : k < ns.length := by omega
  exact ⟨ns[k], atI_nat (by rw [List.getElem?_map, List.getElem?_eq_getElem hk]; rfl)⟩
theorem h_L_draw : ∀ ds μ Q, S_L_draw ds μ Q → wDef 6 2 w_L_draw ds μ Q := by
  rintro ds μ Q ⟨f, many, c, rfl, h1, h2, h3, ⟨a, b, k, n, ns, rfl, hb, hb2, hk⟩, q⟩
  refine x_defP (ρ0 := [some (.loc f), some (.int many), none, none, none, none]) rfl rfl h3 ?_
  unfold w_L_draw
  have hf : f < μ.length := (List.getElem?_eq_some_iff.mp h3).1
  have hm : many ≠ 0 := by omega
  have key1 : ∀ (a b k n cell : Int), 0 ≤ b → b ≤ 60 → 0 ≤ k → w_L_draw_1 (ends μ Q) [some (.loc f), some (.int many), none, some (.int cell), none, none] (μ.set f [.int a, .int b, .int k, .int n, .lst (ns.map D.int)]) := by
    intro a b k n cell hb hb2 hk
    unfold w_L_draw_1
    walk_at "go"
    obtain ⟨p1, p2⟩ := fmod_rng (x := cell * 48271 + n * 69621) (m := 2147483647) (by decide)
    generalize (cell * 48271 + n * 69621).fmod 2147483647 = first at p1 p2 ⊢
    refine x_iC (mul_l (by omega) (by omega)) ?_
    walk_at "go"
    obtain ⟨p3, p4⟩ := fmod_rng (x := first * first + n * 40692) (m := 2147483399) (by decide)
    generalize (first * first + n * 40692).fmod 2147483399 = second at p3 p4 ⊢
    refine x_iC (mul_l (by omega) (by omega)) ?_
    walk_at "go"
    obtain ⟨p5, p6⟩ := fmod_rng (x := (second * second + first).fmod 2147483647) (m := many) h1
    exact q _ _ p5 p6 ⟨a, b, k, n, ns, rfl, hb, hb2, hk⟩
  have key2 : ∀ (a b k n : Int), 0 ≤ b → b ≤ 60 → 0 ≤ k → w_L_draw_2 (ends μ Q) [some (.loc f), some (.int many), none, none, none, none] (μ.set f [.int a, .int b, .int k, .int n, .lst (ns.map D.int)]) := by
    intro a b k n hb hb2 hk
    unfold w_L_draw_2
    walk_at "go"
    refine it_c (fun hc => ?_) (fun hc => ?_)
    · walk_at "go"
      obtain ⟨p1, p2⟩ := fmod_rng (x := a) (m := many) h1
      generalize a.fmod many = got at p1 p2 ⊢
      refine x_iC (div_w (p := 1000) hm (abs_lt (by omega) h2) (by decide)) ?_
      walk_at "go"
      refine x_iC (mul_l (by omega) (by omega)) ?_
      walk_at "go"
      refine q _ _ p1 p2 ⟨_, _, _, _, ns, rfl, ?_, ?_, hk⟩
      · have hc : 0 < b := by simpa using hc
        cases decide (0 < a.fdiv many) <;> simp [b2i] <;> omega
      · cases decide (0 < a.fdiv many) <;> simp [b2i] <;> omega
    · walk_at "go"
      refine it_c (fun hd => ?_) (fun hd => ?_)
      · have hd : 0 < ns.length := by simpa using hd
        walk_at "go"
        rw [List.length_map]
        refine x_iC (show (ns.length : Int) ≠ 0 by omega) ?_
        walk_at "go"
        obtain ⟨p1, p2⟩ := fmod_rng (x := k) (m := ns.length) (by omega)
        obtain ⟨z, e⟩ := atI_ok p1 p2
        refine x_ixL e ?_
        walk_at "go"
        exact key1 _ _ _ _ _ hb hb2 (by omega)
      · walk_at "go"
        exact key1 _ _ _ _ _ hb hb2 hk
  walk_at "go"
  refine it_c (fun hc => ?_) (fun hc => ?_)
  · walk_at "go"
    refine it_c (fun hd => ?_) (fun hd => ?_)
    · rw [List.length_map] at hd
      have hd : k < ns.length := by simpa using hd
      walk_at "go"
      obtain ⟨z, e⟩ := atI_ok hk hd
      refine x_ixL e ?_
      walk_at "go"
      refine x_iC ⟨by decide, by decide, by decide⟩ ?_
      walk_at "go"
      refine it_c (fun he => ?_) (fun he => ?_)
      · walk_at "go"
        refine x_ixL e ?_
        walk_at "go"
        exact key2 _ _ _ _ (by decide) (by decide) (by omega)
      · walk_at "go"
        exact key2 _ _ _ _ hb hb2 hk
    · refine it_f rfl ?_
      walk_at "go"
      exact key2 _ _ _ _ hb hb2 hk
  · refine it_f rfl ?_
    walk_at "go"
    exact key2 _ _ _ _ hb hb2 hk
theorem h_L_ten : ∀ ds μ Q, S_L_ten ds μ Q → wDef 3 1 w_L_ten ds μ Q := by
  rintro ds μ Q ⟨m, rfl, hm, q⟩
  refine x_def (ρ0 := [some (.int m), none, none]) rfl rfl ?_
  unfold w_L_ten
  walk_at "go"
  refine ⟨by omega, by omega, fun i ρ μ' => μ' = μ ∧ ∃ o, ρ = [some (.int m), some (.int (10 ^ i)), o], ⟨rfl, none, rfl⟩, fun _ _ _ _ => trivial, ?_, ?_⟩
  · rintro i d ρ μ' hd ⟨rfl, o, rfl⟩
    walk_at "go"
    exact ⟨rfl, some d, by rw [Int.pow_succ, Int.mul_comm]; rfl⟩
  · rintro ρ μ' ⟨rfl, o, rfl⟩
    rw [rngD_len]
    walk_at "go"
    simpa using q
theorem h_L_is_whole : ∀ ds μ Q, S_L_is_whole ds μ Q → wDef 1 1 w_L_is_whole ds μ Q := by
  rintro ds μ Q ⟨d, rfl, hi, q⟩
  refine x_def (ρ0 := [some d]) rfl rfl ?_
  unfold w_L_is_whole
  cases d <;> first | (cases hi; done) | skip
  all_goals walk_at "go"
  all_goals first | (refine it_t rfl ?_; walk_at "go"; exact q) | (refine it_f rfl ?_; walk_at "go"; exact q)
theorem h_is_number : ∀ ds μ Q, S_is_number ds μ Q → wDef 1 1 w_is_number ds μ Q := by
  rintro ds μ Q ⟨d, rfl, hi, q⟩
  refine x_def (ρ0 := [some d]) rfl rfl ?_
  unfold w_is_number
  cases d <;> first | (cases hi; done) | skip
  all_goals walk_at "go"
  all_goals first | (refine it_t rfl ?_; walk_at "go"; exact q) | (refine it_f rfl ?_; walk_at "go"; exact q)
theorem h_is_from_to : ∀ ds μ Q, S_is_from_to ds μ Q → wDef 3 3 w_is_from_to ds μ Q := by
  rintro ds μ Q ⟨d, lo, hi, rfl, hd, q⟩
  refine x_def (ρ0 := [some d, some (.int lo), some (.int hi)]) rfl rfl ?_
  unfold w_is_from_to
  walk_at "go"
  refine ⟨d, rfl, hd, ?_⟩
  walk_at "go"
  cases d with
  | int i =>
    refine it_t rfl ?_
    walk_at "go"
    refine it_c (fun hc => ?_) (fun hc => ?_)
    · walk_at "go"
      have q : Q (.bl (decide (lo ≤ i) && decide (i ≤ hi))) μ := q
      rw [hc, Bool.true_and] at q
      exact q
    · walk_at "go"
      have q : Q (.bl (decide (lo ≤ i) && decide (i ≤ hi))) μ := q
      rw [hc, Bool.false_and] at q
      exact q
  | _ =>
    refine it_f rfl ?_
    walk_at "go"
    exact q
end K60
end
section
set_option Elab.async false
set_option linter.all false
set_option maxRecDepth 100000
set_option maxHeartbeats 4000000
set_option exponentiation.threshold 20000
namespace K60
open PySem PySem.Spec PyProof.Rows L2 Dw Rt
local macro_rules | `(tactic| walk_at "st") => `(tactic| first
  | with_reducible refine x_seq ?_
  | with_reducible refine x_next ?_
  | with_reducible refine x_asg ?_
  | with_reducible refine x_gN ?_
  | ((with_reducible apply x_var); · rfl)
  | with_reducible refine x_c ?_
  | with_reducible refine x_op ?_
  | with_reducible refine x_i0 ?_
  | with_reducible refine x_iB ?_
  | with_reducible refine x_eqI ?_
  | with_reducible refine x_asB ?_
  | with_reducible refine x_asI ?_
  | with_reducible refine x_call ?_
  | with_reducible refine x_cons ?_
  | with_reducible refine x_nil ?_
  | with_reducible refine x_ret ?_
  | with_reducible refine x_test ?_
  | with_reducible refine x_if ?_
  | with_reducible refine x_ifE ?_
  | with_reducible refine x_asP ?_
  | with_reducible refine x_as2 ?_
  | with_reducible refine x_par ?_
  | with_reducible refine x_par3 ?_
  | with_reducible refine x_as3 ?_
  | with_reducible refine x_drop ?_
  | with_reducible refine x_retN ?_
  | with_reducible refine x_break ?_
  | with_reducible refine x_cont ?_
  | ((with_reducible apply x_aug); · rfl)
  | with_reducible refine x_put ?_
  | ((with_reducible refine x_gT ?_ ?_); · rfl)
  | with_reducible refine x_gsCons ?_
  | with_reducible refine x_gsNil ?_
  | with_reducible refine x_chain ?_
  | ((with_reducible apply x_inL); (case e1 => rfl); (case e2 => rfl))
  | ((with_reducible apply x_inT); (case e1 => rfl); (case e2 => rfl))
  | with_reducible refine x_andT ?_
  | with_reducible refine x_orT ?_
  | with_reducible refine x_notT ?_
  | with_reducible refine x_andV ?_
  | with_reducible refine x_orV ?_
  | with_reducible refine x_notV ?_
  | with_reducible refine x_tup ?_
  | with_reducible refine x_lst ?_
  | with_reducible refine x_new ?_
  | with_reducible refine x_callK ?_
  | ((with_reducible refine x_asTp ?_ ?_); · exact Nat.le_of_ble_eq_true rfl)
  | ((with_reducible refine x_asLs ?_ ?_); · exact Nat.le_of_ble_eq_true rfl)
  | ((with_reducible apply x_asK); (case e => rfl); (case e2 => rfl))
  | ((with_reducible apply x_ixQ); (case k => assumption); (case e => rfl))
  | ((with_reducible apply x_rPutQ); (case e1 => assumption); (case e2 => rfl); (case hb => rfl))
  | ((with_reducible refine x_expoQ ?_ ?_); · rfl)
  | with_reducible refine x_neg ?_
  | with_reducible refine x_isi ?_
  | ((with_reducible refine x_asIs ?_ ?_); · rfl)
  | with_reducible refine x_bits ?_
  | with_reducible refine x_app ?_
  | with_reducible refine x_tru ?_
  | with_reducible refine x_asTb ?_
  | with_reducible refine x_asTi ?_
  | with_reducible refine x_asTn ?_
  | with_reducible refine x_asTt ?_
  | with_reducible refine x_asTl ?_
  | with_reducible refine x_for ?_
  | with_reducible refine x_comp ?_
  | with_reducible refine x_yes ?_
  | with_reducible refine x_rng1 ?_
  | with_reducible refine x_rng2 ?_
  | with_reducible refine x_seqI ?_
  | with_reducible refine x_asSt ?_
  | with_reducible refine x_asSl ?_
  | with_reducible refine x_sl ?_
  | with_reducible refine x_asCl ?_
  | with_reducible refine x_noP ?_
  | with_reducible refine x_part ?_
  | with_reducible refine x_subB ?_
  | with_reducible refine x_eqS ?_
  | with_reducible refine x_eqB ?_
  | with_reducible refine x_isN ?_
  | ((with_reducible refine x_iC ?_ ?_); · first | exact mul_l (by decide) (by decide) | exact mul_r (by decide) (by decide) | exact div_w (p := 40) (by decide) (by decide) (by decide) | (show (_ : Int) ≠ 0; decide) | assumption)
  | ((with_reducible apply x_ixT); · rfl)
  | ((with_reducible apply x_ixL); · rfl)
  | with_reducible refine x_len ?_
  | with_reducible refine x_lenL ?_
  | with_reducible refine x_int ?_
  | with_reducible refine x_intB ?_
  | with_reducible refine x_abs ?_
  | with_reducible refine x_max2 ?_
  | with_reducible refine x_min2 ?_
  | with_reducible refine x_tupT ?_
  | with_reducible refine x_tupL ?_
  | ((with_reducible refine x_expo0 ?_ ?_); · rfl))
local macro_rules | `(tactic| walk_at "go") => `(tactic| repeat (walk_at "st"))
theorem below_mem {n : Nat} {xs : List D} (h : belows n xs = true) {i : Nat} {x : D} (e : xs[i]? = some x) : below n x = true := (belows_iff n xs).mp h x (List.mem_of_getElem? e)
theorem h_L_pick : ∀ ds μ Q, S_L_pick ds μ Q → wDef 2 2 w_L_pick ds μ Q := by
  rintro ds μ Q ⟨f, xs, c, rfl, h1, h2, hb, h3, hF, q⟩
  refine x_def (ρ0 := [some (.loc f), some (.lst xs)]) rfl rfl ?_
  unfold w_L_pick
  walk_at "go"
  refine ⟨f, xs.length, c, rfl, by omega, ?_, h3, hF, fun r c' r0 r1 hF' => ?_⟩
  · have : ((1000 : Nat) : Int) < 2 ^ 1000 := by decide
    omega
  · obtain ⟨k, rfl⟩ := Int.eq_ofNat_of_zero_le r0
    have hk : k < xs.length := by omega
    refine x_ixL (atI_nat (List.getElem?_eq_getElem hk)) ?_
    refine x_expoQ (below_mem hb (List.getElem?_eq_getElem hk)) ?_
    exact q k _ c' (List.getElem?_eq_getElem hk) hF'
theorem z_L_same : ∀ ds μ Q, ¬ S_L_same 0 ds μ Q := fun ds μ Q ⟨_, _, h, _⟩ => h
theorem h_L_same (m : Nat) : ∀ ds μ Q, S_L_same (m + 1) ds μ Q → wDef 3 2 (w_L_same (S_L_same m)) ds μ Q := by
  rintro ds μ Q ⟨d, rfl, hd, q⟩
  refine x_def (ρ0 := [some d, some d, none]) rfl rfl ?_
  unfold w_L_same
  walk_at "go"
  rcases hd with rfl | ⟨b, rfl⟩ | ⟨i, rfl⟩ | ⟨es, rfl, hl, hes⟩
  · walk_at "go"
    refine it_f rfl ?_
    walk_at "go"
    refine it_t rfl ?_
    walk_at "go"
    refine it_f rfl ?_
    walk_at "go"
    exact q
  · walk_at "go"
    refine it_t rfl ?_
    refine it_t rfl ?_
    walk_at "go"
    refine it_t rfl ?_
    walk_at "go"
    refine it_t rfl ?_
    walk_at "go"
    simpa using q
  · walk_at "go"
    refine it_f rfl ?_
    walk_at "go"
    refine it_f rfl ?_
    walk_at "go"
    refine it_t rfl ?_
    walk_at "go"
    refine ⟨.int i, rfl, rfl, ?_⟩
    walk_at "go"
    refine it_t rfl ?_
    walk_at "go"
    simpa using q
  · walk_at "go"
    refine it_f rfl ?_
    walk_at "go"
    refine it_f rfl ?_
    walk_at "go"
    refine it_f rfl ?_
    walk_at "go"
    refine it_f rfl ?_
    walk_at "go"
    refine it_f (by simp) ?_
    walk_at "go"
    refine ⟨by omega, by omega, ?_⟩
    refine comp_fm (fun _ => false) (fun d => d) (by rw [rngD_len]; omega) (fun d hd Q' Z _ h => ?_) ?_
    · obtain ⟨k, hk, e⟩ := List.mem_iff_getElem.mp hd
      have e' : (rngD 0 (es.length : Int).toNat)[k]? = some d := by rw [List.getElem?_eq_getElem hk, e]
      obtain ⟨k1, rfl⟩ := rngD_get e'
      have hk1 : k < es.length := by simpa using k1
      have ea : atI es (0 + (k : Int)) = some es[k] := by rw [Int.zero_add]; exact atI_nat (List.getElem?_eq_getElem hk1)
      walk_at "go"
      refine x_ixT ea ?_
      walk_at "go"
      refine x_ixT ea ?_
      walk_at "go"
      refine ⟨es[k], rfl, hes _ (List.getElem_mem hk1), ?_⟩
      walk_at "go"
      refine it_f rfl ?_
      exact h rfl
    · rw [List.filter_eq_nil_iff.mpr (by simp)]
      walk_at "go"
      exact q
theorem log_2500 : (10 ^ 750 : Nat) ≤ 2 ^ (2 ^ 12) := by decide
theorem h_L_floor_root : ∀ ds μ Q, S_L_floor_root ds μ Q → wDef 4 1 w_L_floor_root ds μ Q := by
  rintro ds μ Q ⟨n, rfl, h0, h1, q⟩
  refine x_def (ρ0 := [some (.int n), none, none, none]) rfl rfl ?_
  unfold w_L_floor_root
  walk_at "go"
  refine it_c (fun hc => ?_) (fun hc => ?_)
  · have hc : n < 2 := by simpa using hc
    walk_at "go"
    have e : rt n = n := by
      rcases (show n = 0 ∨ n = 1 by omega) with rfl | rfl <;> rfl
    rw [e] at q
    exact q
  · have hc : 2 ≤ n := by simpa using hc
    walk_at "go"
    have hn : n.natAbs < 10 ^ 4300 := by
      have : ((n.natAbs : Nat) : Int) < ((10 ^ 1500 : Nat) : Int) := by
        rw [ten_pow]
        omega
      have := Int.ofNat_lt.mp this
      exact Nat.lt_of_lt_of_le this (Nat.pow_le_pow_right (by decide) (by decide))
    refine x_str hn ?_
    obtain ⟨l1, l2, l3⟩ := str_len (n := n) (by omega)
    have l4 := len_le (n := n) (k := 1500) (by omega) (by rw [ten_pow]; exact h1)
    generalize (Str.ofString (toString n)) = z at l1 l2 l3 l4 ⊢
    walk_at "go"
    refine x_lenS (z := z) ?_ ?_
    · rw [sizeLine_eq]; omega
    walk_at "go"
    obtain ⟨s1, s2⟩ := start_dec l1 l2 l3
    have el : ((z.length : Int)).fdiv 2 + 1 = ((z.length / 2 + 1 : Nat) : Int) := by
      rw [fdiv_nn _ (by decide)]
      omega
    rw [el]
    refine ⟨z.length / 2 + 1, rfl, by omega, ?_⟩
    rw [ten_pow] at s1 s2
    have p10 : (0 : Int) < 10 ^ (z.length / 2 + 1) := Int.pow_pos (by decide)
    have xb : (10 : Int) ^ (z.length / 2 + 1) < 2 ^ 3000 := by
      refine dec_bin (k := 752) ?_
      exact Int.pow_lt_pow_of_lt (by decide) (by omega)
    have rb : rt n < ((2 ^ (2 ^ 12) : Nat) : Int) := by
      have := lt_of_sq (a := rt n) (b := ((10 ^ 750 : Nat) : Int)) (Int.natCast_nonneg _) (by
        have := rt_le h0
        have e : ((10 ^ 750 : Nat) : Int) * ((10 ^ 750 : Nat) : Int) = 10 ^ 1500 := by
          rw [ten_pow, ← Int.pow_add]
        rw [e]
        omega)
      have := Int.ofNat_le.mpr log_2500
      omega
    have cv := conv_32 (n := n) (x := 10 ^ (z.length / 2 + 1)) (by omega) rb s1 p10 s2
    walk_at "go"
    refine ⟨by decide, by decide, fun i ρ μ' => μ' = μ ∧ ∃ x k o p, ρ = [some (.int n), some (.int x), o, p] ∧ rt n ≤ x ∧ 0 < x ∧ x < 2 ^ 3000 ∧ conv n k x ∧ i + k = 1200, ⟨rfl, _, 1200, none, none, rfl, s1, p10, xb, cv, rfl⟩, fun _ _ _ _ => trivial, ?_, ?_⟩
    · rintro i d ρ μ' hd ⟨rfl, x, k, o, p, rfl, a1, a2, a3, a4, a5⟩
      cases k with
      | zero => exact a4.elim
      | succ k =>
        walk_at "go"
        refine x_iC (div_w (p := 3000) (by omega) (abs_lt (by omega) a3) (by decide)) ?_
        walk_at "go"
        rw [show n.fdiv x = n / x from fdiv_nn _ (by omega), show (x + n / x).fdiv 2 = (x + n / x) / 2 from fdiv_nn _ (by decide)]
        have g := newton_ge (x := x) h0 a2
        have r1 := rt_pos (n := n) (by omega)
        refine it_c (fun hc => ?_) (fun hc => ?_)
        · have hc : x ≤ (x + n / x) / 2 := by simpa using hc
          have e := newton_stop h0 a2 a1 hc
          walk_at "go"
          rw [e]
          exact q
        · have hc : ¬ x ≤ (x + n / x) / 2 := by simpa using hc
          walk_at "go"
          rcases a4 with a4 | ⟨_, a4⟩
          · exact absurd a4 hc
          · exact ⟨rfl, _, k, some d, _, rfl, g, by omega, by omega, a4, by omega⟩
    · rintro ρ μ' ⟨rfl, x, k, o, p, rfl, a1, a2, a3, a4, a5⟩
      rw [rngD_len] at a5
      have : k = 0 := by
        have : (1200 : Int).toNat = 1200 := rfl
        omega
      subst this
      exact a4.elim
end K60
end
section
set_option Elab.async false
set_option linter.all false
set_option maxRecDepth 100000
set_option maxHeartbeats 4000000
set_option exponentiation.threshold 20000
namespace K60
open Rt
theorem b2t {p : Prop} [Decidable p] (h : p) : b2 (decide p) = 1 := by rw [decide_eq_true h]; rfl
theorem b2f {p : Prop} [Decidable p] (h : ¬ p) : b2 (decide p) = 0 := by rw [decide_eq_false h]; rfl
theorem sp_np {g s c : Int} (h : 0 < g + s) (hc : c ≤ 0) : sgnSum 1 g 1 s c = 1 := by
  unfold sgnSum
  simp only [if_true, if_pos h, Int.one_mul, if_pos hc]
  rfl
theorem sp_up {g s c : Int} (h : 0 < g + s) (hc : 0 < c) (r : c * c - g - s < 0 ∨ (c * c - g - s) * (c * c - g - s) < 4 * g * s) : sgnSum 1 g 1 s c = 1 := by
  unfold sgnSum
  simp only [if_true, if_pos h, Int.one_mul, if_neg (show ¬ c ≤ 0 by omega)]
  split
  · rfl
  · rename_i n
    have r := r.resolve_left n
    rw [b2t r, b2f (by omega)]; rfl
theorem sp_dn {g s c : Int} (h : 0 < g + s) (hc : 0 < c) (r0 : 0 ≤ c * c - g - s) (r : 4 * g * s < (c * c - g - s) * (c * c - g - s)) : sgnSum 1 g 1 s c = -1 := by
  unfold sgnSum
  simp only [if_true, if_pos h, Int.one_mul, if_neg (show ¬ c ≤ 0 by omega)]
  rw [if_neg (by omega), b2t r, b2f (by omega)]; rfl
theorem sp_eq {g s c : Int} (h : 0 < g + s) (hc : 0 < c) (r0 : 0 ≤ c * c - g - s) (r : (c * c - g - s) * (c * c - g - s) = 4 * g * s) : sgnSum 1 g 1 s c = 0 := by
  unfold sgnSum
  simp only [if_true, if_pos h, Int.one_mul, if_neg (show ¬ c ≤ 0 by omega)]
  rw [if_neg (by omega), b2f (by omega), b2f (by omega)]; rfl
theorem sm_eq {g c : Int} : sgnSum 1 g (-1) g c = b2 (decide (c < 0)) - b2 (decide (0 < c)) := by
  unfold sgnSum
  rw [b2f (Int.lt_irrefl g)]
  simp
theorem sm_gnp {g s c : Int} (h : s < g) (hc : c ≤ 0) : sgnSum 1 g (-1) s c = 1 := by
  unfold sgnSum
  rw [b2t h, b2f (show ¬ g < s by omega)]
  simp [hc]
theorem sm_gp {g s c : Int} (h : s < g) (hc : 0 < c) (r : c * c - g - s ≤ 0) : sgnSum 1 g (-1) s c = b2 (decide (4 * g * s < (c * c - g - s) * (c * c - g - s))) - b2 (decide ((c * c - g - s) * (c * c - g - s) < 4 * g * s)) := by
  unfold sgnSum
  rw [b2t h, b2f (show ¬ g < s by omega)]
  simp only [show ¬ ((1 : Int) = -1) by decide, if_false, show (1 : Int) * (1 - 0) = 1 by rfl, Int.one_mul, if_neg (show ¬ c ≤ 0 by omega), if_neg (show ¬ 0 < c * c - g - s by omega)]
theorem sm_ln {g s c : Int} (h : g < s) (hc : c < 0) (r : 0 < c * c - g - s ∨ (c * c - g - s) * (c * c - g - s) < 4 * g * s) : sgnSum 1 g (-1) s c = 1 := by
  unfold sgnSum
  rw [b2t h, b2f (show ¬ s < g by omega)]
  simp only [show ¬ ((1 : Int) = -1) by decide, if_false, show (1 : Int) * (0 - 1) = -1 by rfl, if_neg (show ¬ (-1) * c ≤ 0 by omega)]
  split
  · rfl
  · rename_i n
    have r := r.resolve_left n
    rw [b2t r, b2f (by omega)]; rfl
theorem s_neg (a g b s c : Int) : sgnSum (-a) g (-b) s (-c) = -sgnSum a g b s c := by
  unfold sgnSum
  simp only [show (-a = -b) = (a = b) from propext ⟨fun h => by omega, fun h => by omega⟩, Int.neg_mul_neg]
  by_cases e : a = b
  · simp only [if_pos e]
    by_cases p : 0 < g + s
    · simp only [if_pos p, Int.neg_mul_neg]
      split
      · split
        · rw [if_pos (by omega)]
        · rw [if_neg (by omega)]
          simp only [show (-c < 0) = (0 < c) from propext ⟨fun h => by omega, fun h => by omega⟩, show (0 < -c) = (c < 0) from propext ⟨fun h => by omega, fun h => by omega⟩]
          omega
      · split <;> simp only [Int.neg_mul]
    · simp only [if_neg p, Int.zero_mul, Int.le_refl, if_true]
      simp only [show (-c < 0) = (0 < c) from propext ⟨fun h => by omega, fun h => by omega⟩, show (0 < -c) = (c < 0) from propext ⟨fun h => by omega, fun h => by omega⟩]
      simp only [ne_eq, not_true, if_false]
      omega
  · simp only [if_neg e, Int.neg_mul, Int.mul_neg, Int.neg_neg]
    generalize a * (b2 (decide (s < g)) - b2 (decide (g < s))) = f
    split
    · split
      · rw [if_pos (by omega)]
      · rw [if_neg (by omega)]
        simp only [show (-c < 0) = (0 < c) from propext ⟨fun h => by omega, fun h => by omega⟩, show (0 < -c) = (c < 0) from propext ⟨fun h => by omega, fun h => by omega⟩]
        omega
    · rfl
theorem s_swap (g s c : Int) : sgnSum 1 g (-1) s c = -sgnSum 1 s (-1) g (-c) := by
  have sym : sgnSum (-1) s 1 g c = sgnSum 1 g (-1) s c := by
    unfold sgnSum
    simp only [show ¬ ((1 : Int) = -1) by decide, show ¬ ((-1 : Int) = 1) by decide, if_false]
    rw [show (-1 : Int) * (b2 (decide (g < s)) - b2 (decide (s < g))) = 1 * (b2 (decide (s < g)) - b2 (decide (g < s))) by omega]
    rw [show c * c - s - g = c * c - g - s by omega, show 4 * s * g = 4 * g * s by grind]
  rw [← sym, ← s_neg]
  simp
theorem posl {c K : Int} (h : 0 < c * K) (k : 0 < K) : 0 < c := scale_lt k (by rw [Int.zero_mul]; exact h)
/-- whole roots of g K K and s K K -/
structure RK (g s K p q : Int) : Prop where
  g0 : 0 < g
  s0 : 0 < s
  k0 : 0 < K
  p0 : 0 ≤ p
  q0 : 0 ≤ q
  hp : p * p ≤ g * (K * K)
  hp' : g * (K * K) < (p + 1) * (p + 1)
  hq : q * q ≤ s * (K * K)
  hq' : s * (K * K) < (q + 1) * (q + 1)
theorem RK.swap {g s K p q : Int} (H : RK g s K p q) : RK s g K q p := ⟨H.s0, H.g0, H.k0, H.q0, H.p0, H.hq, H.hq', H.hp, H.hp'⟩
theorem rest_w (c g s K : Int) : c * K * (c * K) - g * (K * K) - s * (K * K) = (c * c - g - s) * (K * K) := by grind
theorem rest_ww (c g s K : Int) : (c * c - g - s) * (K * K) * ((c * c - g - s) * (K * K)) = (c * c - g - s) * (c * c - g - s) * (K * K * (K * K)) := by grind
theorem prod_ww (g s K : Int) : 4 * (g * (K * K) * (s * (K * K))) = 4 * g * s * (K * K * (K * K)) := by grind
theorem RK.ww {g s K p q : Int} (H : RK g s K p q) : 0 < K * K ∧ 0 < K * K * (K * K) := by
  have := Int.mul_pos H.k0 H.k0
  exact ⟨this, Int.mul_pos this this⟩
theorem A_plus_up {g s K p q c : Int} (H : RK g s K p q) (h : c * K + 4 < p + q) : sgnSum 1 g 1 s c = 1 := by
  have gs : 0 < g + s := by have := H.g0; have := H.s0; omega
  obtain ⟨w1, w2⟩ := H.ww
  by_cases c0 : c ≤ 0
  · exact sp_np gs c0
  by_cases r : c * c - g - s < 0
  · exact sp_up gs (by omega) (.inl r)
  refine sp_up gs (by omega) (.inr (scale_lt w2 ?_))
  have := plus_up H.p0 H.q0 H.hp H.hq (C := c * K) (Int.mul_nonneg (by omega) (Int.le_of_lt H.k0)) (by omega) (by rw [rest_w]; exact Int.mul_nonneg (by omega) (Int.le_of_lt w1))
  rw [rest_w, rest_ww, prod_ww] at this
  exact this
theorem A_plus_dn {g s K p q c : Int} (H : RK g s K p q) (h : p + q + 4 < c * K) : sgnSum 1 g 1 s c = -1 := by
  have gs : 0 < g + s := by have := H.g0; have := H.s0; omega
  obtain ⟨w1, w2⟩ := H.ww
  have c0 : 0 < c := posl (K := K) (by have := H.p0; have := H.q0; omega) H.k0
  obtain ⟨t1, t2⟩ := plus_down (C := c * K) H.p0 H.q0 (Int.mul_nonneg (Int.le_of_lt H.g0) (Int.le_of_lt w1)) (Int.mul_nonneg (Int.le_of_lt H.s0) (Int.le_of_lt w1)) H.hp' H.hq' (by omega)
  rw [rest_w] at t1
  rw [rest_w, rest_ww, prod_ww] at t2
  exact sp_dn gs c0 (Int.le_of_lt (posl t1 w1)) (scale_lt w2 t2)
theorem A_minus_up {g s K p q c : Int} (H : RK g s K p q) (h : c * K + 4 < p - q) : sgnSum 1 g (-1) s c = 1 := by
  obtain ⟨w1, w2⟩ := H.ww
  have q0 := H.q0
  have big : q + 1 ≤ p → s < g := fun h => scale_lt w1 (Int.lt_of_lt_of_le H.hq' (Int.le_trans (sq_le (by omega) h) H.hp))
  by_cases c0 : 0 < c
  · have C0 : 0 < c * K := Int.mul_pos c0 H.k0
    have gs := big (by omega)
    obtain ⟨t1, t2⟩ := minus_up (C := c * K) q0 (Int.mul_nonneg (Int.le_of_lt H.s0) (Int.le_of_lt w1)) H.hp H.hq' C0 (by omega)
    rw [rest_w] at t1
    rw [rest_w, rest_ww, prod_ww] at t2
    have t3 := scale_lt w2 t2
    rw [sm_gp gs c0 (by
      have : c * c - g - s < 0 := scale_lt w1 (by rw [Int.zero_mul]; exact t1)
      omega), b2t t3, b2f (by omega)]
    rfl
  · by_cases gs : s < g
    · exact sm_gnp gs (by omega)
    · have cn : c < 0 := by
        by_cases z : c = 0
        · rw [z, Int.zero_mul] at h
          exact absurd (big (by omega)) gs
        · omega
      by_cases e : g = s
      · rw [← e, sm_eq, b2t cn, b2f (by omega)]; rfl
      · have lt : g < s := by omega
        refine sm_ln lt cn ?_
        by_cases r : 0 < c * c - g - s
        · exact .inl r
        · refine .inr (scale_lt w2 ?_)
          have dd : (-(c * K)) * (-(c * K)) - g * (K * K) - s * (K * K) = (c * c - g - s) * (K * K) := by grind
          have D0 : 0 < -(c * K) := by
            have := Int.mul_pos (show 0 < -c by omega) H.k0
            rw [Int.neg_mul] at this
            exact this
          have := minus_mid (D := -(c * K)) H.p0 (Int.mul_pos H.g0 w1) H.hp H.hp' q0 H.hq' D0 (by omega) (Int.mul_lt_mul_of_pos_right lt w1) (by
            rw [dd]
            have := Int.mul_nonneg (show 0 ≤ -(c * c - g - s) by omega) (Int.le_of_lt w1)
            rw [Int.neg_mul] at this
            omega)
          rw [dd, rest_ww, prod_ww] at this
          exact this
theorem A_minus_dn {g s K p q c : Int} (H : RK g s K p q) (h : p - q + 4 < c * K) : sgnSum 1 g (-1) s c = -1 := by
  rw [s_swap, A_minus_up H.swap (by rw [Int.neg_mul]; omega)]
theorem RK.geK {g s K p q : Int} (H : RK g s K p q) : K ≤ p := by
  obtain ⟨w1, w2⟩ := H.ww
  have := Int.mul_le_mul_of_nonneg_right (show 1 ≤ g from H.g0) (Int.le_of_lt w1)
  have h' := H.hp'
  have := lt_of_sq (a := K) (b := p + 1) (by have := H.p0; omega) (by omega)
  omega
theorem RK.pq {g s K p q : Int} (H : RK g s K p q) (hK : 200 < K) : 200 * p ≤ p * q ∧ 200 * q ≤ p * q := by
  have a := H.geK
  have b := H.swap.geK
  have c := Int.mul_le_mul_of_nonneg_right (show 200 ≤ q by omega) H.p0
  have d := Int.mul_le_mul_of_nonneg_right (show 200 ≤ p by omega) H.q0
  rw [Int.mul_comm p q]
  rw [Int.mul_comm p q] at d
  exact ⟨c, d⟩
theorem B3 {B : Int} (hB : 1 ≤ B) : B ≤ B * B * B := by
  have a := mul_mono (show (0 : Int) ≤ 1 by decide) hB (show (0 : Int) ≤ 1 by decide) hB
  have b := Int.mul_le_mul_of_nonneg_right (show 1 ≤ B * B by omega) (show 0 ≤ B by omega)
  omega
theorem big_b {B K : Int} (hB : 1 ≤ B) (hK : 200 * (B * B * B) < K) : 200 < K ∧ K ≤ B * K ∧ 200 * (B * K) < K * K := by
  have a := B3 hB
  have b := Int.mul_le_mul_of_nonneg_right hB (show 0 ≤ K by omega)
  have c := Int.mul_lt_mul_of_pos_right (show 200 * B < K by omega) (show 0 < K by omega)
  have d : 200 * B * K = 200 * (B * K) := by grind
  exact ⟨by omega, by omega, by omega⟩
theorem B_plus {g s K p q c B : Int} (H : RK g s K p q) (hB : 1 ≤ B) (hK : 200 * (B * B * B) < K) (pB : p ≤ B * K) (qB : q ≤ B * K) (h1 : p + q - c * K ≤ 4) (h2 : -4 ≤ p + q - c * K) : sgnSum 1 g 1 s c = 0 := by
  have gs : 0 < g + s := by have := H.g0; have := H.s0; omega
  obtain ⟨w1, w2⟩ := H.ww
  obtain ⟨k1, k2, k3⟩ := big_b hB hK
  obtain ⟨y1, y2⟩ := H.pq k1
  have a := H.geK
  have b := H.swap.geK
  have c0 : 0 < c := posl (K := K) (by omega) H.k0
  have u1 := sq_le (a := p + q - 4) (b := c * K) (by omega) (by omega)
  have u2 := sq_le (a := c * K) (b := p + q + 4) (by omega) (by omega)
  have e1 : (p + q - 4) * (p + q - 4) = p * p + q * q + 2 * (p * q) - 8 * p - 8 * q + 16 := by grind
  have e2 : (p + q + 4) * (p + q + 4) = p * p + q * q + 2 * (p * q) + 8 * p + 8 * q + 16 := by grind
  have e3 := rest_w c g s K
  have e4 : (p + 1) * (p + 1) = p * p + 2 * p + 1 := by grind
  have e5 : (q + 1) * (q + 1) = q * q + 2 * q + 1 := by grind
  have hp := H.hp
  have hp' := H.hp'
  have hq := H.hq
  have hq' := H.hq'
  have r0 : 0 ≤ c * c - g - s := by
    by_cases r : 0 ≤ c * c - g - s
    · exact r
    · have := Int.mul_le_mul_of_nonneg_right (show c * c - g - s ≤ -1 by omega) (Int.le_of_lt w1)
      omega
  refine sp_eq gs c0 r0 (tiny (e := 1) hB hK H.p0 H.q0 hp hp' hq hq' pB qB (.inl rfl) ?_ ?_)
  · omega
  · omega
theorem B_minus_gt {g s K p q c B : Int} (H : RK g s K p q) (hB : 1 ≤ B) (hK : 200 * (B * B * B) < K) (pB : p ≤ B * K) (qB : q ≤ B * K) (h1 : p - q - c * K ≤ 4) (h2 : -4 ≤ p - q - c * K) (gs : s < g) : sgnSum 1 g (-1) s c = 0 := by
  obtain ⟨w1, w2⟩ := H.ww
  obtain ⟨k1, k2, k3⟩ := big_b hB hK
  obtain ⟨y1, y2⟩ := H.pq k1
  have a := H.geK
  have b := H.swap.geK
  have e3 := rest_w c g s K
  have e4 : (p + 1) * (p + 1) = p * p + 2 * p + 1 := by grind
  have e5 : (q + 1) * (q + 1) = q * q + 2 * q + 1 := by grind
  have hp := H.hp
  have hp' := H.hp'
  have hq := H.hq
  have hq' := H.hq'
  have more : s * (K * K) + K * K ≤ g * (K * K) := by
    have := Int.mul_le_mul_of_nonneg_right (show s + 1 ≤ g by omega) (Int.le_of_lt w1)
    rw [Int.add_mul, Int.one_mul] at this
    exact this
  have c0 : 0 < c := by
    by_cases z : 0 < c
    · exact z
    · have C0 : c * K ≤ 0 := by
        have := Int.mul_nonneg (show 0 ≤ -c by omega) (Int.le_of_lt H.k0)
        rw [Int.neg_mul] at this
        omega
      have u := sq_le (a := p) (b := q + 4) H.p0 (by omega)
      have e : (q + 4) * (q + 4) = q * q + 8 * q + 16 := by grind
      omega
  have C0 : 0 < c * K := Int.mul_pos c0 H.k0
  have pq : q ≤ p := by
    have := lt_of_sq (a := q) (b := p + 1) (by omega) (by omega)
    omega
  have u1 := sq_le (a := p - q) (b := c * K + 4) (by omega) (by omega)
  have u2 := sq_le (a := c * K) (b := p - q + 4) (by omega) (by omega)
  have e1 : (p - q) * (p - q) = p * p + q * q - 2 * (p * q) := by grind
  have e2 : (p - q + 4) * (p - q + 4) = p * p + q * q - 2 * (p * q) + 8 * p - 8 * q + 16 := by grind
  have e6 : (c * K + 4) * (c * K + 4) = c * K * (c * K) + 8 * (c * K) + 16 := by grind
  have r0 : c * c - g - s ≤ 0 := by
    by_cases r : c * c - g - s ≤ 0
    · exact r
    · have := Int.mul_le_mul_of_nonneg_right (show 1 ≤ c * c - g - s by omega) (Int.le_of_lt w1)
      omega
  have t := tiny (r := c * c - g - s) (e := -1) hB hK H.p0 H.q0 hp hp' hq hq' pB qB (.inr rfl) (by omega) (by omega)
  rw [sm_gp gs c0 r0, b2f (by omega), b2f (by omega)]; rfl
theorem B_minus {g s K c B : Int} (H : RK g s K (rt (g * (K * K))) (rt (s * (K * K)))) (hB : 1 ≤ B) (hK : 200 * (B * B * B) < K) (pB : rt (g * (K * K)) ≤ B * K) (qB : rt (s * (K * K)) ≤ B * K) (h1 : rt (g * (K * K)) - rt (s * (K * K)) - c * K ≤ 4) (h2 : -4 ≤ rt (g * (K * K)) - rt (s * (K * K)) - c * K) : sgnSum 1 g (-1) s c = 0 := by
  obtain ⟨k1, k2, k3⟩ := big_b hB hK
  by_cases gs : s < g
  · exact B_minus_gt H hB hK pB qB h1 h2 gs
  by_cases sg : g < s
  · rw [s_swap, B_minus_gt H.swap hB hK qB pB (by rw [Int.neg_mul]; omega) (by rw [Int.neg_mul]; omega) sg]; rfl
  have e : g = s := by omega
  subst e
  have c0 : c = 0 := by
    by_cases a : 0 < c
    · have := Int.mul_le_mul_of_nonneg_right (show 1 ≤ c by omega) (Int.le_of_lt H.k0)
      omega
    by_cases b : c < 0
    · have := Int.mul_le_mul_of_nonneg_right (show c ≤ -1 by omega) (Int.le_of_lt H.k0)
      omega
    omega
  rw [sm_eq, c0]; rfl
theorem rk {g s K : Int} (g0 : 0 < g) (s0 : 0 < s) (k0 : 0 < K) : RK g s K (rt (g * (K * K))) (rt (s * (K * K))) := by
  have w := Int.mul_pos k0 k0
  have a := Int.mul_pos g0 w
  have b := Int.mul_pos s0 w
  exact ⟨g0, s0, k0, rt_nn _, rt_nn _, rt_le (Int.le_of_lt a), rt_lt (Int.le_of_lt a), rt_le (Int.le_of_lt b), rt_lt (Int.le_of_lt b)⟩
theorem pm {a : Int} : (if a = 1 then (1 : Int) else -1) = if a = 1 then 1 else -1 := rfl
/-- the three answers -/
theorem sg_up {a b g s K c : Int} (ha : a = 1 ∨ a = -1) (hb : b = 1 ∨ b = -1) (g0 : 0 < g) (s0 : 0 < s) (k0 : 0 < K) (h : 4 < a * rt (g * (K * K)) + b * rt (s * (K * K)) - c * K) : sgnSum a g b s c = 1 := by
  have H := rk g0 s0 k0
  rcases ha with rfl | rfl <;> rcases hb with rfl | rfl
  · exact A_plus_up H (by omega)
  · exact A_minus_up H (by omega)
  · have := s_neg 1 g (-1) s (-c)
    rw [Int.neg_neg, Int.neg_neg] at this
    rw [this, A_minus_dn H (by rw [Int.neg_mul]; omega)]; rfl
  · have := s_neg 1 g 1 s (-c)
    rw [Int.neg_neg] at this
    rw [this, A_plus_dn H (by rw [Int.neg_mul]; omega)]; rfl
theorem sg_dn {a b g s K c : Int} (ha : a = 1 ∨ a = -1) (hb : b = 1 ∨ b = -1) (g0 : 0 < g) (s0 : 0 < s) (k0 : 0 < K) (h : a * rt (g * (K * K)) + b * rt (s * (K * K)) - c * K < -4) : sgnSum a g b s c = -1 := by
  have := sg_up (a := -a) (b := -b) (c := -c) (by omega) (by omega) g0 s0 k0 (by simp only [Int.neg_mul]; omega)
  rw [s_neg] at this
  omega
theorem sg_0 {a b g s K c B : Int} (ha : a = 1 ∨ a = -1) (hb : b = 1 ∨ b = -1) (g0 : 0 < g) (s0 : 0 < s) (hB : 1 ≤ B) (hK : 200 * (B * B * B) < K) (gB : g ≤ B * B) (sB : s ≤ B * B) (h1 : a * rt (g * (K * K)) + b * rt (s * (K * K)) - c * K ≤ 4) (h2 : -4 ≤ a * rt (g * (K * K)) + b * rt (s * (K * K)) - c * K) : sgnSum a g b s c = 0 := by
  obtain ⟨k1, k2, k3⟩ := big_b hB hK
  have k0 : 0 < K := by omega
  have H := rk g0 s0 k0
  have w := Int.mul_pos k0 k0
  have e : B * K * (B * K) = B * B * (K * K) := by grind
  have pB : rt (g * (K * K)) ≤ B * K := le_of_sq (by omega) (Int.le_trans H.hp (by rw [e]; exact Int.mul_le_mul_of_nonneg_right gB (Int.le_of_lt w)))
  have qB : rt (s * (K * K)) ≤ B * K := le_of_sq (by omega) (Int.le_trans H.hq (by rw [e]; exact Int.mul_le_mul_of_nonneg_right sB (Int.le_of_lt w)))
  rcases ha with rfl | rfl <;> rcases hb with rfl | rfl
  · exact B_plus H hB hK pB qB (by omega) (by omega)
  · exact B_minus H hB hK pB qB (by omega) (by omega)
  · have := s_neg 1 g (-1) s (-c)
    rw [Int.neg_neg, Int.neg_neg] at this
    rw [this, B_minus H hB hK pB qB (by rw [Int.neg_mul]; omega) (by rw [Int.neg_mul]; omega)]; rfl
  · have := s_neg 1 g 1 s (-c)
    rw [Int.neg_neg] at this
    rw [this, B_plus H hB hK pB qB (by rw [Int.neg_mul]; omega) (by rw [Int.neg_mul]; omega)]; rfl
theorem bord_pos {t : Int} (h : 0 < t) : 1 ≤ bord t := by
  have r := rt_pos h
  have b : 1 ≤ bel t := by
    unfold bel
    split
    · exact r
    · rename_i n
      by_cases e : rt t = 1
      · rw [e] at n; exact absurd rfl n
      · omega
  unfold bord
  split <;> omega
def pmv (x t : Int) : Int := if x * x < t then 1 else -1
theorem pmv_or (x t : Int) : pmv x t = 1 ∨ pmv x t = -1 := by unfold pmv; split <;> simp
theorem far_eq {x t : Int} (k : Nat) (hx : 0 ≤ x) (ht : 0 < t) : far x t k = pmv x t * rt (t * (10 ^ k * 10 ^ k)) - pmv x t * x * 10 ^ k := by
  have k0 : (0 : Int) < 10 ^ k := Int.pow_pos (by decide)
  unfold far
  rw [Int.mul_assoc t]
  have w := Int.mul_pos k0 k0
  have tw := Int.mul_pos ht w
  have xk := Int.mul_nonneg hx (Int.le_of_lt k0)
  have sq : x * 10 ^ k * (x * 10 ^ k) = x * x * (10 ^ k * 10 ^ k) := by grind
  have lo := rt_le (Int.le_of_lt tw)
  have hi := rt_lt (Int.le_of_lt tw)
  have nn := rt_nn (t * (10 ^ k * 10 ^ k))
  by_cases h : x * x < t
  · have e : pmv x t = 1 := if_pos h
    have l := Int.mul_lt_mul_of_pos_right h w
    have := lt_of_sq (a := x * 10 ^ k) (b := rt (t * (10 ^ k * 10 ^ k)) + 1) (by omega) (by omega)
    rw [e, Int.one_mul, Int.one_mul]
    unfold ab
    split <;> omega
  · have e : pmv x t = -1 := if_neg h
    have l := Int.mul_le_mul_of_nonneg_right (show t ≤ x * x by omega) (Int.le_of_lt w)
    have := le_of_sq (a := rt (t * (10 ^ k * 10 ^ k))) (b := x * 10 ^ k) xk (by omega)
    rw [e, Int.neg_mul, Int.neg_mul, Int.neg_mul, Int.one_mul, Int.one_mul]
    unfold ab
    split <;> omega
theorem far_diff {x t y u : Int} (k : Nat) (hx : 0 ≤ x) (ht : 0 < t) (hy : 0 ≤ y) (hu : 0 < u) : far x t k - far y u k = pmv x t * rt (t * (10 ^ k * 10 ^ k)) + -pmv y u * rt (u * (10 ^ k * 10 ^ k)) - (pmv x t * x - pmv y u * y) * 10 ^ k := by
  rw [far_eq k hx ht, far_eq k hy hu]
  grind
theorem order_eq (x t y u : Int) : order x t y u = sgnSum (pmv x t) t (-pmv y u) u (pmv x t * x - pmv y u * y) := rfl
theorem or_up {x t y u : Int} (k : Nat) (hx : 0 ≤ x) (ht : 0 < t) (hy : 0 ≤ y) (hu : 0 < u) (h : 4 < far x t k - far y u k) : order x t y u = 1 := by
  rw [far_diff k hx ht hy hu] at h
  exact sg_up (pmv_or _ _) (by have := pmv_or y u; omega) ht hu (Int.pow_pos (by decide)) h
theorem or_dn {x t y u : Int} (k : Nat) (hx : 0 ≤ x) (ht : 0 < t) (hy : 0 ≤ y) (hu : 0 < u) (h : far x t k - far y u k < -4) : order x t y u = -1 := by
  rw [far_diff k hx ht hy hu] at h
  exact sg_dn (pmv_or _ _) (by have := pmv_or y u; omega) ht hu (Int.pow_pos (by decide)) h
end K60
end
section
set_option Elab.async false
set_option linter.all false
set_option maxRecDepth 100000
set_option maxHeartbeats 4000000
set_option exponentiation.threshold 20000
namespace K60
open Rt
theorem bel_sq {t : Int} (h : 0 < t) : 1 ≤ bel t ∧ bel t * bel t ≤ t ∧ t < (bel t + 2) * (bel t + 2) ∧ bel t ≤ rt t ∧ rt t ≤ bel t + 1 ∧ ∃ k, bel t = 2 * k + 1 := by
  have r := rt_pos h
  have lo := rt_le (Int.le_of_lt h)
  have hi := rt_lt (Int.le_of_lt h)
  have b : 1 ≤ bel t ∧ bel t ≤ rt t ∧ rt t ≤ bel t + 1 ∧ ∃ k, bel t = 2 * k + 1 := by
    unfold bel
    split
    · rename_i k
      rw [Int.fmod_eq_emod_of_nonneg _ (by decide)] at k
      exact ⟨r, by omega, by omega, rt t / 2, by omega⟩
    · rename_i k
      rw [Int.fmod_eq_emod_of_nonneg _ (by decide)] at k
      exact ⟨by omega, by omega, by omega, rt t / 2 - 1, by omega⟩
  refine ⟨b.1, Int.le_trans (sq_le (by omega) b.2.1) lo, Int.lt_of_lt_of_le hi (sq_le (by omega) (by omega)), b.2.1, b.2.2.1, b.2.2.2⟩
/-- the distances, at K -/
theorem far_lo {t : Int} (k : Nat) (h : 0 < t) : far (bel t) t k = rt (t * (10 ^ k * 10 ^ k)) - bel t * 10 ^ k := by
  obtain ⟨b1, b2, _⟩ := bel_sq h
  have k0 : (0 : Int) < 10 ^ k := Int.pow_pos (by decide)
  have w := Int.mul_pos k0 k0
  have tw := Int.mul_pos h w
  have hi := rt_lt (Int.le_of_lt tw)
  have nn := rt_nn (t * (10 ^ k * 10 ^ k))
  have sq : bel t * 10 ^ k * (bel t * 10 ^ k) = bel t * bel t * (10 ^ k * 10 ^ k) := by grind
  have := Int.mul_le_mul_of_nonneg_right b2 (Int.le_of_lt w)
  have := lt_of_sq (a := bel t * 10 ^ k) (b := rt (t * (10 ^ k * 10 ^ k)) + 1) (by omega) (by omega)
  unfold far ab
  rw [Int.mul_assoc t]
  split <;> omega
theorem far_hi {t : Int} (k : Nat) (h : 0 < t) : far (bel t + 2) t k = (bel t + 2) * 10 ^ k - rt (t * (10 ^ k * 10 ^ k)) := by
  obtain ⟨b1, _, b2, _⟩ := bel_sq h
  have k0 : (0 : Int) < 10 ^ k := Int.pow_pos (by decide)
  have w := Int.mul_pos k0 k0
  have tw := Int.mul_pos h w
  have lo := rt_le (Int.le_of_lt tw)
  have nn := rt_nn (t * (10 ^ k * 10 ^ k))
  have sq : (bel t + 2) * 10 ^ k * ((bel t + 2) * 10 ^ k) = (bel t + 2) * (bel t + 2) * (10 ^ k * 10 ^ k) := by grind
  have := Int.mul_lt_mul_of_pos_right b2 w
  have := Int.mul_nonneg (show 0 ≤ bel t + 2 by omega) (Int.le_of_lt k0)
  have := le_of_sq (a := rt (t * (10 ^ k * 10 ^ k))) (b := (bel t + 2) * 10 ^ k) (by omega) (by omega)
  unfold far ab
  rw [Int.mul_assoc t]
  split <;> omega
/-- p f against a K -/
theorem above_of {t f a K p : Int} (f0 : 0 < f) (k0 : 0 < K) (p0 : 0 ≤ p) (hi : t * (K * K) < (p + 1) * (p + 1)) (h : a * a ≤ t * f * f) : a * K < (p + 1) * f := by
  have kk := Int.mul_pos k0 k0
  have ff := Int.mul_pos f0 f0
  refine lt_of_sq (Int.mul_nonneg (by omega) (Int.le_of_lt f0)) ?_
  have e1 : a * K * (a * K) = a * a * (K * K) := by grind
  have e2 : (p + 1) * f * ((p + 1) * f) = (p + 1) * (p + 1) * (f * f) := by grind
  have e3 : t * f * f * (K * K) = t * (K * K) * (f * f) := by grind
  have h1 := Int.mul_le_mul_of_nonneg_right h (Int.le_of_lt kk)
  have h2 := Int.mul_lt_mul_of_pos_right hi ff
  omega
theorem under_of {t f a K p : Int} (f0 : 0 < f) (a0 : 0 < a) (k0 : 0 < K) (p0 : 0 ≤ p) (lo : p * p ≤ t * (K * K)) (h : t * f * f < a * a) (hK : 12 * (f * a) ≤ K) : p * f ≤ a * K - 6 * f := by
  refine Int.not_lt.mp fun hlt => ?_
  have fa : f * 1 ≤ f * a := Int.mul_le_mul_of_nonneg_left a0 (Int.le_of_lt f0)
  have aK : 1 * K ≤ a * K := Int.mul_le_mul_of_nonneg_right a0 (Int.le_of_lt k0)
  have b0 : 0 ≤ a * K - 6 * f := by omega
  have s := sq_lt b0 hlt
  have e1 : (a * K - 6 * f) * (a * K - 6 * f) = a * a * (K * K) - 12 * (f * a) * K + 36 * (f * f) := by grind
  have e2 : p * f * (p * f) = p * p * (f * f) := by grind
  have e3 : t * f * f * (K * K) = t * (K * K) * (f * f) := by grind
  have h1 := Int.mul_le_mul_of_nonneg_right lo (sq_nn f)
  have h2 := Int.mul_le_mul_of_nonneg_right (show t * f * f + 1 ≤ a * a from h) (sq_nn K)
  rw [Int.add_mul, Int.one_mul] at h2
  have h3 := Int.mul_le_mul_of_nonneg_right hK (Int.le_of_lt k0)
  have ff := Int.mul_pos f0 f0
  omega
theorem far_gap {fa fb f : Int} (f0 : 0 < f) (h : fb * f + 5 * f < fa * f) : fb - fa < -4 := by
  have : fb + 5 < fa := scale_lt f0 (by rw [Int.add_mul]; exact h)
  omega
theorem sep_lo {t u f : Int} (ht : 0 < t) (hu : 0 < u) (f0 : 0 < f) (hK : 12 * (f * (bel u * f + 1)) ≤ 10 ^ 600) (a : okL t f = true) (b : okL u f = false) : far (bel u) u 600 - far (bel t) t 600 < -4 := by
  have k0 : (0 : Int) < 10 ^ 600 := by decide
  have w := Int.mul_pos k0 k0
  obtain ⟨c1, _⟩ := bel_sq ht
  obtain ⟨d1, _⟩ := bel_sq hu
  have a : (bel t * f + 1) * (bel t * f + 1) ≤ t * f * f := by simpa [okL] using a
  have b : u * f * f < (bel u * f + 1) * (bel u * f + 1) := by simpa [okL] using b
  have ux := Int.mul_pos (show 0 < bel u by omega) f0
  rw [far_lo 600 ht, far_lo 600 hu]
  have h1 := above_of f0 k0 (rt_nn _) (rt_lt (Int.le_of_lt (Int.mul_pos ht w))) a
  have h2 := under_of f0 (by omega) k0 (rt_nn _) (rt_le (Int.le_of_lt (Int.mul_pos hu w))) b hK
  generalize rt (t * (10 ^ 600 * 10 ^ 600)) = p at *
  generalize rt (u * (10 ^ 600 * 10 ^ 600)) = q at *
  generalize (10 : Int) ^ 600 = K at *
  refine far_gap f0 ?_
  have e1 : (p - bel t * K) * f = p * f - bel t * f * K := by grind
  have e2 : (q - bel u * K) * f = q * f - bel u * f * K := by grind
  have e3 : (bel t * f + 1) * K = bel t * f * K + K := by grind
  have e4 : (bel u * f + 1) * K = bel u * f * K + K := by grind
  have e5 : (p + 1) * f = p * f + f := by grind
  omega
theorem sep_hi {t u f : Int} (ht : 0 < t) (hu : 0 < u) (f0 : 0 < f) (hK : 12 * (f * ((bel t + 2) * f - 1)) ≤ 10 ^ 600) (a : okH t f = true) (b : okH u f = false) : far (bel u + 2) u 600 - far (bel t + 2) t 600 < -4 := by
  have k0 : (0 : Int) < 10 ^ 600 := by decide
  have w := Int.mul_pos k0 k0
  obtain ⟨c1, _⟩ := bel_sq ht
  obtain ⟨d1, _⟩ := bel_sq hu
  have a : t * f * f < ((bel t + 2) * f - 1) * ((bel t + 2) * f - 1) := by simpa [okH] using a
  have b : ((bel u + 2) * f - 1) * ((bel u + 2) * f - 1) ≤ u * f * f := by simpa [okH] using b
  have tx := Int.mul_le_mul_of_nonneg_right (show 3 ≤ bel t + 2 by omega) (Int.le_of_lt f0)
  rw [far_hi 600 ht, far_hi 600 hu]
  have h1 := under_of f0 (by omega) k0 (rt_nn _) (rt_le (Int.le_of_lt (Int.mul_pos ht w))) a hK
  have h2 := above_of f0 k0 (rt_nn _) (rt_lt (Int.le_of_lt (Int.mul_pos hu w))) b
  generalize rt (t * (10 ^ 600 * 10 ^ 600)) = p at *
  generalize rt (u * (10 ^ 600 * 10 ^ 600)) = q at *
  generalize (10 : Int) ^ 600 = K at *
  refine far_gap f0 ?_
  have e1 : ((bel t + 2) * K - p) * f = (bel t + 2) * f * K - p * f := by grind
  have e2 : ((bel u + 2) * K - q) * f = (bel u + 2) * f * K - q * f := by grind
  have e3 : ((bel t + 2) * f - 1) * K = (bel t + 2) * f * K - K := by grind
  have e4 : ((bel u + 2) * f - 1) * K = (bel u + 2) * f * K - K := by grind
  have e5 : (q + 1) * f = q * f + f := by grind
  omega
/-- more places are no worse -/
theorem mono_lo {t f : Int} (ht : 0 < t) (f0 : 0 < f) (h : okL t f = true) : okL t (10 * f) = true := by
  obtain ⟨c1, _⟩ := bel_sq ht
  have h : (bel t * f + 1) * (bel t * f + 1) ≤ t * f * f := by simpa [okL] using h
  have tx := Int.mul_pos (show 0 < bel t by omega) f0
  have e1 : bel t * (10 * f) + 1 = 10 * (bel t * f) + 1 := by grind
  have e2 : t * (10 * f) * (10 * f) = 100 * (t * f * f) := by grind
  have s := sq_le (a := 10 * (bel t * f) + 1) (b := 10 * (bel t * f) + 10) (by omega) (by omega)
  have e3 : (10 * (bel t * f) + 10) * (10 * (bel t * f) + 10) = 100 * ((bel t * f + 1) * (bel t * f + 1)) := by grind
  unfold okL
  rw [e1, e2]
  exact decide_eq_true (by omega)
theorem mono_hi {t f : Int} (ht : 0 < t) (f0 : 0 < f) (h : okH t f = true) : okH t (10 * f) = true := by
  obtain ⟨c1, _⟩ := bel_sq ht
  have h : t * f * f < ((bel t + 2) * f - 1) * ((bel t + 2) * f - 1) := by simpa [okH] using h
  have tx := Int.mul_le_mul_of_nonneg_right (show 3 ≤ bel t + 2 by omega) (Int.le_of_lt f0)
  have e1 : (bel t + 2) * (10 * f) - 1 = 10 * ((bel t + 2) * f) - 1 := by grind
  have e2 : t * (10 * f) * (10 * f) = 100 * (t * f * f) := by grind
  have s := sq_le (a := 10 * ((bel t + 2) * f) - 10) (b := 10 * ((bel t + 2) * f) - 1) (by omega) (by omega)
  have e3 : (10 * ((bel t + 2) * f) - 10) * (10 * ((bel t + 2) * f) - 10) = 100 * (((bel t + 2) * f - 1) * ((bel t + 2) * f - 1)) := by grind
  unfold okH
  rw [e1, e2]
  exact decide_eq_true (by omega)
/-- enough places -/
theorem end_lo {t f : Int} (ht : 0 < t) (he : t % 2 = 0) (hf : 2 * bel t + 1 ≤ f) : okL t f = true := by
  obtain ⟨c1, c2, _, _, _, k, ek⟩ := bel_sq ht
  have ne : bel t * bel t ≠ t := fun z => by
    rw [← z, ek] at he
    have : (2 * k + 1) * (2 * k + 1) = 2 * (2 * k * k + 2 * k) + 1 := by grind
    omega
  have f0 : 0 < f := by omega
  have h1 := Int.mul_le_mul_of_nonneg_right (show bel t * bel t + 1 ≤ t by omega) (sq_nn f)
  have h2 := Int.mul_le_mul_of_nonneg_right hf (Int.le_of_lt f0)
  have e1 : (bel t * f + 1) * (bel t * f + 1) = bel t * bel t * (f * f) + 2 * (bel t * f) + 1 := by grind
  have e2 : t * f * f = t * (f * f) := by grind
  rw [Int.add_mul, Int.one_mul] at h1
  have e3 : (2 * bel t + 1) * f = 2 * (bel t * f) + f := by grind
  unfold okL
  rw [e1, e2]
  exact decide_eq_true (by omega)
theorem end_hi {t f : Int} (ht : 0 < t) (hf : 2 * (bel t + 2) ≤ f) : okH t f = true := by
  obtain ⟨c1, _, c2, _⟩ := bel_sq ht
  have f0 : 0 < f := by omega
  have h1 := Int.mul_le_mul_of_nonneg_right (show t + 1 ≤ (bel t + 2) * (bel t + 2) by omega) (sq_nn f)
  have h2 := Int.mul_le_mul_of_nonneg_right hf (Int.le_of_lt f0)
  have e1 : ((bel t + 2) * f - 1) * ((bel t + 2) * f - 1) = (bel t + 2) * (bel t + 2) * (f * f) - 2 * ((bel t + 2) * f) + 1 := by grind
  have e2 : t * f * f = t * (f * f) := by grind
  rw [Int.add_mul, Int.one_mul] at h1
  have e3 : 2 * (bel t + 2) * f = 2 * ((bel t + 2) * f) := by grind
  unfold okH
  rw [e1, e2]
  exact decide_eq_true (by omega)
end K60
end
section
set_option Elab.async false
set_option linter.all false
set_option maxRecDepth 100000
set_option maxHeartbeats 4000000
set_option exponentiation.threshold 20000
namespace K60
open PySem PySem.Spec PyProof.Rows L2 Dw Rt
local macro_rules | `(tactic| walk_at "st") => `(tactic| first
  | with_reducible refine x_seq ?_
  | with_reducible refine x_next ?_
  | with_reducible refine x_asg ?_
  | with_reducible refine x_gN ?_
  | ((with_reducible apply x_var); · rfl)
  | with_reducible refine x_c ?_
  | with_reducible refine x_op ?_
  | with_reducible refine x_i0 ?_
  | with_reducible refine x_iB ?_
  | with_reducible refine x_eqI ?_
  | with_reducible refine x_asB ?_
  | with_reducible refine x_asI ?_
  | with_reducible refine x_call ?_
  | with_reducible refine x_cons ?_
  | with_reducible refine x_nil ?_
  | with_reducible refine x_ret ?_
  | with_reducible refine x_test ?_
  | with_reducible refine x_if ?_
  | with_reducible refine x_ifE ?_
  | with_reducible refine x_asP ?_
  | with_reducible refine x_as2 ?_
  | with_reducible refine x_par ?_
  | with_reducible refine x_par3 ?_
  | with_reducible refine x_as3 ?_
  | with_reducible refine x_drop ?_
  | with_reducible refine x_retN ?_
  | with_reducible refine x_break ?_
  | with_reducible refine x_cont ?_
  | ((with_reducible apply x_aug); · rfl)
  | with_reducible refine x_put ?_
  | ((with_reducible refine x_gT ?_ ?_); · rfl)
  | with_reducible refine x_gsCons ?_
  | with_reducible refine x_gsNil ?_
  | with_reducible refine x_chain ?_
  | ((with_reducible apply x_inL); (case e1 => rfl); (case e2 => rfl))
  | ((with_reducible apply x_inT); (case e1 => rfl); (case e2 => rfl))
  | with_reducible refine x_andT ?_
  | with_reducible refine x_orT ?_
  | with_reducible refine x_notT ?_
  | with_reducible refine x_andV ?_
  | with_reducible refine x_orV ?_
  | with_reducible refine x_notV ?_
  | with_reducible refine x_tup ?_
  | with_reducible refine x_lst ?_
  | with_reducible refine x_new ?_
  | with_reducible refine x_callK ?_
  | ((with_reducible refine x_asTp ?_ ?_); · exact Nat.le_of_ble_eq_true rfl)
  | ((with_reducible refine x_asLs ?_ ?_); · exact Nat.le_of_ble_eq_true rfl)
  | ((with_reducible apply x_asK); (case e => rfl); (case e2 => rfl))
  | ((with_reducible apply x_ixQ); (case k => assumption); (case e => rfl))
  | ((with_reducible apply x_rPutQ); (case e1 => assumption); (case e2 => rfl); (case hb => rfl))
  | ((with_reducible refine x_expoQ ?_ ?_); · rfl)
  | with_reducible refine x_neg ?_
  | with_reducible refine x_isi ?_
  | ((with_reducible refine x_asIs ?_ ?_); · rfl)
  | with_reducible refine x_bits ?_
  | with_reducible refine x_app ?_
  | with_reducible refine x_tru ?_
  | with_reducible refine x_asTb ?_
  | with_reducible refine x_asTi ?_
  | with_reducible refine x_asTn ?_
  | with_reducible refine x_asTt ?_
  | with_reducible refine x_asTl ?_
  | with_reducible refine x_for ?_
  | with_reducible refine x_comp ?_
  | with_reducible refine x_yes ?_
  | with_reducible refine x_rng1 ?_
  | with_reducible refine x_rng2 ?_
  | with_reducible refine x_seqI ?_
  | with_reducible refine x_asSt ?_
  | with_reducible refine x_asSl ?_
  | with_reducible refine x_sl ?_
  | with_reducible refine x_asCl ?_
  | with_reducible refine x_noP ?_
  | with_reducible refine x_part ?_
  | with_reducible refine x_subB ?_
  | with_reducible refine x_eqS ?_
  | with_reducible refine x_eqB ?_
  | with_reducible refine x_isN ?_
  | ((with_reducible refine x_iC ?_ ?_); · first | exact mul_l (by decide) (by decide) | exact mul_r (by decide) (by decide) | exact div_w (p := 40) (by decide) (by decide) (by decide) | (show (_ : Int) ≠ 0; decide) | assumption)
  | ((with_reducible apply x_ixT); · rfl)
  | ((with_reducible apply x_ixL); · rfl)
  | with_reducible refine x_len ?_
  | with_reducible refine x_lenL ?_
  | with_reducible refine x_int ?_
  | with_reducible refine x_intB ?_
  | with_reducible refine x_abs ?_
  | with_reducible refine x_max2 ?_
  | with_reducible refine x_min2 ?_
  | with_reducible refine x_tupT ?_
  | with_reducible refine x_tupL ?_
  | ((with_reducible refine x_expo0 ?_ ?_); · rfl))
local macro_rules | `(tactic| walk_at "go") => `(tactic| repeat (walk_at "st"))
theorem bel_rng {n : Int} (h : 0 ≤ n) : -1 ≤ bel n ∧ bel n ≤ n := by
  have := rt_le_self h
  have := rt_nn n
  unfold bel
  split <;> omega
theorem bel_pos {n : Int} (h : 0 < n) : 1 ≤ bel n := by
  have r := rt_pos h
  unfold bel
  split
  · exact r
  · rename_i k
    by_cases e : rt n = 1
    · rw [e] at k; exact absurd rfl k
    · omega
theorem bordS_rng {sd : Sd} {n : Int} (h : 0 ≤ n) : -1 ≤ bordS sd n ∧ bordS sd n ≤ n + 2 := by
  have := bel_rng h
  have := bord_nn h
  cases sd <;> unfold bordS <;> simp only [] <;> omega
theorem bordS_pos {sd : Sd} {n : Int} (h : 0 < n) : 0 ≤ bordS sd n := by
  have := bel_pos h
  cases sd <;> unfold bordS <;> simp only []
  · unfold bord; split <;> omega
  · omega
  · omega
theorem gr_rng {p : Nat} (h : p ≤ 50) : 0 < gr p ∧ gr p < 2 ^ 340 ∧ gr p ≤ 4 * 10 ^ 100 := by
  have a := ground_pos p
  have b := ground_le h
  refine ⟨a, b, ?_⟩
  have := Int.ofNat_le.mpr (Nat.pow_le_pow_right (n := 10) (by decide) (show 2 * p ≤ 100 by omega))
  rw [ten_pow, ten_pow] at this
  unfold gr
  omega
theorem best_rng {U : Int} {sd : Sd} : ∀ n : Nat, 0 ≤ best U sd n ∧ best U sd n ≤ n ∧ (0 < n → 0 < best U sd n)
  | 0 => by simp [best]
  | n + 1 => by
    have := best_rng (U := U) (sd := sd) n
    unfold best
    split
    · omega
    · rename_i k
      have : ¬ best U sd n = 0 := fun z => k (.inl z)
      omega
/-- n times the ground -/
theorem tt {n : Int} {p : Nat} (h0 : 0 ≤ n) (h : n ≤ 1000) (hp : p ≤ 50) : CMulA n (gr p) ∧ 0 ≤ n * gr p ∧ n * gr p < 10 ^ 122 ∧ n * gr p < 2 ^ 400 ∧ (0 < n → 0 < n * gr p) := by
  obtain ⟨a, b, c⟩ := gr_rng hp
  have k : n * gr p ≤ 1000 * (4 * 10 ^ 100) := mul_mono h0 h (Int.le_of_lt a) c
  have k2 : (1000 : Int) * (4 * 10 ^ 100) < 10 ^ 122 := by decide
  have k3 : (10 : Int) ^ 122 < 2 ^ 410 := by decide
  have k4 : (1000 : Int) * (4 * 10 ^ 100) < 2 ^ 400 := by decide
  exact ⟨mul_l (by omega) (by omega), Int.mul_nonneg h0 (Int.le_of_lt a), by omega, by omega, fun z => Int.mul_pos z a⟩
theorem bs_abs {sd : Sd} {n : Int} (h : 0 ≤ n) (h1 : n < 2 ^ 400) : (bordS sd n).natAbs < 2 ^ 401 := by
  have := bordS_rng (sd := sd) h
  have e : (2 : Nat) ^ 401 = 2 * 2 ^ 400 := by decide
  have e2 : (4 : Nat) ≤ 2 ^ 400 := by decide
  have := abs_lt h h1
  omega
theorem h_worst_of_few : ∀ ds μ Q, S_worst_of_few ds μ Q → wDef 9 4 w_worst_of_few ds μ Q := by
  rintro ds μ Q ⟨m, p, sd, rfl, hm, hp, q⟩
  refine x_def (ρ0 := [some (.int 1), some (.int m), some (.int p), some (.str sd.s), none, none, none, none, none]) rfl rfl ?_
  unfold w_worst_of_few
  walk_at "go"
  refine ⟨p, rfl, hp, ?_⟩
  rw [show (4 * 10 ^ (2 * p) : Int) = gr p from rfl]
  walk_at "go"
  refine ⟨by omega, fun i ρ μ' => μ' = μ ∧ ∃ o7 o8, ρ = [some (.int 1), some (.int m), some (.int p), some (.str sd.s), some (.int (gr p)), some (.int (best (gr p) sd i)), some (.int (if best (gr p) sd i = 0 then 0 else bordS sd (best (gr p) sd i * gr p))), o7, o8], ⟨rfl, none, none, rfl⟩, fun _ _ _ _ => trivial, ?_, ?_⟩
  · rintro i d ρ μ' hd ⟨rfl, o7, o8, rfl⟩
    obtain ⟨hi, rfl⟩ := rngD_get hd
    have hi : i < m := by omega
    have ei : (1 : Int) + (i : Int) = ((i + 1 : Nat) : Int) := by omega
    rw [ei]
    obtain ⟨c1, c2, c3, c4, c5⟩ := tt (n := ((i + 1 : Nat) : Int)) (by omega) (by omega) hp
    have br := best_rng (U := gr p) (sd := sd) i
    obtain ⟨b1, b2, b3, b4, b5⟩ := tt (n := best (gr p) sd i) (by omega) (by omega) hp
    walk_at "go"
    refine ⟨_, sd, rfl, c2, lt_mono c4 (by decide), ?_⟩
    walk_at "go"
    have eb : best (gr p) sd (i + 1) = if best (gr p) sd i = 0 ∨ order (bordS sd (((i + 1 : Nat) : Int) * gr p)) (((i + 1 : Nat) : Int) * gr p) (bordS sd (best (gr p) sd i * gr p)) (best (gr p) sd i * gr p) < 0 then ((i + 1 : Nat) : Int) else best (gr p) sd i := rfl
    have yes : (best (gr p) sd i = 0 ∨ order (bordS sd (((i + 1 : Nat) : Int) * gr p)) (((i + 1 : Nat) : Int) * gr p) (bordS sd (best (gr p) sd i * gr p)) (best (gr p) sd i * gr p) < 0) → best (gr p) sd (i + 1) = ((i + 1 : Nat) : Int) := fun h => by rw [eb, if_pos h]
    have no : ¬ (best (gr p) sd i = 0 ∨ order (bordS sd (((i + 1 : Nat) : Int) * gr p)) (((i + 1 : Nat) : Int) * gr p) (bordS sd (best (gr p) sd i * gr p)) (best (gr p) sd i * gr p) < 0) → best (gr p) sd (i + 1) = best (gr p) sd i := fun h => by rw [eb, if_neg h]
    have nz : ¬ ((i + 1 : Nat) : Int) = 0 := by omega
    refine it_c (fun hc => ?_) (fun hc => ?_)
    · have hc : best (gr p) sd i = 0 := by simpa using hc
      refine it_t rfl ?_
      walk_at "go"
      exact ⟨rfl, _, _, by rw [yes (.inl hc), if_neg nz]; rfl⟩
    · have hc : ¬ best (gr p) sd i = 0 := by simpa using hc
      walk_at "go"
      rw [if_neg hc]
      refine ⟨_, _, _, _, rfl, nabs_mono (bs_abs c2 c4) (by decide), nabs_mono (abs_lt c2 c4) (by decide), nabs_mono (bs_abs b2 b4) (by decide), nabs_mono (abs_lt b2 b4) (by decide), ?_⟩
      walk_at "go"
      refine it_c (fun hd => ?_) (fun hd => ?_)
      · walk_at "go"
        exact ⟨rfl, _, _, by rw [yes (.inr (by simpa using hd)), if_neg nz]; rfl⟩
      · walk_at "go"
        exact ⟨rfl, _, _, by rw [no (fun z => z.elim hc (by simpa using hd)), if_neg hc]; rfl⟩
  · rintro ρ μ' ⟨rfl, o7, o8, rfl⟩
    rw [rngD_len, show ((m : Int) + 1 - 1).toNat = m by omega]
    walk_at "go"
    exact q
theorem h_worst_up_to : ∀ ds μ Q, S_worst_up_to ds μ Q → wDef 3 3 w_worst_up_to ds μ Q := by
  rintro ds μ Q ⟨m, p, sd, rfl, hm, hp, q⟩
  refine x_def (ρ0 := [some (.int m), some (.int p), some (.str sd.s)]) rfl rfl ?_
  unfold w_worst_up_to
  walk_at "go"
  refine it_t (by simp; omega) ?_
  walk_at "go"
  refine ⟨m, p, sd, rfl, hm, hp, ?_⟩
  walk_at "go"
  exact q
theorem h_most_figured : ∀ ds μ Q, S_most_figured ds μ Q → wDef 1 1 w_most_figured ds μ Q := by
  rintro ds μ Q ⟨a, rfl, ha, q⟩
  refine x_def (ρ0 := [some (.int a)]) rfl rfl ?_
  unfold w_most_figured
  walk_at "go"
  refine ⟨a, rfl, ha, ?_⟩
  walk_at "go"
  exact q
theorem ten_3 {a : Nat} (h : a ≤ 3) : (10 : Nat) ^ a - 1 ≤ 999 ∧ (((10 ^ a - 1 : Nat) : Int) = 10 ^ a - 1) := by
  match a, h with
  | 0, _ => decide
  | 1, _ => decide
  | 2, _ => decide
  | 3, _ => decide
theorem h_worst_root : ∀ ds μ Q, S_worst_root ds μ Q → wDef 3 3 w_worst_root ds μ Q := by
  rintro ds μ Q ⟨a, p, sd, rfl, ha, hp, q⟩
  refine x_def (ρ0 := [some (.int a), some (.int p), some (.str sd.s)]) rfl rfl ?_
  unfold w_worst_root
  walk_at "go"
  refine ⟨a, rfl, by omega, ?_⟩
  walk_at "go"
  obtain ⟨e1, e2⟩ := ten_3 ha
  refine ⟨10 ^ a - 1, p, sd, by rw [e2], e1, hp, ?_⟩
  walk_at "go"
  exact q
theorem gr_even (p : Nat) : gr p = 2 * (2 * 10 ^ (2 * p)) := by unfold gr; omega
theorem fine_pos (p w : Nat) : 0 < fine p w := Int.pow_pos (by decide)
theorem fine_succ {p w : Nat} (h : p ≤ w) : fine p (w + 1) = 10 * fine p w := by
  unfold fine
  rw [show w + 1 - p = (w - p) + 1 by omega, Int.pow_succ, Int.mul_comm]
theorem fine_le {p w k : Nat} (h : w ≤ p + k) : fine p w ≤ 10 ^ k := by
  have := Int.ofNat_le.mpr (Nat.pow_le_pow_right (n := 10) (by decide) (show w - p ≤ k by omega))
  rw [ten_pow, ten_pow] at this
  exact this
theorem gr_5 {p : Nat} (h : p ≤ 5) : gr p ≤ 4 * 10 ^ 10 := by
  have := Int.ofNat_le.mpr (Nat.pow_le_pow_right (n := 10) (by decide) (show 2 * p ≤ 10 by omega))
  rw [ten_pow, ten_pow] at this
  unfold gr
  omega
theorem t_small {n : Int} {p : Nat} (h0 : 1 ≤ n) (h : n ≤ 999) (hp : p ≤ 5) : 0 < n * gr p ∧ n * gr p ≤ 4 * 10 ^ 13 ∧ n * gr p % 2 = 0 ∧ bel (n * gr p) ≤ 10 ^ 7 := by
  have a := gr_5 hp
  have b := ground_pos p
  have c : n * gr p ≤ 999 * (4 * 10 ^ 10) := mul_mono (by omega) h (Int.le_of_lt b) a
  have t0 : 0 < n * gr p := Int.mul_pos (by omega) b
  refine ⟨t0, by omega, ?_, ?_⟩
  · rw [gr_even, show n * (2 * (2 * 10 ^ (2 * p))) = 2 * (n * (2 * 10 ^ (2 * p))) by grind]
    omega
  · obtain ⟨b1, b2, _⟩ := bel_sq t0
    exact le_of_sq (by decide) (Int.le_trans b2 (by omega))
theorem room600 {y f : Int} (f0 : 0 < f) (hf : f ≤ 10 ^ 60) (y0 : 0 ≤ y) (hy : y ≤ 10 ^ 8) : 12 * (f * (y * f + 1)) ≤ 10 ^ 600 := by
  have a : y * f ≤ 10 ^ 8 * 10 ^ 60 := mul_mono y0 hy (Int.le_of_lt f0) hf
  have b : f * (y * f + 1) ≤ 10 ^ 60 * (10 ^ 8 * 10 ^ 60 + 1) := mul_mono (Int.le_of_lt f0) hf (by have := Int.mul_nonneg y0 (Int.le_of_lt f0); omega) (by omega)
  have c : (12 : Int) * (10 ^ 60 * (10 ^ 8 * 10 ^ 60 + 1)) ≤ 10 ^ 600 := by decide
  omega
/-- a number that keeps and one that does not: the latter is strictly nearer -/
theorem sep {sd : Sh} (hs : sd ≠ .both) {n m : Int} {p w : Nat} (n1 : 1 ≤ n) (n2 : n ≤ 999) (m1 : 1 ≤ m) (m2 : m ≤ 999) (hp : p ≤ 5) (hw : w ≤ p + 60) (hpw : p ≤ w) (a : ok sd n p w = true) (b : ok sd m p w = false) :
    far (bordS (sideB sd) (m * gr p)) (m * gr p) 600 - far (bordS (sideB sd) (n * gr p)) (n * gr p) 600 < -4 := by
  obtain ⟨t1, t2, t3, t4⟩ := t_small n1 n2 hp
  obtain ⟨u1, u2, u3, u4⟩ := t_small m1 m2 hp
  have f0 := fine_pos p w
  have fl := fine_le hw
  obtain ⟨c1, _⟩ := bel_sq t1
  obtain ⟨d1, _⟩ := bel_sq u1
  unfold ok at a b
  rw [decide_eq_true hpw, Bool.true_and] at a b
  cases sd with
  | both => exact absurd rfl hs
  | low => exact sep_lo t1 u1 f0 (room600 f0 fl (by omega) (by omega)) a b
  | high =>
    refine sep_hi t1 u1 f0 (Int.le_trans ?_ (room600 (y := bel (n * gr p) + 2) f0 fl (by omega) (by omega))) a b
    have : fine p w * ((bel (n * gr p) + 2) * fine p w - 1) ≤ fine p w * ((bel (n * gr p) + 2) * fine p w + 1) := Int.mul_le_mul_of_nonneg_left (by omega) (Int.le_of_lt f0)
    omega
theorem bS_pos {sd : Sd} {t : Int} (h : 0 < t) : 0 ≤ bordS sd t := bordS_pos h
/-- where the nearest keeps, all keep -/
theorem all_keep {sd : Sh} (hs : sd ≠ .both) {p w : Nat} (hp : p ≤ 5) (hw : w ≤ p + 60) (hpw : p ≤ w) : ∀ m : Nat, m ≤ 999 → 0 < m → ok sd (best (gr p) (sideB sd) m) p w = true → ∀ n : Int, 1 ≤ n → n ≤ m → ok sd n p w = true
  | 0, _, h, _ => absurd h (by decide)
  | m + 1, hm, _, h => by
    intro n n1 n2
    have br := best_rng (U := gr p) (sd := sideB sd) m
    have eb : best (gr p) (sideB sd) (m + 1) = if best (gr p) (sideB sd) m = 0 ∨ order (bordS (sideB sd) (((m + 1 : Nat) : Int) * gr p)) (((m + 1 : Nat) : Int) * gr p) (bordS (sideB sd) (best (gr p) (sideB sd) m * gr p)) (best (gr p) (sideB sd) m * gr p) < 0 then ((m + 1 : Nat) : Int) else best (gr p) (sideB sd) m := rfl
    have t1 := (t_small (n := ((m + 1 : Nat) : Int)) (by omega) (by omega) hp).1
    by_cases c : best (gr p) (sideB sd) m = 0 ∨ order (bordS (sideB sd) (((m + 1 : Nat) : Int) * gr p)) (((m + 1 : Nat) : Int) * gr p) (bordS (sideB sd) (best (gr p) (sideB sd) m * gr p)) (best (gr p) (sideB sd) m * gr p) < 0
    · rw [eb, if_pos c] at h
      by_cases e : n = ((m + 1 : Nat) : Int)
      · rw [e]; exact h
      · have m0 : 0 < m := by omega
        have b0 := br.2.2 m0
        have c := c.resolve_left (by omega)
        have u1 := (t_small (n := best (gr p) (sideB sd) m) (by omega) (by omega) hp).1
        refine all_keep hs hp hw hpw m (by omega) m0 ?_ n n1 (by omega)
        cases hk : ok sd (best (gr p) (sideB sd) m) p w with
        | true => rfl
        | false =>
          have s := sep hs (by omega) (by omega) (by omega) (by omega) hp hw hpw h hk
          have := or_up 600 (bS_pos (sd := sideB sd) t1) t1 (bS_pos (sd := sideB sd) u1) u1 (by omega)
          omega
    · rw [eb, if_neg c] at h
      have bz : ¬ best (gr p) (sideB sd) m = 0 := fun z => c (.inl z)
      have m0 : 0 < m := by omega
      have b0 := br.2.2 m0
      have u1 := (t_small (n := best (gr p) (sideB sd) m) (by omega) (by omega) hp).1
      by_cases e : n = ((m + 1 : Nat) : Int)
      · rw [e]
        cases hk : ok sd ((m + 1 : Nat) : Int) p w with
        | true => rfl
        | false =>
          have s := sep hs (by omega) (by omega) (by omega) (by omega) hp hw hpw h hk
          have := or_dn 600 (bS_pos (sd := sideB sd) t1) t1 (bS_pos (sd := sideB sd) u1) u1 s
          exact absurd (.inr (by omega)) c
      · exact all_keep hs hp hw hpw m (by omega) m0 h n n1 (by omega)
theorem ok_mono1 {sd : Sh} {n : Int} {p w : Nat} (n1 : 1 ≤ n) (h : ok sd n p w = true) : ok sd n p (w + 1) = true := by
  unfold ok at h ⊢
  rw [Bool.and_eq_true] at h ⊢
  have hpw : p ≤ w := by simpa using h.1
  have t0 : 0 < n * gr p := Int.mul_pos (by omega) (ground_pos p)
  have f0 := fine_pos p w
  refine ⟨decide_eq_true (by omega), ?_⟩
  rw [fine_succ hpw]
  have h2 := h.2
  cases sd with
  | low => exact mono_lo t0 f0 h2
  | high => exact mono_hi t0 f0 h2
  | both =>
    simp only [Bool.and_eq_true] at h2 ⊢
    exact ⟨mono_lo t0 f0 h2.1, mono_hi t0 f0 h2.2⟩
theorem ok_mono {sd : Sh} {n : Int} {p w v : Nat} (n1 : 1 ≤ n) (h : ok sd n p w = true) (hv : w ≤ v) : ok sd n p v = true := by
  obtain ⟨k, rfl⟩ := Nat.exists_eq_add_of_le hv
  induction k with
  | zero => exact h
  | succ k ih => exact ok_mono1 n1 (ih (by omega))
theorem ok_end {sd : Sh} {n : Int} {p : Nat} (n1 : 1 ≤ n) (n2 : n ≤ 999) (hp : p ≤ 5) : ok sd n p (p + 8) = true := by
  obtain ⟨t1, t2, t3, t4⟩ := t_small n1 n2 hp
  have e : fine p (p + 8) = 10 ^ 8 := by unfold fine; rw [show p + 8 - p = 8 by omega]
  have lo : okL (n * gr p) (fine p (p + 8)) = true := end_lo t1 t3 (by rw [e]; omega)
  have hi : okH (n * gr p) (fine p (p + 8)) = true := end_hi t1 (by rw [e]; omega)
  unfold ok
  rw [decide_eq_true (by omega : p ≤ p + 8), Bool.true_and]
  cases sd with
  | low => exact lo
  | high => exact hi
  | both => simp only [lo, hi, Bool.and_self]
theorem low_least {P : Nat → Prop} : ∀ (k a : Nat), P (a + k) → ∃ b, a ≤ b ∧ b ≤ a + k ∧ P b ∧ ∀ c, a ≤ c → c < b → ¬ P c
  | 0, a, h => ⟨a, by omega, by omega, h, fun c h1 h2 => by omega⟩
  | k + 1, a, h => by
    by_cases z : P a
    · exact ⟨a, by omega, by omega, z, fun c h1 h2 => by omega⟩
    · obtain ⟨b, h1, h2, h3, h4⟩ := low_least (P := P) k (a + 1) (by rw [show a + 1 + k = a + (k + 1) by omega]; exact h)
      refine ⟨b, by omega, by omega, h3, fun c c1 c2 => ?_⟩
      by_cases e : c = a
      · rw [e]; exact z
      · exact h4 c (by omega) c2
theorem a_999 {a : Nat} (h : a ≤ 3) {n : Int} (hn : n < 10 ^ a) : n ≤ 999 := by
  have := (ten_3 h).2
  have := (ten_3 h).1
  omega
theorem least_ex {a p : Nat} {sd : Sh} (ha : a ≤ 3) (hp : p ≤ 5) : ∃ w0, Least a p sd w0 := by
  obtain ⟨b, h1, h2, h3, h4⟩ := low_least (P := fun w => ∀ n : Int, 1 ≤ n → n < 10 ^ a → ok sd n p w = true) 8 p (fun n n1 n2 => ok_end n1 (a_999 ha n2) hp)
  refine ⟨b, h1, by omega, h3, fun w w1 w2 => ?_⟩
  refine Classical.byContradiction fun z => h4 w w1 w2 fun n n1 n2 => ?_
  cases hk : ok sd n p w with
  | true => rfl
  | false => exact absurd ⟨n, n1, n2, hk⟩ z
theorem N_rng {a p : Nat} {sd : Sd} (ha1 : 1 ≤ a) (ha : a ≤ 3) : 1 ≤ best (gr p) sd (10 ^ a - 1) ∧ best (gr p) sd (10 ^ a - 1) < 10 ^ a := by
  have br := best_rng (U := gr p) (sd := sd) (10 ^ a - 1)
  have h9 : 0 < 10 ^ a - 1 := by
    have := Nat.pow_le_pow_right (n := 10) (by decide) ha1
    omega
  have := (ten_3 ha).2
  have := br.2.2 h9
  omega
theorem leastAt_ex {a p : Nat} {sd : Sh} (ha1 : 1 ≤ a) (ha : a ≤ 3) (hp : p ≤ 5) : ∃ w0, LeastAt (best (gr p) (sideB sd) (10 ^ a - 1)) p sd w0 := by
  obtain ⟨n1, n2⟩ := N_rng (p := p) (sd := sideB sd) ha1 ha
  obtain ⟨b, h1, h2, h3, h4⟩ := low_least (P := fun w => ok sd (best (gr p) (sideB sd) (10 ^ a - 1)) p w = true) 8 p (ok_end n1 (a_999 ha n2) hp)
  exact ⟨b, h1, by omega, h3, fun w w1 w2 => by simpa using h4 w w1 w2⟩
/-- where the nearest keeps, all keep: at the figures told -/
theorem keep_all {a p w : Nat} {sd : Sh} (hs : sd ≠ .both) (ha1 : 1 ≤ a) (ha : a ≤ 3) (hp : p ≤ 5) (hw : w ≤ p + 60) (hpw : p ≤ w) (h : ok sd (best (gr p) (sideB sd) (10 ^ a - 1)) p w = true) (n : Int) (n1 : 1 ≤ n) (n2 : n < 10 ^ a) : ok sd n p w = true := by
  have h9 : 0 < 10 ^ a - 1 := by
    have := Nat.pow_le_pow_right (n := 10) (by decide) ha1
    omega
  obtain ⟨e1, e2⟩ := ten_3 ha
  exact all_keep hs hp hw hpw _ e1 h9 h n n1 (by rw [e2]; omega)
theorem least_at {a p : Nat} {sd : Sh} {w0 : Nat} (hs : sd ≠ .both) (ha1 : 1 ≤ a) (ha : a ≤ 3) (hp : p ≤ 5) (h : Least a p sd w0) : LeastAt (best (gr p) (sideB sd) (10 ^ a - 1)) p sd w0 := by
  obtain ⟨h1, h2, h3, h4⟩ := h
  obtain ⟨n1, n2⟩ := N_rng (p := p) (sd := sideB sd) ha1 ha
  refine ⟨h1, h2, h3 _ n1 n2, fun w w1 w2 => ?_⟩
  cases hk : ok sd (best (gr p) (sideB sd) (10 ^ a - 1)) p w with
  | false => rfl
  | true =>
    obtain ⟨n, k1, k2, k3⟩ := h4 w w1 w2
    rw [keep_all hs ha1 ha hp (by omega) w1 hk n k1 k2] at k3
    cases k3
theorem ok_both {n : Int} {p w : Nat} : ok .both n p w = (ok .low n p w && ok .high n p w) := by
  unfold ok
  cases decide (p ≤ w) <;> simp
theorem least_both {a p : Nat} {w0 v1 v2 : Nat} (ha1 : 1 ≤ a) (ha : a ≤ 3) (hp : p ≤ 5) (h : Least a p .both w0) (l1 : LeastAt (best (gr p) .below (10 ^ a - 1)) p .low v1) (l2 : LeastAt (best (gr p) .above (10 ^ a - 1)) p .high v2) : (if (v2 : Int) > v1 then (v2 : Int) else v1) = w0 := by
  obtain ⟨h1, h2, h3, h4⟩ := h
  obtain ⟨a1, a2, a3, a4⟩ := l1
  obtain ⟨b1, b2, b3, b4⟩ := l2
  have N1 := N_rng (p := p) (sd := .below) ha1 ha
  have N2 := N_rng (p := p) (sd := .above) ha1 ha
  have c1 : v1 ≤ w0 := by
    refine Nat.not_lt.mp fun z => ?_
    have := h3 _ N1.1 N1.2
    rw [ok_both, a4 w0 h1 z] at this
    cases this
  have c2 : v2 ≤ w0 := by
    refine Nat.not_lt.mp fun z => ?_
    have := h3 _ N2.1 N2.2
    rw [ok_both, b4 w0 h1 z, Bool.and_false] at this
    cases this
  have c3 : ∀ m, v1 ≤ m → v2 ≤ m → m < w0 → False := fun m m1 m2 m3 => by
    obtain ⟨n, k1, k2, k3⟩ := h4 m (by omega) m3
    rw [ok_both, ok_mono k1 (keep_all (sd := .low) (by intro z; cases z) ha1 ha hp (by omega) a1 a3 n k1 k2) m1, ok_mono k1 (keep_all (sd := .high) (by intro z; cases z) ha1 ha hp (by omega) b1 b3 n k1 k2) m2] at k3
    cases k3
  by_cases z : v2 ≤ v1
  · rw [if_neg (by omega)]
    have : ¬ v1 < w0 := fun q => c3 v1 (Nat.le_refl _) z q
    omega
  · rw [if_pos (by omega)]
    have : ¬ v2 < w0 := fun q => c3 v2 (by omega) (Nat.le_refl _) q
    omega
end K60
end
section
set_option Elab.async false
set_option linter.all false
set_option maxRecDepth 100000
set_option maxHeartbeats 4000000
set_option exponentiation.threshold 20000
namespace K60
open PySem PySem.Spec PyProof.Rows L2 Dw Rt
local macro_rules | `(tactic| walk_at "st") => `(tactic| first
  | with_reducible refine x_seq ?_
  | with_reducible refine x_next ?_
  | with_reducible refine x_asg ?_
  | with_reducible refine x_gN ?_
  | ((with_reducible apply x_var); · rfl)
  | with_reducible refine x_c ?_
  | with_reducible refine x_op ?_
  | with_reducible refine x_i0 ?_
  | with_reducible refine x_iB ?_
  | with_reducible refine x_eqI ?_
  | with_reducible refine x_asB ?_
  | with_reducible refine x_asI ?_
  | with_reducible refine x_call ?_
  | with_reducible refine x_cons ?_
  | with_reducible refine x_nil ?_
  | with_reducible refine x_ret ?_
  | with_reducible refine x_test ?_
  | with_reducible refine x_if ?_
  | with_reducible refine x_ifE ?_
  | with_reducible refine x_asP ?_
  | with_reducible refine x_as2 ?_
  | with_reducible refine x_par ?_
  | with_reducible refine x_par3 ?_
  | with_reducible refine x_as3 ?_
  | with_reducible refine x_drop ?_
  | with_reducible refine x_retN ?_
  | with_reducible refine x_break ?_
  | with_reducible refine x_cont ?_
  | ((with_reducible apply x_aug); · rfl)
  | with_reducible refine x_put ?_
  | ((with_reducible refine x_gT ?_ ?_); · rfl)
  | with_reducible refine x_gsCons ?_
  | with_reducible refine x_gsNil ?_
  | with_reducible refine x_chain ?_
  | ((with_reducible apply x_inL); (case e1 => rfl); (case e2 => rfl))
  | ((with_reducible apply x_inT); (case e1 => rfl); (case e2 => rfl))
  | with_reducible refine x_andT ?_
  | with_reducible refine x_orT ?_
  | with_reducible refine x_notT ?_
  | with_reducible refine x_andV ?_
  | with_reducible refine x_orV ?_
  | with_reducible refine x_notV ?_
  | with_reducible refine x_tup ?_
  | with_reducible refine x_lst ?_
  | with_reducible refine x_new ?_
  | with_reducible refine x_callK ?_
  | ((with_reducible refine x_asTp ?_ ?_); · exact Nat.le_of_ble_eq_true rfl)
  | ((with_reducible refine x_asLs ?_ ?_); · exact Nat.le_of_ble_eq_true rfl)
  | ((with_reducible apply x_asK); (case e => rfl); (case e2 => rfl))
  | ((with_reducible apply x_ixQ); (case k => assumption); (case e => rfl))
  | ((with_reducible apply x_rPutQ); (case e1 => assumption); (case e2 => rfl); (case hb => rfl))
  | ((with_reducible refine x_expoQ ?_ ?_); · rfl)
  | with_reducible refine x_neg ?_
  | with_reducible refine x_isi ?_
  | ((with_reducible refine x_asIs ?_ ?_); · rfl)
  | with_reducible refine x_bits ?_
  | with_reducible refine x_app ?_
  | with_reducible refine x_tru ?_
  | with_reducible refine x_asTb ?_
  | with_reducible refine x_asTi ?_
  | with_reducible refine x_asTn ?_
  | with_reducible refine x_asTt ?_
  | with_reducible refine x_asTl ?_
  | with_reducible refine x_for ?_
  | with_reducible refine x_comp ?_
  | with_reducible refine x_yes ?_
  | with_reducible refine x_rng1 ?_
  | with_reducible refine x_rng2 ?_
  | with_reducible refine x_seqI ?_
  | with_reducible refine x_asSt ?_
  | with_reducible refine x_asSl ?_
  | with_reducible refine x_sl ?_
  | with_reducible refine x_asCl ?_
  | with_reducible refine x_noP ?_
  | with_reducible refine x_part ?_
  | with_reducible refine x_subB ?_
  | with_reducible refine x_eqS ?_
  | with_reducible refine x_eqB ?_
  | with_reducible refine x_isN ?_
  | ((with_reducible refine x_iC ?_ ?_); · first | exact mul_l (by decide) (by decide) | exact mul_r (by decide) (by decide) | exact div_w (p := 40) (by decide) (by decide) (by decide) | (show (_ : Int) ≠ 0; decide) | assumption)
  | ((with_reducible apply x_ixT); · rfl)
  | ((with_reducible apply x_ixL); · rfl)
  | with_reducible refine x_len ?_
  | with_reducible refine x_lenL ?_
  | with_reducible refine x_int ?_
  | with_reducible refine x_intB ?_
  | with_reducible refine x_abs ?_
  | with_reducible refine x_max2 ?_
  | with_reducible refine x_min2 ?_
  | with_reducible refine x_tupT ?_
  | with_reducible refine x_tupL ?_
  | ((with_reducible refine x_expo0 ?_ ?_); · rfl))
local macro_rules | `(tactic| walk_at "go") => `(tactic| repeat (walk_at "st"))
/-- sizes of a root to be judged -/
theorem sz {n : Int} {p w : Nat} (n1 : 1 ≤ n) (n2 : n < 10 ^ 40) (hp : p ≤ 40) (hw : w ≤ p + 60) : CMulA n (gr p) ∧ 0 < n * gr p ∧ n * gr p < 2 ^ 410 ∧ n * gr p < 10 ^ 122 ∧ (fine p w).natAbs < 2 ^ 200 ∧ (bel (n * gr p)).natAbs < 2 ^ 411 ∧ 1 ≤ bel (n * gr p) := by
  have a := ground_pos p
  have b : gr p ≤ 4 * 10 ^ 80 := by
    have := Int.ofNat_le.mpr (Nat.pow_le_pow_right (n := 10) (by decide) (show 2 * p ≤ 80 by omega))
    rw [ten_pow, ten_pow] at this
    unfold gr
    omega
  have c : n * gr p ≤ 10 ^ 40 * (4 * 10 ^ 80) := mul_mono (by omega) (by omega) (Int.le_of_lt a) b
  have k1 : (10 : Int) ^ 40 * (4 * 10 ^ 80) < 2 ^ 410 := by decide
  have k2 : (10 : Int) ^ 40 * (4 * 10 ^ 80) < 10 ^ 122 := by decide
  have k3 : (10 : Int) ^ 40 < 2 ^ 140 := by decide
  have k4 : (4 : Int) * 10 ^ 80 < 2 ^ 340 := by decide
  have k5 : (10 : Int) ^ 60 < 2 ^ 200 := by decide
  have t0 : 0 < n * gr p := Int.mul_pos (by omega) a
  obtain ⟨d1, _, _, d2, _⟩ := bel_sq t0
  have d3 := rt_le_self (Int.le_of_lt t0)
  have g2 : gr p < 2 ^ 340 := by omega
  have g0 : 0 ≤ gr p := Int.le_of_lt a
  have n3 : n < 2 ^ 140 := by omega
  refine ⟨mul_w (abs_lt (by omega) n3) (abs_lt g0 g2) (by decide), t0, by omega, by omega, abs_lt (Int.le_of_lt (fine_pos p w)) (by have := fine_le hw; omega), abs_lt (by omega) ?_, d1⟩
  have k6 : (2 : Int) ^ 410 < 2 ^ 411 := by decide
  omega
/-- the products -/
theorem sz2 {t f x : Int} (ht : t.natAbs < 2 ^ 410) (hf : f.natAbs < 2 ^ 200) (hx : x.natAbs < 2 ^ 412) : CMulA x f ∧ CMulA t f ∧ CMulA (t * f) f ∧ CMulA (x * f + 1) (x * f + 1) ∧ CMulA (x * f - 1) (x * f - 1) := by
  have xf := nabs_mul hx hf
  have o : (1 : Int).natAbs < 2 ^ (412 + 200) := by decide
  have p1 := nabs_add xf o
  have p2 := nabs_sub xf o
  exact ⟨mul_w hx hf (by decide), mul_w ht hf (by decide), mul_w (nabs_mul ht hf) hf (by decide), mul_w p1 p1 (by decide), mul_w p2 p2 (by decide)⟩
def okS (sd : Sh) (t f : Int) : Bool := match sd with
  | .low => okL t f
  | .high => okH t f
  | .both => okL t f && okH t f
theorem ok_le {sd : Sh} {n : Int} {p w : Nat} (h : p ≤ w) : ok sd n p w = okS sd (n * gr p) (fine p w) := by
  have e : decide (p ≤ w) = true := decide_eq_true h
  cases sd <;> simp [ok, okS, e]
theorem h_is_enough : ∀ ds μ Q, S_is_enough ds μ Q → wDef 7 4 w_is_enough ds μ Q := by
  rintro ds μ Q ⟨n, p, sd, w, rfl, n1, n2, hp, hw, q⟩
  refine x_def (ρ0 := [some (.int n), some (.int p), some (.str sd.s), some (.int w), none, none, none]) rfl rfl ?_
  unfold w_is_enough
  obtain ⟨m1, t0, t1, t2, f1, b1, b2⟩ := sz n1 n2 hp hw
  have fp := fine_pos p w
  have ta := abs_lt (Int.le_of_lt t0) t1
  obtain ⟨c1, c2, c3, c4, _⟩ := sz2 ta f1 (nabs_mono b1 (by decide : 411 ≤ 412))
  have b3 : (bel (n * gr p) + 2).natAbs < 2 ^ 412 := nabs_add b1 (show (2 : Int).natAbs < 2 ^ 411 by decide)
  obtain ⟨e1, _, _, _, e5⟩ := sz2 ta f1 b3
  walk_at "go"
  refine it_c (fun hc => ?_) (fun hc => ?_)
  · have hc : (w : Int) < p := by simpa using hc
    have : ok sd n p w = false := by unfold ok; rw [decide_eq_false (by omega)]; rfl
    rw [this] at q
    walk_at "go"
    exact q
  have hpw : p ≤ w := by
    have : ¬ (w : Int) < p := by simpa using hc
    omega
  have eo := ok_le (sd := sd) (n := n) hpw
  rw [eo] at q
  walk_at "go"
  refine ⟨p, rfl, by omega, ?_⟩
  rw [show (4 * 10 ^ (2 * p) : Int) = gr p from rfl]
  walk_at "go"
  refine ⟨w - p, by rw [Int.ofNat_sub hpw], by omega, ?_⟩
  rw [show (10 ^ (w - p) : Int) = fine p w from rfl]
  walk_at "go"
  refine ⟨_, .below, rfl, Int.le_of_lt t0, lt_mono t1 (by decide), ?_⟩
  walk_at "go"
  rw [show bordS .below (n * gr p) = bel (n * gr p) from rfl]
  cases sd with
  | low =>
    refine it_t (by decide) ?_
    walk_at "go"
    refine it_c (fun hc => ?_) (fun hc => ?_)
    · have : okL (n * gr p) (fine p w) = false := by unfold okL; simpa using hc
      simp only [okS, this] at q
      walk_at "go"
      exact q
    · have : okL (n * gr p) (fine p w) = true := by unfold okL; simpa using hc
      simp only [okS, this] at q
      walk_at "go"
      refine it_t (by decide) ?_
      walk_at "go"
      exact q
  | high =>
    refine it_f (by decide) ?_
    walk_at "go"
    refine it_f (by decide) ?_
    walk_at "go"
    refine it_f (by decide) ?_
    walk_at "go"
    exact q
  | both =>
    refine it_t (by decide) ?_
    walk_at "go"
    refine it_c (fun hc => ?_) (fun hc => ?_)
    · have : okL (n * gr p) (fine p w) = false := by unfold okL; simpa using hc
      simp only [okS, this, Bool.false_and] at q
      walk_at "go"
      exact q
    · have : okL (n * gr p) (fine p w) = true := by unfold okL; simpa using hc
      simp only [okS, this, Bool.true_and] at q
      walk_at "go"
      refine it_f (by decide) ?_
      walk_at "go"
      exact q
theorem h_least_for_side : ∀ ds μ Q, S_least_for_side ds μ Q → wDef 5 3 w_least_for_side ds μ Q := by
  rintro ds μ Q ⟨a, p, sd, w0, rfl, hs, ha1, ha, hp, ⟨l1, l2, l3, l4⟩, q⟩
  refine x_def (ρ0 := [some (.int a), some (.int p), some (.str sd.s), none, none]) rfl rfl ?_
  unfold w_least_for_side
  obtain ⟨N1, N2⟩ := N_rng (p := p) (sd := sideB sd) ha1 ha
  have N3 := a_999 ha N2
  have loop : (wSeq (wWhile (wNotT (wTru (wCall S_is_enough (wCons (wVar 3) (wCons (wVar 1) (wCons (wVar 2) (wCons (wVar 4) wNil))))))) (wAug 4 (wC (.int 1)) wAdd))
  (wRet (wVar 4))) (ends μ Q) [some (.int a), some (.int p), some (.str sd.s), some (.int (best (gr p) (sideB sd) (10 ^ a - 1))), some (.int p)] μ := by
    walk_at "st"
    refine x_while ⟨fun ρ μ' => μ' = μ ∧ ∃ w : Nat, p ≤ w ∧ w ≤ w0 ∧ ρ = [some (.int a), some (.int p), some (.str sd.s), some (.int (best (gr p) (sideB sd) (10 ^ a - 1))), some (.int w)], fun (ρ : Dw.Env) _ => match ρ[4]? with | some (some (D.int w)) => w0 - w.toNat | _ => 0, ⟨rfl, p, Nat.le_refl _, l1, rfl⟩, ?_⟩
    rintro ρ μ' ⟨rfl, w, w1, w2, rfl⟩
    walk_at "go"
    refine ⟨_, p, sd, w, rfl, N1, by omega, by omega, by omega, ?_⟩
    walk_at "go"
    by_cases e : w = w0
    · subst e
      rw [l3]
      refine it_f rfl ?_
      walk_at "go"
      exact q
    · rw [l4 w w1 (by omega)]
      refine it_t rfl ?_
      walk_at "go"
      refine ⟨⟨rfl, w + 1, by omega, by omega, rfl⟩, ?_⟩
      show w0 - ((w : Int) + 1).toNat < w0 - (w : Int).toNat
      omega
  cases sd with
  | both => exact absurd rfl hs
  | low =>
    walk_at "go"
    refine it_t (by decide) ?_
    walk_at "go"
    refine ⟨a, p, .below, rfl, ha, by omega, ?_⟩
    walk_at "st"
    walk_at "st"
    walk_at "st"
    walk_at "st"
    exact loop
  | high =>
    walk_at "go"
    refine it_f (by decide) ?_
    walk_at "go"
    refine ⟨a, p, .above, rfl, ha, by omega, ?_⟩
    walk_at "st"
    walk_at "st"
    walk_at "st"
    walk_at "st"
    exact loop
theorem h_least_for_roots : ∀ ds μ Q, S_least_for_roots ds μ Q → wDef 3 3 w_least_for_roots ds μ Q := by
  rintro ds μ Q ⟨a, p, sd, w0, rfl, ha1, ha, hp, l, q⟩
  refine x_def (ρ0 := [some (.int a), some (.int p), some (.str sd.s)]) rfl rfl ?_
  unfold w_least_for_roots
  walk_at "go"
  cases sd with
  | both =>
    obtain ⟨v1, k1⟩ := leastAt_ex (p := p) (sd := .low) ha1 ha hp
    obtain ⟨v2, k2⟩ := leastAt_ex (p := p) (sd := .high) ha1 ha hp
    refine it_t (by decide) ?_
    walk_at "go"
    refine ⟨a, p, .low, v1, rfl, by (intro z; cases z), ha1, ha, hp, k1, ?_⟩
    walk_at "go"
    refine ⟨a, p, .high, v2, rfl, by (intro z; cases z), ha1, ha, hp, k2, ?_⟩
    walk_at "go"
    rw [least_both ha1 ha hp l k1 k2]
    exact q
  | low =>
    refine it_f (by decide) ?_
    walk_at "go"
    refine ⟨a, p, .low, w0, rfl, by (intro z; cases z), ha1, ha, hp, least_at (by intro z; cases z) ha1 ha hp l, ?_⟩
    walk_at "go"
    exact q
  | high =>
    refine it_f (by decide) ?_
    walk_at "go"
    refine ⟨a, p, .high, w0, rfl, by (intro z; cases z), ha1, ha, hp, least_at (by intro z; cases z) ha1 ha hp l, ?_⟩
    walk_at "go"
    exact q
theorem h_judge_for_roots : ∀ ds μ Q, S_judge_for_roots ds μ Q → wDef 5 5 w_judge_for_roots ds μ Q := by
  rintro ds μ Q ⟨a, p, sd, w, d, rfl, ha, hp, hw, hi, q⟩
  refine x_def (ρ0 := [some (.int a), some (.int p), some (.str sd.s), some (.int w), some d]) rfl rfl ?_
  unfold w_judge_for_roots
  walk_at "go"
  refine ⟨a, rfl, by omega, ?_⟩
  walk_at "go"
  refine ⟨d, _, _, rfl, hi, ?_⟩
  walk_at "go"
  refine it_c (fun hc => ?_) (fun hc => ?_)
  · cases d with
    | int i =>
      have hc : (decide (1 ≤ i) && decide (i ≤ 10 ^ a - 1)) = true := hc
      have q : Q (.bl (decide (1 ≤ i) && decide (i ≤ 10 ^ a - 1) && !ok sd i p w)) μ := q
      rw [hc, Bool.true_and] at q
      simp only [Bool.and_eq_true, decide_eq_true_eq] at hc
      walk_at "go"
      refine ⟨i, p, sd, w, rfl, hc.1, ?_, hp, hw, ?_⟩
      · have := Int.ofNat_le.mpr (Nat.pow_le_pow_right (n := 10) (by decide) ha)
        rw [ten_pow, ten_pow] at this
        omega
      walk_at "go"
      exact q
    | _ => cases hc
  · walk_at "go"
    have : judge a p sd w d = false := by
      cases d with
      | int i =>
        have hc : (decide (1 ≤ i) && decide (i ≤ 10 ^ a - 1)) = false := hc
        show (decide (1 ≤ i) && decide (i ≤ 10 ^ a - 1) && !ok sd i p w) = false
        rw [hc]; rfl
      | _ => rfl
    rw [this] at q
    exact q
end K60
end
section
set_option Elab.async false
set_option linter.all false
set_option maxRecDepth 100000
set_option maxHeartbeats 4000000
set_option exponentiation.threshold 20000
namespace K60
open PySem PySem.Spec PyProof.Rows L2 Dw Rt
local macro_rules | `(tactic| walk_at "st") => `(tactic| first
  | with_reducible refine x_seq ?_
  | with_reducible refine x_next ?_
  | with_reducible refine x_asg ?_
  | with_reducible refine x_gN ?_
  | ((with_reducible apply x_var); · rfl)
  | with_reducible refine x_c ?_
  | with_reducible refine x_op ?_
  | with_reducible refine x_i0 ?_
  | with_reducible refine x_iB ?_
  | with_reducible refine x_eqI ?_
  | with_reducible refine x_asB ?_
  | with_reducible refine x_asI ?_
  | with_reducible refine x_call ?_
  | with_reducible refine x_cons ?_
  | with_reducible refine x_nil ?_
  | with_reducible refine x_ret ?_
  | with_reducible refine x_test ?_
  | with_reducible refine x_if ?_
  | with_reducible refine x_ifE ?_
  | with_reducible refine x_asP ?_
  | with_reducible refine x_as2 ?_
  | with_reducible refine x_par ?_
  | with_reducible refine x_par3 ?_
  | with_reducible refine x_as3 ?_
  | with_reducible refine x_drop ?_
  | with_reducible refine x_retN ?_
  | with_reducible refine x_break ?_
  | with_reducible refine x_cont ?_
  | ((with_reducible apply x_aug); · rfl)
  | with_reducible refine x_put ?_
  | ((with_reducible refine x_gT ?_ ?_); · rfl)
  | with_reducible refine x_gsCons ?_
  | with_reducible refine x_gsNil ?_
  | with_reducible refine x_chain ?_
  | ((with_reducible apply x_inL); (case e1 => rfl); (case e2 => rfl))
  | ((with_reducible apply x_inT); (case e1 => rfl); (case e2 => rfl))
  | with_reducible refine x_andT ?_
  | with_reducible refine x_orT ?_
  | with_reducible refine x_notT ?_
  | with_reducible refine x_andV ?_
  | with_reducible refine x_orV ?_
  | with_reducible refine x_notV ?_
  | with_reducible refine x_tup ?_
  | with_reducible refine x_lst ?_
  | with_reducible refine x_new ?_
  | with_reducible refine x_callK ?_
  | ((with_reducible refine x_asTp ?_ ?_); · exact Nat.le_of_ble_eq_true rfl)
  | ((with_reducible refine x_asLs ?_ ?_); · exact Nat.le_of_ble_eq_true rfl)
  | ((with_reducible apply x_asK); (case e => rfl); (case e2 => rfl))
  | ((with_reducible apply x_ixQ); (case k => assumption); (case e => rfl))
  | ((with_reducible apply x_rPutQ); (case e1 => assumption); (case e2 => rfl); (case hb => rfl))
  | ((with_reducible refine x_expoQ ?_ ?_); · rfl)
  | with_reducible refine x_neg ?_
  | with_reducible refine x_isi ?_
  | ((with_reducible refine x_asIs ?_ ?_); · rfl)
  | with_reducible refine x_bits ?_
  | with_reducible refine x_app ?_
  | with_reducible refine x_tru ?_
  | with_reducible refine x_asTb ?_
  | with_reducible refine x_asTi ?_
  | with_reducible refine x_asTn ?_
  | with_reducible refine x_asTt ?_
  | with_reducible refine x_asTl ?_
  | with_reducible refine x_for ?_
  | with_reducible refine x_comp ?_
  | with_reducible refine x_yes ?_
  | with_reducible refine x_rng1 ?_
  | with_reducible refine x_rng2 ?_
  | with_reducible refine x_seqI ?_
  | with_reducible refine x_asSt ?_
  | with_reducible refine x_asSl ?_
  | with_reducible refine x_sl ?_
  | with_reducible refine x_asCl ?_
  | with_reducible refine x_noP ?_
  | with_reducible refine x_part ?_
  | with_reducible refine x_subB ?_
  | with_reducible refine x_eqS ?_
  | with_reducible refine x_eqB ?_
  | with_reducible refine x_isN ?_
  | ((with_reducible refine x_iC ?_ ?_); · first | exact mul_l (by decide) (by decide) | exact mul_r (by decide) (by decide) | exact div_w (p := 40) (by decide) (by decide) (by decide) | (show (_ : Int) ≠ 0; decide) | assumption)
  | ((with_reducible apply x_ixT); · rfl)
  | ((with_reducible apply x_ixL); · rfl)
  | with_reducible refine x_len ?_
  | with_reducible refine x_lenL ?_
  | with_reducible refine x_int ?_
  | with_reducible refine x_intB ?_
  | with_reducible refine x_abs ?_
  | with_reducible refine x_max2 ?_
  | with_reducible refine x_min2 ?_
  | with_reducible refine x_tupT ?_
  | with_reducible refine x_tupL ?_
  | ((with_reducible refine x_expo0 ?_ ?_); · rfl))
local macro_rules | `(tactic| walk_at "go") => `(tactic| repeat (walk_at "st"))
theorem pow10_abs {k m : Nat} (h : k ≤ m) : ((10 : Int) ^ k).natAbs < 2 ^ (4 * m + 1) := by
  have a : (10 ^ k : Nat) ≤ 10 ^ m := Nat.pow_le_pow_right (by decide) h
  have b : (10 ^ m : Nat) ≤ 2 ^ (4 * m) := by
    rw [Nat.pow_mul]
    exact Nat.pow_le_pow_left (by decide) m
  have c : ((10 : Int) ^ k).natAbs = 10 ^ k := by rw [← ten_pow]; exact Int.natAbs_natCast _
  rw [c, Nat.pow_succ]
  have : (0 : Nat) < 2 ^ (4 * m) := Nat.pow_pos (by decide)
  omega
theorem h_L_root_wrong : ∀ ds μ Q, S_L_root_wrong ds μ Q → wDef 12 4 w_L_root_wrong ds μ Q := by
  rintro ds μ Q ⟨n, p, sd, w, rfl, n1, n2, hp, hw, q⟩
  refine x_def (ρ0 := [some (.int n), some (.int p), some (.int w), some (.str sd.s), none, none, none, none, none, none, none, none]) rfl rfl ?_
  unfold w_L_root_wrong
  obtain ⟨m1, t0, t1, t2, f1, b1, b2⟩ := sz n1 n2 hp hw
  have fp := fine_pos p w
  have ta := abs_lt (Int.le_of_lt t0) t1
  obtain ⟨c1, c2, c3, c4, _⟩ := sz2 ta f1 (nabs_mono b1 (by decide : 411 ≤ 412))
  have b3 : (bel (n * gr p) + 2).natAbs < 2 ^ 412 := nabs_add b1 (show (2 : Int).natAbs < 2 ^ 411 by decide)
  obtain ⟨e1, _, _, _, e5⟩ := sz2 ta f1 b3
  walk_at "go"
  refine it_c (fun hc => ?_) (fun hc => ?_)
  · have hc : (w : Int) < p := by simpa using hc
    have : ok sd n p w = false := by unfold ok; rw [decide_eq_false (by omega)]; rfl
    rw [this] at q
    walk_at "go"
    exact q
  have hpw : p ≤ w := by
    have : ¬ (w : Int) < p := by simpa using hc
    omega
  rw [ok_le hpw] at q
  walk_at "go"
  refine ⟨w - p, by rw [Int.ofNat_sub hpw], by omega, ?_⟩
  rw [show (10 ^ (w - p) : Int) = fine p w from rfl]
  have m2 : CMulA (4 * n) (10 ^ (2 * p)) := by
    have k1 : (4 * n).natAbs < 2 ^ 200 := abs_lt (by omega) (by
      have : (4 : Int) * 10 ^ 40 < 2 ^ 200 := by decide
      omega)
    exact mul_w k1 (pow10_abs (show 2 * p ≤ 80 by omega)) (by decide)
  walk_at "go"
  refine ⟨2 * p, by simp, by omega, ?_⟩
  walk_at "go"
  rw [show 4 * n * 10 ^ (2 * p) = n * gr p by unfold gr; grind]
  refine ⟨_, rfl, Int.le_of_lt t0, by
    have : (10 : Int) ^ 122 < 10 ^ 1500 := by decide
    omega, ?_⟩
  walk_at "go"
  have rest : ∀ z, z = bel (n * gr p) → (wSeq (wPar 8 9 (wCons (wOp wSub (wOp wMul (wOp wAdd (wVar 7) (wC (.int 2))) (wVar 4)) (wC (.int 1))) (wCons (wOp wAdd (wOp wMul (wVar 7) (wVar 4)) (wC (.int 1))) wNil)))
  (wSeq (wAsg (wOrV (wOp wLe (wVar 8) (wC (.int 0))) (wOp wGe (wOp wMul (wOp wMul (wVar 5) (wVar 4)) (wVar 4)) (wOp wMul (wVar 8) (wVar 8)))) (gN 10))
  (wSeq (wAsg (wOp wLt (wOp wMul (wOp wMul (wVar 5) (wVar 4)) (wVar 4)) (wOp wMul (wVar 9) (wVar 9))) (gN 11))
  (wRet (wOrV (wAndV (wOp wNe (wVar 3) (wC (.str "low"))) (wVar 10)) (wAndV (wOp wNe (wVar 3) (wC (.str "high"))) (wVar 11))))))) (ends μ Q) [some (.int n), some (.int p), some (.int w), some (.str sd.s), some (.int (fine p w)), some (.int (n * gr p)), some (.int (rt (n * gr p))), some (.int z), none, none, none, none] μ := by
    rintro z rfl
    have pos : 2 ≤ (bel (n * gr p) + 2) * fine p w - 1 := by
      have := Int.mul_le_mul_of_nonneg_right (show 3 ≤ bel (n * gr p) + 2 by omega) (Int.le_of_lt fp)
      omega
    walk_at "go"
    refine it_f (decide_eq_false (by omega)) ?_
    walk_at "go"
    have eH : decide (n * gr p * fine p w * fine p w ≥ ((bel (n * gr p) + 2) * fine p w - 1) * ((bel (n * gr p) + 2) * fine p w - 1)) = !okH (n * gr p) (fine p w) := by
      unfold okH
      rw [← decide_not]
      exact decide_eq_decide.mpr (by omega)
    have eL : decide (n * gr p * fine p w * fine p w < (bel (n * gr p) * fine p w + 1) * (bel (n * gr p) * fine p w + 1)) = !okL (n * gr p) (fine p w) := by
      unfold okL
      rw [← decide_not]
      exact decide_eq_decide.mpr (by omega)
    rw [eH, eL]
    cases sd with
    | low =>
      refine it_f (by decide) ?_
      walk_at "go"
      refine it_f rfl ?_
      walk_at "go"
      refine it_t (by decide) ?_
      walk_at "go"
      exact q
    | high =>
      have q : Q (.bl (!okH (n * gr p) (fine p w))) μ := q
      refine it_t (by decide) ?_
      walk_at "go"
      generalize okH (n * gr p) (fine p w) = x at *
      cases x with
      | true =>
        refine it_f rfl ?_
        walk_at "go"
        refine it_f (by decide) ?_
        walk_at "go"
        exact q
      | false =>
        refine it_t rfl ?_
        walk_at "go"
        exact q
    | both =>
      have q : Q (.bl (!(okL (n * gr p) (fine p w) && okH (n * gr p) (fine p w)))) μ := q
      refine it_t (by decide) ?_
      walk_at "go"
      generalize okH (n * gr p) (fine p w) = x at *
      generalize okL (n * gr p) (fine p w) = y at *
      cases x with
      | true =>
        refine it_f rfl ?_
        walk_at "go"
        refine it_t (by decide) ?_
        walk_at "go"
        rw [Bool.and_true] at q
        exact q
      | false =>
        refine it_t rfl ?_
        walk_at "go"
        rw [Bool.and_false] at q
        exact q
  refine it_c (fun hc => ?_) (fun hc => ?_)
  · walk_at "st"
    walk_at "st"
    exact rest _ (by unfold bel; rw [if_pos (by simpa using hc)])
  · walk_at "st"
    walk_at "st"
    walk_at "st"
    walk_at "st"
    walk_at "st"
    exact rest _ (by unfold bel; rw [if_neg (by simpa using hc)])
theorem h_L_least_roots : ∀ ds μ Q, S_L_least_roots ds μ Q → wDef 6 3 w_L_least_roots ds μ Q := by
  rintro ds μ Q ⟨a, p, sd, w0, rfl, ha1, ha, hp, ⟨l1, l2, l3, l4⟩, q⟩
  refine x_def (ρ0 := [some (.int a), some (.int p), some (.str sd.s), none, none, none]) rfl rfl ?_
  unfold w_L_least_roots
  walk_at "go"
  refine ⟨by omega, fun i ρ μ' => μ' = μ ∧ p + i ≤ w0 ∧ ∃ o3 o4 o5, ρ = [some (.int a), some (.int p), some (.str sd.s), o3, o4, o5], ⟨rfl, by omega, none, none, none, rfl⟩, fun _ _ _ _ => trivial, ?_, ?_⟩
  · rintro i d ρ μ' hd ⟨rfl, hi, o3, o4, o5, rfl⟩
    obtain ⟨hi2, rfl⟩ := rngD_get hd
    rw [show (p : Int) + (i : Int) = ((p + i : Nat) : Int) by omega]
    walk_at "go"
    refine ⟨a, rfl, by omega, ?_⟩
    walk_at "go"
    obtain ⟨e1, e2⟩ := ten_3 ha
    refine ⟨by omega, fun j ρ μ2 => μ2 = μ' ∧ (∀ n : Int, 1 ≤ n → n ≤ j → ok sd n p (p + i) = true) ∧ ∃ o5, ρ = [some (.int a), some (.int p), some (.str sd.s), some (.int ((p + i : Nat) : Int)), some (.bl false), o5], ⟨rfl, fun n h1 h2 => by omega, o5, rfl⟩, fun _ _ _ _ => trivial, ?_, ?_⟩
    · rintro j d ρ μ2 hd ⟨rfl, hj, o5, rfl⟩
      obtain ⟨hj2, rfl⟩ := rngD_get hd
      have n9 : (1 : Int) + (j : Int) ≤ 999 := by omega
      have k40 : (999 : Int) < 10 ^ 40 := by decide
      walk_at "go"
      refine ⟨1 + (j : Int), p, sd, p + i, rfl, by omega, by omega, by omega, by omega, ?_⟩
      walk_at "go"
      cases hk : ok sd (1 + (j : Int)) p (p + i) with
      | true =>
        refine it_f rfl ?_
        walk_at "go"
        refine ⟨rfl, fun n h1 h2 => ?_, _, rfl⟩
        by_cases e : n = 1 + (j : Int)
        · rw [e]; exact hk
        · exact hj n h1 (by omega)
      | false =>
        refine it_t rfl ?_
        walk_at "go"
        refine it_f rfl ?_
        walk_at "go"
        refine ⟨rfl, ?_, _, _, _, rfl⟩
        by_cases e : p + i = w0
        · rw [e, l3 _ (by omega) (by omega)] at hk
          cases hk
        · omega
    · rintro ρ μ2 ⟨rfl, hj, o5, rfl⟩
      rw [rngD_len] at hj
      walk_at "go"
      have e : p + i = w0 := by
        refine Classical.byContradiction fun z => ?_
        obtain ⟨n, k1, k2, k3⟩ := l4 (p + i) (by omega) (by omega)
        rw [hj n k1 (by omega)] at k3
        cases k3
      refine it_t rfl ?_
      walk_at "go"
      rw [e]
      exact q
  · rintro ρ μ' ⟨rfl, hi, _⟩
    rw [rngD_len] at hi
    omega
theorem h_L_value : ∀ ds μ Q, S_L_value ds μ Q → wDef 5 2 w_L_value ds μ Q := by
  rintro ds μ Q ⟨f, a, c, rfl, ha, h3, hF, q⟩
  refine x_defP (ρ0 := [some (.loc f), some (.int a), none, none, none]) rfl rfl h3 ?_
  have hf : f < μ.length := (List.getElem?_eq_some_iff.mp h3).1
  unfold w_L_value
  have S : ∀ a b : List D, (μ.set f a).set f b = μ.set f b := fun a b => List.set_set ..
  have G : ∀ a : List D, (μ.set f a)[f]? = some a := fun a => List.getElem?_set_self hf
  walk_at "go"
  refine ⟨by omega, by omega, fun i ρ μ' => ∃ n c' o, μ' = μ.set f c' ∧ Flow c' ∧ ρ = [some (.loc f), some (.int a), some (.int n), o, none] ∧ 0 ≤ n ∧ n < 10 ^ i, ⟨0, c, none, rfl, hF, rfl, by decide, by decide⟩, fun _ _ _ _ => trivial, ?_, ?_⟩
  · rintro i d ρ μ' hd ⟨n, c', o, rfl, hF', rfl, n0, n1⟩
    walk_at "go"
    refine ⟨f, 10, c', rfl, by decide, by decide, G c', hF', fun r c2 r0 r1 hF2 => ?_⟩
    rw [S]
    walk_at "go"
    exact ⟨_, c2, _, rfl, hF2, rfl, by omega, by rw [Int.pow_succ]; omega⟩
  · rintro ρ μ' ⟨n, c', o, rfl, hF', rfl, n0, n1⟩
    rw [rngD_len, show (a : Int).toNat = a by omega] at n1
    have n2 : n < 10 ^ 40 := by
      have := Int.ofNat_le.mpr (Nat.pow_le_pow_right (n := 10) (by decide) ha)
      rw [ten_pow, ten_pow] at this
      omega
    have k1 : (10 : Int) ^ 40 < 10 ^ 1500 := by decide
    have k2 : (10 : Int) ^ 40 < 2 ^ 140 := by decide
    have r1 := rt_le_self n0
    have ra := abs_lt (rt_nn n) (show rt n < 2 ^ 140 by omega)
    have rr : CMulA (rt n) (rt n) := mul_w ra ra (by decide)
    walk_at "go"
    refine ⟨n, rfl, n0, by omega, ?_⟩
    walk_at "go"
    refine ⟨a, rfl, by omega, ?_⟩
    walk_at "go"
    refine ⟨a, rfl, by omega, ?_⟩
    walk_at "go"
    refine ⟨f, _, c', rfl, by simp, by simp, by simp [belows, below], G c', hF', fun r d c3 hd hF3 => ?_⟩
    rw [S]
    have hv : Val d := by
      have hm := List.mem_of_getElem? hd
      simp only [List.mem_cons, List.not_mem_nil, or_false] at hm
      rcases hm with rfl | rfl | rfl | rfl | rfl | rfl | rfl | rfl | rfl | rfl | rfl | rfl | rfl | rfl | rfl
      all_goals first | exact .inl ⟨_, rfl⟩ | exact .inr (.inl rfl) | exact .inr (.inr (.inl rfl)) | exact .inr (.inr (.inr ⟨_, rfl⟩))
    have hb : below (μ.set f c3).length d = true := by
      rcases hv with ⟨z, rfl⟩ | rfl | rfl | ⟨z, rfl⟩ <;> rfl
    have e : (μ.set f c3).length = μ.length := List.length_set
    refine x_expoQ (by rw [← e]; exact hb) ?_
    exact q d c3 hv hF3
theorem h_law : ∀ ds μ Q, S_law ds μ Q → wDef 12 1 w_law ds μ Q := by
  rintro ds μ Q ⟨ns, rfl, hl, rfl, q⟩
  refine x_def (ρ0 := [some (.lst (ns.map D.int)), none, none, none, none, none, none, none, none, none, none, none]) rfl rfl ?_
  unfold w_law
  walk_at "go"
  refine ⟨ns, rfl, hl, fun c hF => ?_⟩
  walk_at "go"
  have sides : ∀ {r : Nat} {d : D}, [D.str "both", D.str "low", D.str "high"][r]? = some d → ∃ sd : Sh, d = .str sd.s := fun {r d} hd => by
    have hm := List.mem_of_getElem? hd
    simp only [List.mem_cons, List.not_mem_nil, or_false] at hm
    rcases hm with rfl | rfl | rfl
    · exact ⟨.both, rfl⟩
    · exact ⟨.low, rfl⟩
    · exact ⟨.high, rfl⟩
  refine ⟨by decide, by decide, fun i ρ μ' => ∃ c g o2 o3 o4 o5 o6 o7 o8 o9 o10 o11, μ' = c :: g ∧ Flow c ∧ ρ = [some (.lst (ns.map D.int)), some (.loc 0), o2, o3, o4, o5, o6, o7, o8, o9, o10, o11], ⟨c, [], _, _, _, _, _, _, _, _, _, _, rfl, hF, rfl⟩, fun _ _ _ _ => trivial, ?_, ?_⟩
  · rintro turn d ρ μ' hd ⟨c, g, o2, o3, o4, o5, o6, o7, o8, o9, o10, o11, rfl, hF, rfl⟩
    obtain ⟨ht, rfl⟩ := rngD_get hd
    walk_at "go"
    refine ⟨0, _, c, rfl, by decide, by decide, rfl, rfl, hF, fun r d c1 hd hF1 => ?_⟩
    rw [List.set_cons_zero]
    obtain ⟨a, rfl, a1, a2⟩ : ∃ a : Nat, d = .int a ∧ 1 ≤ a ∧ a ≤ 3 := by
      have hm := List.mem_of_getElem? hd
      simp only [List.mem_cons, List.not_mem_nil, or_false] at hm
      rcases hm with rfl | rfl | rfl | rfl | rfl | rfl
      · exact ⟨1, rfl, by decide, by decide⟩
      · exact ⟨1, rfl, by decide, by decide⟩
      · exact ⟨2, rfl, by decide, by decide⟩
      · exact ⟨2, rfl, by decide, by decide⟩
      · exact ⟨2, rfl, by decide, by decide⟩
      · exact ⟨3, rfl, by decide, by decide⟩
    walk_at "go"
    have df : ((a : Int).fdiv 2 + 4) = ((a / 2 + 4 : Nat) : Int) := by rw [Int.fdiv_eq_ediv_of_nonneg _ (by decide)]; omega
    rw [df]
    refine ⟨0, _, c1, rfl, by omega, ?_, rfl, hF1, fun r1 c2 l0 l1 hF2 => ?_⟩
    · have : (1000 : Int) < 2 ^ 1000 := by decide
      omega
    rw [List.set_cons_zero]
    obtain ⟨p0, rfl⟩ : ∃ p0 : Nat, r1 = p0 := ⟨r1.toNat, by omega⟩
    walk_at "go"
    refine ⟨0, _, c2, rfl, by decide, by decide, rfl, rfl, hF2, fun r d c3 hd hF3 => ?_⟩
    rw [List.set_cons_zero]
    obtain ⟨sd, rfl⟩ := sides hd
    rw [show (1 : Int) + (p0 : Int) = ((1 + p0 : Nat) : Int) by omega]
    have p5 : 1 + p0 ≤ 5 := by omega
    obtain ⟨w0, hL⟩ := least_ex (a := a) (p := 1 + p0) (sd := sd) a2 p5
    walk_at "go"
    refine ⟨a, 1 + p0, sd, w0, rfl, a1, a2, p5, hL, ?_⟩
    walk_at "go"
    -- the second part
    have second : ∀ (a p w k : Nat) (sd : Sh) (c3 g : List D) (gg : Sto) (o8 o9 o10 o11 : Option D) (N : Dw.Env → Sto → Prop), a ≤ 40 → p ≤ 40 → w ≤ p + 60 → (k = 2 → 1 ≤ w) → Flow c3 → 
        (∀ c4 o8 o9 o10 o11, Flow c4 → N [some (.lst (ns.map D.int)), some (.loc 0), some (.int (0 + (turn : Int))), some (.int a), some (.int p), some (.str sd.s), some (.int w), some (.int (0 + (k : Int))), o8, o9, o10, o11] (c4 :: gg)) →
        w_law_1 { nx := N, rt := (ends [] Q).rt, ct := N, bk := wRet (wC (.bl true)) (ends [] Q) } [some (.lst (ns.map D.int)), some (.loc 0), some (.int (0 + (turn : Int))), some (.int a), some (.int p), some (.str sd.s), some (.int w), some (.int (0 + (k : Int))), o8, o9, o10, o11] (c3 :: gg) := by
      intro a p w k sd c3 g gg o8 o9 o10 o11 N ha hp hw hk hF hN
      unfold w_law_1
      walk_at "go"
      refine ⟨0, a, c3, rfl, ha, rfl, hF, fun d c4 hv hF4 => ?_⟩
      rw [List.set_cons_zero]
      walk_at "go"
      obtain ⟨v, ev, hvp⟩ : ∃ v : Nat, (w : Int) - b2i (xor false (decide (0 + (k : Int) = 2))) = v ∧ v ≤ p + 60 := by
        by_cases e : k = 2
        · refine ⟨w - 1, ?_, by omega⟩
          rw [decide_eq_true (by omega : 0 + (k : Int) = 2)]
          have := hk e
          show (w : Int) - 1 = _
          omega
        · refine ⟨w, ?_, by omega⟩
          rw [decide_eq_false (by omega : ¬ 0 + (k : Int) = 2)]
          show (w : Int) - 0 = _
          omega
      rw [ev]
      have hi : inert d = true := by rcases hv with ⟨z, rfl⟩ | rfl | rfl | ⟨z, rfl⟩ <;> rfl
      have ka : (10 : Int) ^ a ≤ 10 ^ 40 := by
        have := Int.ofNat_le.mpr (Nat.pow_le_pow_right (n := 10) (by decide) ha)
        rw [ten_pow, ten_pow] at this
        exact this
      -- told and compared
      have told : ∀ (b : Bool), b = judge a p sd v d → (wSeq (wAsg (wIfE (wTest (wOp (wIn false) (wVar 7) (wLst (wCons (wC (.int 0)) (wCons (wC (.int 2)) (wCons (wC (.int 4)) wNil)))))) (wCall S_judge_for_roots (wCons (wVar 3) (wCons (wVar 4) (wCons (wVar 5) (wCons (wVar 9) (wCons (wVar 8) wNil)))))) (wCallK S_judge_for_roots [4, 3, 2, 1, 0] 5 (wCons (wVar 8) (wCons (wVar 9) (wCons (wVar 5) (wCons (wVar 4) (wCons (wVar 3) wNil))))))) (gN 11))
  (wIf (wNotT (wTru (wCall (S_L_same 2) (wCons (wVar 11) (wCons (wVar 10) wNil))))) (wRet (wC (.bl false))) wNext)) { nx := N, rt := (ends [] Q).rt, ct := N, bk := wRet (wC (.bl true)) (ends [] Q) } [some (.lst (ns.map D.int)), some (.loc 0), some (.int (0 + (turn : Int))), some (.int a), some (.int p), some (.str sd.s), some (.int w), some (.int (0 + (k : Int))), some d, some (.int v), some (.bl b), o11] (c4 :: gg) := by
        rintro b rfl
        walk_at "go"
        refine it_c (fun hc => ?_) (fun hc => ?_)
        · walk_at "go"
          refine ⟨a, p, sd, v, d, rfl, ha, hp, hvp, hi, ?_⟩
          walk_at "go"
          refine ⟨_, rfl, .inr (.inl ⟨_, rfl⟩), ?_⟩
          walk_at "go"
          refine it_f rfl ?_
          walk_at "go"
          exact hN _ _ _ _ _ hF4
        · walk_at "go"
          refine ⟨a, p, sd, v, d, rfl, ha, hp, hvp, hi, ?_⟩
          walk_at "go"
          refine ⟨_, rfl, .inr (.inl ⟨_, rfl⟩), ?_⟩
          walk_at "go"
          refine it_f rfl ?_
          walk_at "go"
          exact hN _ _ _ _ _ hF4
      refine ⟨d, rfl, hi, ?_⟩
      walk_at "st"
      cases d with
      | int z =>
        refine it_t rfl ?_
        walk_at "go"
        refine it_c (fun hc => ?_) (fun hc => ?_)
        · walk_at "go"
          refine ⟨a, rfl, by omega, ?_⟩
          walk_at "go"
          refine it_c (fun hd => ?_) (fun hd => ?_)
          · have hc : 1 ≤ z := by simpa using hc
            have hd : z < 10 ^ a := by simpa using hd
            walk_at "go"
            refine ⟨z, p, sd, v, rfl, hc, by omega, hp, hvp, ?_⟩
            walk_at "st"
            walk_at "st"
            refine told _ ?_
            show (!ok sd z p v) = (decide (1 ≤ z) && decide (z ≤ 10 ^ a - 1) && !ok sd z p v)
            rw [decide_eq_true hc, decide_eq_true (by omega : z ≤ 10 ^ a - 1)]
            rfl
          · have hd : ¬ z < 10 ^ a := by simpa using hd
            walk_at "st"
            walk_at "st"
            refine told _ ?_
            show false = (decide (1 ≤ z) && decide (z ≤ 10 ^ a - 1) && !ok sd z p v)
            rw [decide_eq_false (by omega : ¬ z ≤ 10 ^ a - 1), Bool.and_false]
            rfl
        · have hc : ¬ 1 ≤ z := by simpa using hc
          walk_at "st"
          refine it_f rfl ?_
          walk_at "st"
          walk_at "st"
          refine told _ ?_
          show false = (decide (1 ≤ z) && decide (z ≤ 10 ^ a - 1) && !ok sd z p v)
          rw [decide_eq_false hc]
          rfl
      | _ =>
        refine it_f rfl ?_
        walk_at "st"
        walk_at "st"
        exact told _ rfl
    have loop : (wFor (wRng1 (wC (.int 6))) (gN 7) (wSeq (wIf (wTest (wOp wGt (wVar 7) (wC (.int 2)))) (wSeq (wPar 3 5 (wCons (wOp wAdd (wC (.int 1)) (wCall S_L_draw (wCons (wVar 1) (wCons (wC (.int 40)) wNil)))) (wCons (wCall S_L_pick (wCons (wVar 1) (wCons (wLst (wCons (wC (.str "both")) (wCons (wC (.str "low")) (wCons (wC (.str "high")) wNil)))) wNil))) wNil)))
  (wSeq (wAsg (wOp wAdd (wC (.int 1)) (wCall S_L_draw (wCons (wVar 1) (wCons (wC (.int 40)) wNil)))) (gN 4))
  (wAsg (wOp wAdd (wCall fMax2 (wCons (wC (.int 0)) (wCons (wOp wSub (wVar 4) (wC (.int 2))) wNil))) (wCall S_L_draw (wCons (wVar 1) (wCons (wC (.int 53)) wNil)))) (gN 6)))) wNext)
  w_law_1)) { nx := fun ρ μ' => ∃ c g o2 o3 o4 o5 o6 o7 o8 o9 o10 o11, μ' = c :: g ∧ Flow c ∧ ρ = [some (.lst (ns.map D.int)), some (.loc 0), o2, o3, o4, o5, o6, o7, o8, o9, o10, o11], rt := (ends [] Q).rt, ct := fun ρ μ' => ∃ c g o2 o3 o4 o5 o6 o7 o8 o9 o10 o11, μ' = c :: g ∧ Flow c ∧ ρ = [some (.lst (ns.map D.int)), some (.loc 0), o2, o3, o4, o5, o6, o7, o8, o9, o10, o11], bk := wRet (wC (.bl true)) (ends [] Q) } [some (.lst (ns.map D.int)), some (.loc 0), some (.int (0 + (turn : Int))), some (.int a), some (.int ((1 + p0 : Nat) : Int)), some (.str sd.s), some (.int w0), o7, o8, o9, o10, o11] (c3 :: g) := by
      walk_at "go"
      refine ⟨by decide, by decide, fun i ρ μ' => ∃ (a p w : Nat) (sd : Sh) (c : List D) (o7 o8 o9 o10 o11 : Option D), μ' = c :: g ∧ Flow c ∧ a ≤ 40 ∧ p ≤ 40 ∧ w ≤ p + 60 ∧ (i ≤ 3 → 1 ≤ w) ∧ ρ = [some (.lst (ns.map D.int)), some (.loc 0), some (.int (0 + (turn : Int))), some (.int a), some (.int p), some (.str sd.s), some (.int w), o7, o8, o9, o10, o11], ⟨a, 1 + p0, w0, sd, c3, o7, o8, o9, o10, o11, rfl, hF3, by omega, by omega, by have := hL.2.1; omega, fun _ => by have := hL.1; omega, rfl⟩, fun _ _ _ _ => trivial, ?_, ?_⟩
      · rintro k d ρ μ' hd ⟨a, p, w, sd, c, o7, o8, o9, o10, o11, rfl, hF, ha, hp, hw, hk, rfl⟩
        obtain ⟨hk6, rfl⟩ := rngD_get hd
        walk_at "go"
        refine it_c (fun hc => ?_) (fun hc => ?_)
        · have hc : 2 < k := by
            have : 0 + (k : Int) > 2 := by simpa using hc
            omega
          walk_at "go"
          have big : (100 : Int) < 2 ^ 1000 := by decide
          refine ⟨0, 40, c, rfl, by decide, by omega, rfl, hF, fun r1 c1 l0 l1 hF1 => ?_⟩
          rw [List.set_cons_zero]
          obtain ⟨a', rfl⟩ : ∃ a' : Nat, r1 = a' := ⟨r1.toNat, by omega⟩
          walk_at "go"
          refine ⟨0, _, c1, rfl, by decide, by decide, rfl, rfl, hF1, fun r d c2 hd hF2 => ?_⟩
          rw [List.set_cons_zero]
          obtain ⟨sd', rfl⟩ := sides hd
          walk_at "go"
          refine ⟨0, 40, c2, rfl, by decide, by omega, rfl, hF2, fun r2 c4 m0 m1 hF4 => ?_⟩
          rw [List.set_cons_zero]
          obtain ⟨p', rfl⟩ : ∃ p' : Nat, r2 = p' := ⟨r2.toNat, by omega⟩
          walk_at "go"
          refine ⟨0, 53, c4, rfl, by decide, by omega, rfl, hF4, fun r3 c5 q0 q1 hF5 => ?_⟩
          rw [List.set_cons_zero]
          obtain ⟨w', ew, hw'⟩ : ∃ w' : Nat, (if 1 + (p' : Int) - 2 > 0 then 1 + (p' : Int) - 2 else 0) + r3 = w' ∧ w' ≤ 1 + p' + 60 := ⟨((if 1 + (p' : Int) - 2 > 0 then 1 + (p' : Int) - 2 else 0) + r3).toNat, by split <;> omega, by split <;> omega⟩
          rw [show (1 : Int) + (a' : Int) = ((1 + a' : Nat) : Int) by omega, show (1 : Int) + (p' : Int) = ((1 + p' : Nat) : Int) by omega] at *
          walk_at "st"
          rw [ew]
          walk_at "st"
          refine second (1 + a') (1 + p') w' k sd' c5 [] g _ _ _ _ _ (by omega) (by omega) hw' (by omega) hF5 fun c6 o8 o9 o10 o11 hF6 => ?_
          exact ⟨_, _, _, sd', c6, _, _, _, _, _, rfl, hF6, by omega, by omega, hw', fun h => by omega, rfl⟩
        · have hc : ¬ 2 < k := by
            have : ¬ 0 + (k : Int) > 2 := by simpa using hc
            omega
          walk_at "st"
          refine second a p w k sd c [] g _ _ _ _ _ ha hp hw (fun h => hk (by omega)) hF fun c6 o8 o9 o10 o11 hF6 => ?_
          exact ⟨_, _, _, sd, c6, _, _, _, _, _, rfl, hF6, by omega, by omega, hw, fun h => hk (by omega), rfl⟩
      · rintro ρ μ' ⟨a, p, w, sd, c, o7, o8, o9, o10, o11, rfl, hF, ha, hp, hw, hk, rfl⟩
        exact ⟨c, g, _, _, _, _, _, _, _, _, _, _, rfl, hF, rfl⟩
    refine it_c (fun hc => ?_) (fun hc => ?_)
    · walk_at "go"
      refine ⟨a, 1 + p0, sd, w0, rfl, a1, a2, p5, hL, ?_⟩
      walk_at "go"
      refine ⟨_, rfl, .inr (.inr (.inl ⟨_, rfl⟩)), ?_⟩
      walk_at "go"
      refine it_f rfl ?_
      walk_at "st"
      exact loop
    · walk_at "go"
      refine ⟨a, 1 + p0, sd, w0, rfl, a1, a2, p5, hL, ?_⟩
      walk_at "go"
      refine ⟨_, rfl, .inr (.inr (.inl ⟨_, rfl⟩)), ?_⟩
      walk_at "go"
      refine it_f rfl ?_
      walk_at "st"
      exact loop
  · rintro ρ μ' ⟨c, g, o2, o3, o4, o5, o6, o7, o8, o9, o10, o11, rfl, hF, rfl⟩
    walk_at "go"
    exact q _
end K60
end
section
set_option Elab.async false
set_option linter.all false
set_option maxRecDepth 100000
set_option maxHeartbeats 4000000

namespace K60
open PySem PySem.Spec PyProof.Rows L2 Dw Rt
section
variable {P : Program} {w : World} {K : PySem.W.Frag} {mg : Str → Option Value} {base : Heap}
theorem t_is_number (T : Tx K mg) (cdv : Value) (A : Around) (outer : List PySem.Env) (s : Shared) (H : Hp) (E : XK) (hr : Room (0) (A.deeper (envOfC "is_number" (defScope s_is_number) s.heap.objs.size T.a_is_number cdv))) : PSs (cxOf CX0 P w K mg base n_is_number "is_number" (defScope s_is_number) T.a_is_number cdv A outer s H E).nox (defBody s_is_number) (lS K (w_is_number)) :=
  (ss_one (s_ret (d_and (d_isi (d_v 0) rfl T.m_isinstance rfl T.m_int (by decide +kernel)) (d_one (d_not (d_isi (d_v 0) rfl T.m_isinstance rfl T.m_bool (by decide +kernel)))))))
theorem ok_is_number (T : Tx K mg) : FnOk P w K mg base CX0 1 T.a_is_number T.d_is_number ["value"] (lF K S_is_number) :=
  d_def T.F_is_number sc_is_number (t_is_number T) h_is_number

theorem t_is_from_to (T : Tx K mg) (cdv : Value) (A : Around) (outer : List PySem.Env) (s : Shared) (H : Hp) (E : XK) (hr : Room (1) (A.deeper (envOfC "is_from_to" (defScope s_is_from_to) s.heap.objs.size T.a_is_from_to cdv))) : PSs (cxOf CX0 P w K mg base n_is_from_to "is_from_to" (defScope s_is_from_to) T.a_is_from_to cdv A outer s H E).nox (defBody s_is_from_to) (lS K (w_is_from_to)) :=
  (ss_one (s_ret (d_and (d_call (ok_is_number T) (hr.mono (by decide)) rfl T.g_is_number T.F_is_number.kp T.b_is_number (a_cons (d_v 0) a_nil)) (d_one (d_chain o_le o_le (d_v 1) (d_v 0) (d_v 2))))))
theorem ok_is_from_to (T : Tx K mg) : FnOk P w K mg base CX0 2 T.a_is_from_to T.d_is_from_to ["value", "low", "high"] (lF K S_is_from_to) :=
  d_def T.F_is_from_to sc_is_from_to (t_is_from_to T) h_is_from_to

theorem t_tens (T : Tx K mg) (cdv : Value) (A : Around) (outer : List PySem.Env) (s : Shared) (H : Hp) (E : XK) (hr : Room (0) (A.deeper (envOfC "tens" (defScope s_tens) s.heap.objs.size T.a_tens cdv))) : PSs (cxOf CX0 P w K mg base n_tens "tens" (defScope s_tens) T.a_tens cdv A outer s H E).nox (defBody s_tens) (lS K (w_tens)) :=
  (ss_cons (s_set (i := 1) sc_tens.nd rfl (by first | exact Or.inl rfl | exact Or.inr rfl) d_int)
      (ss_cons (s_for PassesOwn.never rfl (i_rng1 rfl T.m_range (d_b c_abs rfl T.m_abs (by decide +kernel) (a_cons (d_v 0) a_nil))) (pg_name (i := 2) sc_tens.nd rfl (by first | exact Or.inl rfl | exact Or.inr rfl)) tg_n (ss_one (s_aug (i := 1) sc_tens.nd rfl (by first | exact Or.inl rfl | exact Or.inr rfl) d_int i_mul)))
      (ss_one (s_ret (d_if (t_cmp o_ge (d_v 0) d_int) (d_tup (a_cons (d_v 1) (a_cons d_int a_nil))) (d_tup (a_cons d_int (a_cons (d_v 1) a_nil))))))))
theorem ok_tens (T : Tx K mg) : FnOk P w K mg base CX0 1 T.a_tens T.d_tens ["many"] (lF K S_tens) :=
  d_def T.F_tens sc_tens (t_tens T) h_tens

theorem t_floor_root (T : Tx K mg) (cdv : Value) (A : Around) (outer : List PySem.Env) (s : Shared) (H : Hp) (E : XK) (hr : Room (0) (A.deeper (envOfC "floor_root" (defScope s_floor_root) s.heap.objs.size T.a_floor_root cdv))) : PSs (cxOf CX0 P w K mg base n_floor_root "floor_root" (defScope s_floor_root) T.a_floor_root cdv A outer s H E).nox (defBody s_floor_root) (lS K (w_floor_root)) :=
  (ss_cons (s_if (t_cmp o_eq (d_v 0) d_int) (ss_one (s_ret d_int)) ss_nil)
      (ss_cons (s_set (i := 1) sc_floor_root.nd rfl (by first | exact Or.inl rfl | exact Or.inr rfl) (d_op o_shl d_int (d_op o_div (d_op o_add (d_bits (d_v 0)) d_int) d_int)))
      (ss_one (s_while PassesOwn.never (t_tru d_bl) (ss_cons (s_set (i := 2) sc_floor_root.nd rfl (by first | exact Or.inl rfl | exact Or.inr rfl) (d_op o_div (d_op o_add (d_v 1) (d_op o_div (d_v 0) (d_v 1))) d_int))
      (ss_cons (s_if (t_cmp o_ge (d_v 2) (d_v 1)) (ss_one (s_ret (d_v 1))) ss_nil)
      (ss_one (s_set (i := 1) sc_floor_root.nd rfl (by first | exact Or.inl rfl | exact Or.inr rfl) (d_v 2)))))))))
theorem ok_floor_root (T : Tx K mg) : FnOk P w K mg base CX0 1 T.a_floor_root T.d_floor_root ["number"] (lF K S_floor_root) :=
  d_def T.F_floor_root sc_floor_root (t_floor_root T) h_floor_root

theorem t_ground_of (T : Tx K mg) (cdv : Value) (A : Around) (outer : List PySem.Env) (s : Shared) (H : Hp) (E : XK) (hr : Room (1) (A.deeper (envOfC "ground_of" (defScope s_ground_of) s.heap.objs.size T.a_ground_of cdv))) : PSs (cxOf CX0 P w K mg base n_ground_of "ground_of" (defScope s_ground_of) T.a_ground_of cdv A outer s H E).nox (defBody s_ground_of) (lS K (w_ground_of)) :=
  (ss_one (s_ret (d_op o_mul d_int (d_ix (d_call (ok_tens T) (hr.mono (by decide)) rfl T.g_tens T.F_tens.kp T.b_tens (a_cons (d_op o_mul d_int (d_v 0)) a_nil)) d_int))))
theorem ok_ground_of (T : Tx K mg) : FnOk P w K mg base CX0 2 T.a_ground_of T.d_ground_of ["p"] (lF K S_ground_of) :=
  d_def T.F_ground_of sc_ground_of (t_ground_of T) h_ground_of

theorem t_border_below (T : Tx K mg) (cdv : Value) (A : Around) (outer : List PySem.Env) (s : Shared) (H : Hp) (E : XK) (hr : Room (1) (A.deeper (envOfC "border_below" (defScope s_border_below) s.heap.objs.size T.a_border_below cdv))) : PSs (cxOf CX0 P w K mg base n_border_below "border_below" (defScope s_border_below) T.a_border_below cdv A outer s H E).nox (defBody s_border_below) (lS K (w_border_below)) :=
  (ss_cons (s_set (i := 1) sc_border_below.nd rfl (by first | exact Or.inl rfl | exact Or.inr rfl) (d_call (ok_floor_root T) (hr.mono (by decide)) rfl T.g_floor_root T.F_floor_root.kp T.b_floor_root (a_cons (d_v 0) a_nil)))
      (ss_one (s_ret (d_if (t_cmp o_eq (d_op o_mod (d_v 1) d_int) d_int) (d_v 1) (d_op o_sub (d_v 1) d_int)))))
theorem ok_border_below (T : Tx K mg) : FnOk P w K mg base CX0 2 T.a_border_below T.d_border_below ["ground"] (lF K S_border_below) :=
  d_def T.F_border_below sc_border_below (t_border_below T) h_border_below

theorem t_border_by (T : Tx K mg) (cdv : Value) (A : Around) (outer : List PySem.Env) (s : Shared) (H : Hp) (E : XK) (hr : Room (2) (A.deeper (envOfC "border_by" (defScope s_border_by) s.heap.objs.size T.a_border_by cdv))) : PSs (cxOf CX0 P w K mg base n_border_by "border_by" (defScope s_border_by) T.a_border_by cdv A outer s H E).nox (defBody s_border_by) (lS K (w_border_by)) :=
  (ss_cons (s_set (i := 2) sc_border_by.nd rfl (by first | exact Or.inl rfl | exact Or.inr rfl) (d_call (ok_border_below T) (hr.mono (by decide)) rfl T.g_border_below T.F_border_below.kp T.b_border_below (a_cons (d_v 0) a_nil)))
      (ss_cons (s_if (t_cmp o_eq (d_v 1) d_str) (ss_one (s_ret (d_v 2))) ss_nil)
      (ss_cons (s_if (t_cmp o_eq (d_v 1) d_str) (ss_one (s_ret (d_op o_add (d_v 2) d_int))) ss_nil)
      (ss_cons (s_set (i := 3) sc_border_by.nd rfl (by first | exact Or.inl rfl | exact Or.inr rfl) (d_op o_add (d_v 2) d_int))
      (ss_one (s_ret (d_if (t_cmp o_le (d_v 0) (d_op o_mul (d_v 3) (d_v 3))) (d_v 2) (d_op o_add (d_v 2) d_int))))))))
theorem ok_border_by (T : Tx K mg) : FnOk P w K mg base CX0 3 T.a_border_by T.d_border_by ["ground", "side"] (lF K S_border_by) :=
  d_def T.F_border_by sc_border_by (t_border_by T) h_border_by

theorem t_sum_sign (T : Tx K mg) (cdv : Value) (A : Around) (outer : List PySem.Env) (s : Shared) (H : Hp) (E : XK) (hr : Room (0) (A.deeper (envOfC "sum_sign" (defScope s_sum_sign) s.heap.objs.size T.a_sum_sign cdv))) : PSs (cxOf CX0 P w K mg base n_sum_sign "sum_sign" (defScope s_sum_sign) T.a_sum_sign cdv A outer s H E).nox (defBody s_sum_sign) (lS K (w_sum_sign)) :=
  (ss_cons (s_if (t_cmp o_eq (d_v 0) (d_v 2)) (ss_one (s_set (i := 5) sc_sum_sign.nd rfl (by first | exact Or.inl rfl | exact Or.inr rfl) (d_if (t_cmp o_gt (d_op o_add (d_v 1) (d_v 3)) d_int) (d_v 0) d_int))) (ss_one (s_set (i := 5) sc_sum_sign.nd rfl (by first | exact Or.inl rfl | exact Or.inr rfl) (d_op o_mul (d_v 0) (d_op o_subB (d_cmp o_gt (d_v 1) (d_v 3)) (d_cmp o_lt (d_v 1) (d_v 3)))))))
      (ss_cons (s_if (t_cmp o_le (d_op o_mul (d_v 5) (d_v 4)) d_int) (ss_one (s_ret (d_if (t_cmp o_ne (d_v 5) d_int) (d_v 5) (d_op o_subB (d_cmp o_lt (d_v 4) d_int) (d_cmp o_gt (d_v 4) d_int))))) ss_nil)
      (ss_cons (s_set (i := 6) sc_sum_sign.nd rfl (by first | exact Or.inl rfl | exact Or.inr rfl) (d_op o_sub (d_op o_sub (d_op o_mul (d_v 4) (d_v 4)) (d_v 1)) (d_v 3)))
      (ss_cons (s_set (i := 7) sc_sum_sign.nd rfl (by first | exact Or.inl rfl | exact Or.inr rfl) (d_op o_mul (d_op o_mul d_int (d_v 1)) (d_v 3)))
      (ss_cons (s_if (t_cmp o_eq (d_v 0) (d_v 2)) (ss_one (s_set (i := 8) sc_sum_sign.nd rfl (by first | exact Or.inl rfl | exact Or.inr rfl) (d_if (t_cmp o_lt (d_v 6) d_int) d_int (d_op o_subB (d_cmp o_gt (d_v 7) (d_op o_mul (d_v 6) (d_v 6))) (d_cmp o_lt (d_v 7) (d_op o_mul (d_v 6) (d_v 6))))))) (ss_one (s_set (i := 8) sc_sum_sign.nd rfl (by first | exact Or.inl rfl | exact Or.inr rfl) (d_if (t_cmp o_gt (d_v 6) d_int) (d_neg d_int) (d_op o_subB (d_cmp o_gt (d_op o_mul (d_v 6) (d_v 6)) (d_v 7)) (d_cmp o_lt (d_op o_mul (d_v 6) (d_v 6)) (d_v 7)))))))
      (ss_one (s_ret (d_op o_mul (d_v 5) (d_v 8)))))))))
theorem ok_sum_sign (T : Tx K mg) : FnOk P w K mg base CX0 1 T.a_sum_sign T.d_sum_sign ["one", "ground", "other", "second", "number"] (lF K S_sum_sign) :=
  d_def T.F_sum_sign sc_sum_sign (t_sum_sign T) h_sum_sign

theorem t_room_order (T : Tx K mg) (cdv : Value) (A : Around) (outer : List PySem.Env) (s : Shared) (H : Hp) (E : XK) (hr : Room (1) (A.deeper (envOfC "room_order" (defScope s_room_order) s.heap.objs.size T.a_room_order cdv))) : PSs (cxOf CX0 P w K mg base n_room_order "room_order" (defScope s_room_order) T.a_room_order cdv A outer s H E).nox (defBody s_room_order) (lS K (w_room_order)) :=
  (ss_cons (s_set (i := 4) sc_room_order.nd rfl (by first | exact Or.inl rfl | exact Or.inr rfl) (d_if (t_cmp o_gt (d_v 1) (d_op o_mul (d_v 0) (d_v 0))) d_int (d_neg d_int)))
      (ss_cons (s_set (i := 5) sc_room_order.nd rfl (by first | exact Or.inl rfl | exact Or.inr rfl) (d_if (t_cmp o_gt (d_v 3) (d_op o_mul (d_v 2) (d_v 2))) d_int (d_neg d_int)))
      (ss_one (s_ret (d_call (ok_sum_sign T) (hr.mono (by decide)) rfl T.g_sum_sign T.F_sum_sign.kp T.b_sum_sign (a_cons (d_v 4) (a_cons (d_v 1) (a_cons (d_neg (d_v 5)) (a_cons (d_v 3) (a_cons (d_op o_sub (d_op o_mul (d_v 4) (d_v 0)) (d_op o_mul (d_v 5) (d_v 2))) a_nil))))))))))
theorem ok_room_order (T : Tx K mg) : FnOk P w K mg base CX0 2 T.a_room_order T.d_room_order ["x", "ground", "y", "second"] (lF K S_room_order) :=
  d_def T.F_room_order sc_room_order (t_room_order T) h_room_order

theorem t_worst_of_few (T : Tx K mg) (cdv : Value) (A : Around) (outer : List PySem.Env) (s : Shared) (H : Hp) (E : XK) (hr : Room (3) (A.deeper (envOfC "worst_of_few" (defScope s_worst_of_few) s.heap.objs.size T.a_worst_of_few cdv))) : PSs (cxOf CX0 P w K mg base n_worst_of_few "worst_of_few" (defScope s_worst_of_few) T.a_worst_of_few cdv A outer s H E).nox (defBody s_worst_of_few) (lS K (w_worst_of_few)) :=
  (ss_cons (s_par3 (i := 4) (j := 5) (l := 6) rfl sc_worst_of_few.nd rfl rfl rfl (by decide) (by decide) (by decide) rfl rfl rfl (a_cons (d_call (ok_ground_of T) (hr.mono (by decide)) rfl T.g_ground_of T.F_ground_of.kp T.b_ground_of (a_cons (d_v 2) a_nil)) (a_cons d_int (a_cons d_int a_nil))) rfl)
      (ss_cons (s_for PassesOwn.never rfl (i_rng2 rfl T.m_range (d_v 0) (d_op o_add (d_v 1) d_int)) (pg_name (i := 7) sc_worst_of_few.nd rfl (by first | exact Or.inl rfl | exact Or.inr rfl)) tg_n (ss_cons (s_set (i := 8) sc_worst_of_few.nd rfl (by first | exact Or.inl rfl | exact Or.inr rfl) (d_call (ok_border_by T) (hr.mono (by decide)) rfl T.g_border_by T.F_border_by.kp T.b_border_by (a_cons (d_op o_mul (d_v 7) (d_v 4)) (a_cons (d_v 3) a_nil))))
      (ss_one (s_if (PW.pt (t_or (t_cmp o_eq (d_v 5) d_int) (t_or1 (t_cmp o_lt (d_call (ok_room_order T) (hr.mono (by decide)) rfl T.g_room_order T.F_room_order.kp T.b_room_order (a_cons (d_v 8) (a_cons (d_op o_mul (d_v 7) (d_v 4)) (a_cons (d_v 6) (a_cons (d_op o_mul (d_v 5) (d_v 4)) a_nil))))) d_int)))) (ss_one (s_par (i := 5) (j := 6) rfl sc_worst_of_few.nd rfl rfl (by decide) rfl rfl (a_cons (d_v 7) (a_cons (d_v 8) a_nil)) rfl)) ss_nil))))
      (ss_one (s_ret (d_v 5)))))
theorem ok_worst_of_few (T : Tx K mg) : FnOk P w K mg base CX0 4 T.a_worst_of_few T.d_worst_of_few ["least", "most", "p", "side"] (lF K S_worst_of_few) :=
  d_def T.F_worst_of_few sc_worst_of_few (t_worst_of_few T) h_worst_of_few

theorem ok_worst_of_many (T : Tx K mg) : FnOk P w K mg base CX0 1 T.a_worst_of_many T.d_worst_of_many ["most", "p", "side"] (lF K S_worst_of_many) := fn_never fun _ _ _ h => h

theorem t_worst_up_to (T : Tx K mg) (cdv : Value) (A : Around) (outer : List PySem.Env) (s : Shared) (H : Hp) (E : XK) (hr : Room (4) (A.deeper (envOfC "worst_up_to" (defScope s_worst_up_to) s.heap.objs.size T.a_worst_up_to cdv))) : PSs (cxOf CX0 P w K mg base n_worst_up_to "worst_up_to" (defScope s_worst_up_to) T.a_worst_up_to cdv A outer s H E).nox (defBody s_worst_up_to) (lS K (w_worst_up_to)) :=
  (ss_one (s_ret (d_if (t_cmp o_lt (d_v 0) (d_gc (.int 10000) rfl T.c_FEW fun _ _ _ => rfl)) (d_call (ok_worst_of_few T) (hr.mono (by decide)) rfl T.g_worst_of_few T.F_worst_of_few.kp T.b_worst_of_few (a_cons d_int (a_cons (d_v 0) (a_cons (d_v 1) (a_cons (d_v 2) a_nil))))) (d_call (ok_worst_of_many T) (hr.mono (by decide)) rfl T.g_worst_of_many T.F_worst_of_many.kp T.b_worst_of_many (a_cons (d_v 0) (a_cons (d_v 1) (a_cons (d_v 2) a_nil)))))))
theorem ok_worst_up_to (T : Tx K mg) : FnOk P w K mg base CX0 5 T.a_worst_up_to T.d_worst_up_to ["most", "p", "side"] (lF K S_worst_up_to) :=
  d_def T.F_worst_up_to sc_worst_up_to (t_worst_up_to T) h_worst_up_to

theorem t_most_figured (T : Tx K mg) (cdv : Value) (A : Around) (outer : List PySem.Env) (s : Shared) (H : Hp) (E : XK) (hr : Room (1) (A.deeper (envOfC "most_figured" (defScope s_most_figured) s.heap.objs.size T.a_most_figured cdv))) : PSs (cxOf CX0 P w K mg base n_most_figured "most_figured" (defScope s_most_figured) T.a_most_figured cdv A outer s H E).nox (defBody s_most_figured) (lS K (w_most_figured)) :=
  (ss_one (s_ret (d_op o_sub (d_ix (d_call (ok_tens T) (hr.mono (by decide)) rfl T.g_tens T.F_tens.kp T.b_tens (a_cons (d_v 0) a_nil)) d_int) d_int)))
theorem ok_most_figured (T : Tx K mg) : FnOk P w K mg base CX0 2 T.a_most_figured T.d_most_figured ["a"] (lF K S_most_figured) :=
  d_def T.F_most_figured sc_most_figured (t_most_figured T) h_most_figured

theorem t_worst_root (T : Tx K mg) (cdv : Value) (A : Around) (outer : List PySem.Env) (s : Shared) (H : Hp) (E : XK) (hr : Room (5) (A.deeper (envOfC "worst_root" (defScope s_worst_root) s.heap.objs.size T.a_worst_root cdv))) : PSs (cxOf CX0 P w K mg base n_worst_root "worst_root" (defScope s_worst_root) T.a_worst_root cdv A outer s H E).nox (defBody s_worst_root) (lS K (w_worst_root)) :=
  (ss_one (s_ret (d_call (ok_worst_up_to T) (hr.mono (by decide)) rfl T.g_worst_up_to T.F_worst_up_to.kp T.b_worst_up_to (a_cons (d_call (ok_most_figured T) (hr.mono (by decide)) rfl T.g_most_figured T.F_most_figured.kp T.b_most_figured (a_cons (d_v 0) a_nil)) (a_cons (d_v 1) (a_cons (d_v 2) a_nil))))))
theorem ok_worst_root (T : Tx K mg) : FnOk P w K mg base CX0 6 T.a_worst_root T.d_worst_root ["a", "p", "side"] (lF K S_worst_root) :=
  d_def T.F_worst_root sc_worst_root (t_worst_root T) h_worst_root

theorem t_is_enough (T : Tx K mg) (cdv : Value) (A : Around) (outer : List PySem.Env) (s : Shared) (H : Hp) (E : XK) (hr : Room (3) (A.deeper (envOfC "is_enough" (defScope s_is_enough) s.heap.objs.size T.a_is_enough cdv))) : PSs (cxOf CX0 P w K mg base n_is_enough "is_enough" (defScope s_is_enough) T.a_is_enough cdv A outer s H E).nox (defBody s_is_enough) (lS K (w_is_enough)) :=
  (ss_cons (s_if (t_cmp o_lt (d_v 3) (d_v 1)) (ss_one (s_ret d_bl)) ss_nil)
      (ss_cons (s_par (i := 4) (j := 5) rfl sc_is_enough.nd rfl rfl (by decide) rfl rfl (a_cons (d_op o_mul (d_v 0) (d_call (ok_ground_of T) (hr.mono (by decide)) rfl T.g_ground_of T.F_ground_of.kp T.b_ground_of (a_cons (d_v 1) a_nil))) (a_cons (d_ix (d_call (ok_tens T) (hr.mono (by decide)) rfl T.g_tens T.F_tens.kp T.b_tens (a_cons (d_op o_sub (d_v 3) (d_v 1)) a_nil)) d_int) a_nil)) rfl)
      (ss_cons (s_set (i := 6) sc_is_enough.nd rfl (by first | exact Or.inl rfl | exact Or.inr rfl) (d_call (ok_border_by T) (hr.mono (by decide)) rfl T.g_border_by T.F_border_by.kp T.b_border_by (a_cons (d_v 4) (a_cons d_str a_nil))))
      (ss_cons (s_if (PW.pt (t_and (t_cmp o_ne (d_v 2) d_str) (t_and1 (t_cmp o_gt (d_op o_mul (d_op o_add (d_op o_mul (d_v 6) (d_v 5)) d_int) (d_op o_add (d_op o_mul (d_v 6) (d_v 5)) d_int)) (d_op o_mul (d_op o_mul (d_v 4) (d_v 5)) (d_v 5)))))) (ss_one (s_ret d_bl)) ss_nil)
      (ss_cons (s_set (i := 6) sc_is_enough.nd rfl (by first | exact Or.inl rfl | exact Or.inr rfl) (d_op o_add (d_v 6) d_int))
      (ss_one (s_ret (d_or (d_cmp o_eq (d_v 2) d_str) (d_one (d_cmp o_lt (d_op o_mul (d_op o_mul (d_v 4) (d_v 5)) (d_v 5)) (d_op o_mul (d_op o_sub (d_op o_mul (d_v 6) (d_v 5)) d_int) (d_op o_sub (d_op o_mul (d_v 6) (d_v 5)) d_int))))))))))))
theorem ok_is_enough (T : Tx K mg) : FnOk P w K mg base CX0 4 T.a_is_enough T.d_is_enough ["N", "p", "side", "w"] (lF K S_is_enough) :=
  d_def T.F_is_enough sc_is_enough (t_is_enough T) h_is_enough

theorem t_least_for_side (T : Tx K mg) (cdv : Value) (A : Around) (outer : List PySem.Env) (s : Shared) (H : Hp) (E : XK) (hr : Room (6) (A.deeper (envOfC "least_for_side" (defScope s_least_for_side) s.heap.objs.size T.a_least_for_side cdv))) : PSs (cxOf CX0 P w K mg base n_least_for_side "least_for_side" (defScope s_least_for_side) T.a_least_for_side cdv A outer s H E).nox (defBody s_least_for_side) (lS K (w_least_for_side)) :=
  (ss_cons (s_par (i := 3) (j := 4) rfl sc_least_for_side.nd rfl rfl (by decide) rfl rfl (a_cons (d_call (ok_worst_root T) (hr.mono (by decide)) rfl T.g_worst_root T.F_worst_root.kp T.b_worst_root (a_cons (d_v 0) (a_cons (d_v 1) (a_cons (d_if (t_cmp o_eq (d_v 2) d_str) d_str d_str) a_nil)))) (a_cons (d_v 1) a_nil)) rfl)
      (ss_cons (s_while PassesOwn.never (t_not (t_tru (d_call (ok_is_enough T) (hr.mono (by decide)) rfl T.g_is_enough T.F_is_enough.kp T.b_is_enough (a_cons (d_v 3) (a_cons (d_v 1) (a_cons (d_v 2) (a_cons (d_v 4) a_nil))))))) (ss_one (s_aug (i := 4) sc_least_for_side.nd rfl (by first | exact Or.inl rfl | exact Or.inr rfl) d_int i_add)))
      (ss_one (s_ret (d_v 4)))))
theorem ok_least_for_side (T : Tx K mg) : FnOk P w K mg base CX0 7 T.a_least_for_side T.d_least_for_side ["a", "p", "side"] (lF K S_least_for_side) :=
  d_def T.F_least_for_side sc_least_for_side (t_least_for_side T) h_least_for_side

theorem t_least_for_roots (T : Tx K mg) (cdv : Value) (A : Around) (outer : List PySem.Env) (s : Shared) (H : Hp) (E : XK) (hr : Room (7) (A.deeper (envOfC "least_for_roots" (defScope s_least_for_roots) s.heap.objs.size T.a_least_for_roots cdv))) : PSs (cxOf CX0 P w K mg base n_least_for_roots "least_for_roots" (defScope s_least_for_roots) T.a_least_for_roots cdv A outer s H E).nox (defBody s_least_for_roots) (lS K (w_least_for_roots)) :=
  (ss_cons (s_if (t_cmp o_eq (d_v 2) d_str) (ss_one (s_ret (d_b (c_max2 rfl) rfl T.m_max (by decide +kernel) (a_cons (d_call (ok_least_for_side T) (hr.mono (by decide)) rfl T.g_least_for_side T.F_least_for_side.kp T.b_least_for_side (a_cons (d_v 0) (a_cons (d_v 1) (a_cons d_str a_nil)))) (a_cons (d_call (ok_least_for_side T) (hr.mono (by decide)) rfl T.g_least_for_side T.F_least_for_side.kp T.b_least_for_side (a_cons (d_v 0) (a_cons (d_v 1) (a_cons d_str a_nil)))) a_nil))))) ss_nil)
      (ss_one (s_ret (d_call (ok_least_for_side T) (hr.mono (by decide)) rfl T.g_least_for_side T.F_least_for_side.kp T.b_least_for_side (a_cons (d_v 0) (a_cons (d_v 1) (a_cons (d_v 2) a_nil)))))))
theorem ok_least_for_roots (T : Tx K mg) : FnOk P w K mg base CX0 8 T.a_least_for_roots T.d_least_for_roots ["a", "p", "side"] (lF K S_least_for_roots) :=
  d_def T.F_least_for_roots sc_least_for_roots (t_least_for_roots T) h_least_for_roots

theorem t_judge_for_roots (T : Tx K mg) (cdv : Value) (A : Around) (outer : List PySem.Env) (s : Shared) (H : Hp) (E : XK) (hr : Room (4) (A.deeper (envOfC "judge_for_roots" (defScope s_judge_for_roots) s.heap.objs.size T.a_judge_for_roots cdv))) : PSs (cxOf CX0 P w K mg base n_judge_for_roots "judge_for_roots" (defScope s_judge_for_roots) T.a_judge_for_roots cdv A outer s H E).nox (defBody s_judge_for_roots) (lS K (w_judge_for_roots)) :=
  (ss_one (s_ret (d_and (d_call (ok_is_from_to T) (hr.mono (by decide)) rfl T.g_is_from_to T.F_is_from_to.kp T.b_is_from_to (a_cons (d_v 4) (a_cons d_int (a_cons (d_call (ok_most_figured T) (hr.mono (by decide)) rfl T.g_most_figured T.F_most_figured.kp T.b_most_figured (a_cons (d_v 0) a_nil)) a_nil)))) (d_one (d_not (d_call (ok_is_enough T) (hr.mono (by decide)) rfl T.g_is_enough T.F_is_enough.kp T.b_is_enough (a_cons (d_v 4) (a_cons (d_v 1) (a_cons (d_v 2) (a_cons (d_v 3) a_nil))))))))))
theorem ok_judge_for_roots (T : Tx K mg) : FnOk P w K mg base CX0 5 T.a_judge_for_roots T.d_judge_for_roots ["a", "p", "side", "w", "value"] (lF K S_judge_for_roots) :=
  d_def T.F_judge_for_roots sc_judge_for_roots (t_judge_for_roots T) h_judge_for_roots

theorem t_L_flow (T : Tx K mg) (cdv : Value) (A : Around) (outer : List PySem.Env) (s : Shared) (H : Hp) (E : XK) (hr : Room (0) (A.deeper (envOfC "_law_flow" (defScope s_L_flow) s.heap.objs.size T.a_L_flow cdv))) : PSs (cxOf CX0 P w K mg base n_L_flow "_law_flow" (defScope s_L_flow) T.a_L_flow cdv A outer s H E).nox (defBody s_L_flow) (lS K (w_L_flow)) :=
  (ss_one (s_ret (d_new (a_cons d_int (a_cons d_int (a_cons d_int (a_cons d_int (a_cons (d_lc (own := [("cell", 1)]) rfl sc_L_flow.nd (i_seq (d_sl (d_v 0) p_none (p_some d_int))) (blkOk_by (own := [("cell", 1)]) (N := n_L_flow) (sc := defScope s_L_flow) (by decide +kernel)) (fun _ _ _ _ _ => (pg_name (i := 1) sc_L_flow.nd rfl (by first | exact Or.inl rfl | exact Or.inr rfl))) tg_n (only_n (by decide)) mon_n (fun _ _ _ _ _ => ts_nil) (fun _ _ _ _ _ => (d_b c_abs rfl T.m_abs (by decide +kernel) (a_cons (d_ty c_int rfl T.m_int (by decide +kernel) (a_cons (d_v 1) a_nil)) a_nil)))) a_nil))))))))
theorem ok_L_flow (T : Tx K mg) : FnOk P w K mg base CX0 1 T.a_L_flow T.d_L_flow ["script"] (lF K S_L_flow) :=
  d_defK T.F_L_flow sc_L_flow (t_L_flow T) h_L_flow

theorem t_L_draw (T : Tx K mg) (cdv : Value) (A : Around) (outer : List PySem.Env) (s : Shared) (H : Hp) (E : XK) (hr : Room (0) (A.deeper (envOfC "_law_draw" (defScope s_L_draw) s.heap.objs.size T.a_L_draw cdv))) : PSs (cxOf CX0 P w K mg base n_L_draw "_law_draw" (defScope s_L_draw) T.a_L_draw cdv A outer s H E).nox (defBody s_L_draw) (lS K (w_L_draw)) :=
  (ss_cons (s_put (d_op o_add (d_ix (d_v 0) d_int) d_int) (d_v 0) d_int)
      (ss_cons (s_if (PW.pt (t_and (t_cmp o_eq (d_ix (d_v 0) d_int) d_int) (t_and (t_cmp o_lt (d_ix (d_v 0) d_int) (d_b c_len rfl T.m_len (by decide +kernel) (a_cons (d_ix (d_v 0) d_int) a_nil))) (t_and1 (t_cmp o_ge (d_ix (d_ix (d_v 0) d_int) (d_ix (d_v 0) d_int)) (d_op o_pow d_int d_int)))))) (ss_cons (s_put (d_ix (d_ix (d_v 0) d_int) (d_ix (d_v 0) d_int)) (d_v 0) d_int)
      (ss_cons (s_put d_int (d_v 0) d_int)
      (ss_one (s_put (d_op o_add (d_ix (d_v 0) d_int) d_int) (d_v 0) d_int)))) ss_nil)
      (ss_cons (s_if (t_cmp o_gt (d_ix (d_v 0) d_int) d_int) (ss_cons (s_set (i := 2) sc_L_draw.nd rfl (by first | exact Or.inl rfl | exact Or.inr rfl) (d_op o_mod (d_ty c_int rfl T.m_int (by decide +kernel) (a_cons (d_ix (d_v 0) d_int) a_nil)) (d_v 1)))
      (ss_cons (s_put (d_op o_div (d_ix (d_v 0) d_int) (d_v 1)) (d_v 0) d_int)
      (ss_cons (s_put (d_op o_mul (d_op o_sub (d_ix (d_v 0) d_int) d_int) (d_ty c_int rfl T.m_int (by decide +kernel) (a_cons (d_cmp o_gt (d_ix (d_v 0) d_int) d_int) a_nil))) (d_v 0) d_int)
      (ss_one (s_ret (d_v 2)))))) ss_nil)
      (ss_cons (s_set (i := 3) sc_L_draw.nd rfl (by first | exact Or.inl rfl | exact Or.inr rfl) d_int)
      (ss_cons (s_if (t_cmp o_gt (d_b c_len rfl T.m_len (by decide +kernel) (a_cons (d_ix (d_v 0) d_int) a_nil)) d_int) (ss_cons (s_set (i := 3) sc_L_draw.nd rfl (by first | exact Or.inl rfl | exact Or.inr rfl) (d_ix (d_ix (d_v 0) d_int) (d_op o_mod (d_ty c_int rfl T.m_int (by decide +kernel) (a_cons (d_ix (d_v 0) d_int) a_nil)) (d_b c_len rfl T.m_len (by decide +kernel) (a_cons (d_ix (d_v 0) d_int) a_nil)))))
      (ss_one (s_put (d_op o_add (d_ix (d_v 0) d_int) d_int) (d_v 0) d_int))) ss_nil)
      (ss_cons (s_set (i := 4) sc_L_draw.nd rfl (by first | exact Or.inl rfl | exact Or.inr rfl) (d_op o_mod (d_ty c_int rfl T.m_int (by decide +kernel) (a_cons (d_op o_add (d_op o_mul (d_v 3) d_int) (d_op o_mul (d_ix (d_v 0) d_int) d_int)) a_nil)) d_int))
      (ss_cons (s_set (i := 5) sc_L_draw.nd rfl (by first | exact Or.inl rfl | exact Or.inr rfl) (d_op o_mod (d_ty c_int rfl T.m_int (by decide +kernel) (a_cons (d_op o_add (d_op o_mul (d_v 4) (d_v 4)) (d_op o_mul (d_ix (d_v 0) d_int) d_int)) a_nil)) d_int))
      (ss_one (s_ret (d_op o_mod (d_ty c_int rfl T.m_int (by decide +kernel) (a_cons (d_op o_mod (d_ty c_int rfl T.m_int (by decide +kernel) (a_cons (d_op o_add (d_op o_mul (d_v 5) (d_v 5)) (d_v 4)) a_nil)) d_int) a_nil)) (d_v 1)))))))))))
theorem ok_L_draw (T : Tx K mg) : FnOk P w K mg base CX0 1 T.a_L_draw T.d_L_draw ["flow", "many"] (lF K S_L_draw) :=
  d_def T.F_L_draw sc_L_draw (t_L_draw T) h_L_draw

theorem t_L_pick (T : Tx K mg) (cdv : Value) (A : Around) (outer : List PySem.Env) (s : Shared) (H : Hp) (E : XK) (hr : Room (1) (A.deeper (envOfC "_law_pick" (defScope s_L_pick) s.heap.objs.size T.a_L_pick cdv))) : PSs (cxOf CX0 P w K mg base n_L_pick "_law_pick" (defScope s_L_pick) T.a_L_pick cdv A outer s H E).nox (defBody s_L_pick) (lS K (w_L_pick)) :=
  (ss_one (s_ret (d_ix (d_v 1) (d_call (ok_L_draw T) (hr.mono (by decide)) rfl T.g_L_draw T.F_L_draw.kp T.b_L_draw (a_cons (d_v 0) (a_cons (d_b c_len rfl T.m_len (by decide +kernel) (a_cons (d_v 1) a_nil)) a_nil))))))
theorem ok_L_pick (T : Tx K mg) : FnOk P w K mg base CX0 2 T.a_L_pick T.d_L_pick ["flow", "things"] (lF K S_L_pick) :=
  d_def T.F_L_pick sc_L_pick (t_L_pick T) h_L_pick

theorem t_L_is_whole (T : Tx K mg) (cdv : Value) (A : Around) (outer : List PySem.Env) (s : Shared) (H : Hp) (E : XK) (hr : Room (0) (A.deeper (envOfC "_law_is_whole" (defScope s_L_is_whole) s.heap.objs.size T.a_L_is_whole cdv))) : PSs (cxOf CX0 P w K mg base n_L_is_whole "_law_is_whole" (defScope s_L_is_whole) T.a_L_is_whole cdv A outer s H E).nox (defBody s_L_is_whole) (lS K (w_L_is_whole)) :=
  (ss_one (s_ret (d_and (d_isi (d_v 0) rfl T.m_isinstance rfl T.m_int (by decide +kernel)) (d_one (d_not (d_isi (d_v 0) rfl T.m_isinstance rfl T.m_bool (by decide +kernel)))))))
theorem ok_L_is_whole (T : Tx K mg) : FnOk P w K mg base CX0 1 T.a_L_is_whole T.d_L_is_whole ["value"] (lF K S_L_is_whole) :=
  d_def T.F_L_is_whole sc_L_is_whole (t_L_is_whole T) h_L_is_whole

theorem t_L_same (T : Tx K mg) {Sr : WF} {k : Nat} (ih : FnOk P w K mg base CX0 k T.a_L_same T.d_L_same ["found", "due"] (lF K Sr)) (cdv : Value) (A : Around) (outer : List PySem.Env) (s : Shared) (H : Hp) (E : XK) (hr : Room (k) (A.deeper (envOfC "_law_same" (defScope s_L_same) s.heap.objs.size T.a_L_same cdv))) (hk : 1 ≤ k) : PSs (cxOf CX0 P w K mg base n_L_same "_law_same" (defScope s_L_same) T.a_L_same cdv A outer s H E).nox (defBody s_L_same) (lS K (w_L_same Sr)) :=
  (ss_cons (s_if (PW.pt (t_or (t_tru (d_isi (d_v 1) rfl T.m_isinstance rfl T.m_bool (by decide +kernel))) (t_or1 (t_cmp o_isN (d_v 1) d_non)))) (ss_one (s_ret (d_if (t_tru (d_isi (d_v 1) rfl T.m_isinstance rfl T.m_bool (by decide +kernel))) (d_and (d_isi (d_v 0) rfl T.m_isinstance rfl T.m_bool (by decide +kernel)) (d_one (d_cmp o_eq (d_v 0) (d_v 1)))) (d_cmp o_isN (d_v 0) d_non)))) ss_nil)
      (ss_cons (s_if (t_tru (d_isi (d_v 1) rfl T.m_isinstance rfl T.m_int (by decide +kernel))) (ss_one (s_ret (d_and (d_call (ok_L_is_whole T) (hr.mono (by omega)) rfl T.g_L_is_whole T.F_L_is_whole.kp T.b_L_is_whole (a_cons (d_v 0) a_nil)) (d_one (d_cmp o_eq (d_v 0) (d_v 1)))))) ss_nil)
      (ss_cons (s_if (PW.pt (t_or (t_not (t_tru (d_isi (d_v 0) rfl T.m_isinstance rfl T.m_tuple (by decide +kernel)))) (t_or1 (t_cmp o_ne (d_b c_len rfl T.m_len (by decide +kernel) (a_cons (d_v 0) a_nil)) (d_b c_len rfl T.m_len (by decide +kernel) (a_cons (d_v 1) a_nil)))))) (ss_one (s_ret d_bl)) ss_nil)
      (ss_one (s_ret (d_cmp o_eq (d_b c_len rfl T.m_len (by decide +kernel) (a_cons (d_lc (own := [("k", 2)]) rfl sc_L_same.nd (i_rng1 rfl T.m_range (d_b c_len rfl T.m_len (by decide +kernel) (a_cons (d_v 1) a_nil))) (blkOk_by (own := [("k", 2)]) (N := n_L_same) (sc := defScope s_L_same) (by decide +kernel)) (fun _ _ _ _ _ => (pg_name (i := 2) sc_L_same.nd rfl (by first | exact Or.inl rfl | exact Or.inr rfl))) tg_n (only_n (by decide)) mon_n (fun _ _ _ _ _ => (ts_one (t_not (t_tru (d_call ih (hr.mono (by omega)) rfl T.g_L_same T.F_L_same.kp T.b_L_same (a_cons (d_ix (d_v 0) (d_v 2)) (a_cons (d_ix (d_v 1) (d_v 2)) a_nil))))))) (fun _ _ _ _ _ => (d_v 2))) a_nil)) d_int))))))
theorem ok_L_same (T : Tx K mg) (m : Nat) : FnOk P w K mg base CX0 (2 + m) T.a_L_same T.d_L_same ["found", "due"] (lF K (S_L_same m)) := by
  induction m with
  | zero => exact fn_never z_L_same
  | succ m ih => exact d_def T.F_L_same sc_L_same (fun cdv A outer s H E hr => t_L_same T ih cdv A outer s H E hr (by omega)) (h_L_same m)

theorem t_L_ten (T : Tx K mg) (cdv : Value) (A : Around) (outer : List PySem.Env) (s : Shared) (H : Hp) (E : XK) (hr : Room (0) (A.deeper (envOfC "_law_ten" (defScope s_L_ten) s.heap.objs.size T.a_L_ten cdv))) : PSs (cxOf CX0 P w K mg base n_L_ten "_law_ten" (defScope s_L_ten) T.a_L_ten cdv A outer s H E).nox (defBody s_L_ten) (lS K (w_L_ten)) :=
  (ss_cons (s_set (i := 1) sc_L_ten.nd rfl (by first | exact Or.inl rfl | exact Or.inr rfl) d_int)
      (ss_cons (s_for PassesOwn.never rfl (i_rng1 rfl T.m_range (d_v 0)) (pg_name (i := 2) sc_L_ten.nd rfl (by first | exact Or.inl rfl | exact Or.inr rfl)) tg_n (ss_one (s_set (i := 1) sc_L_ten.nd rfl (by first | exact Or.inl rfl | exact Or.inr rfl) (d_op o_mul d_int (d_v 1)))))
      (ss_one (s_ret (d_v 1)))))
theorem ok_L_ten (T : Tx K mg) : FnOk P w K mg base CX0 1 T.a_L_ten T.d_L_ten ["k"] (lF K S_L_ten) :=
  d_def T.F_L_ten sc_L_ten (t_L_ten T) h_L_ten

theorem t_L_floor_root (T : Tx K mg) (hdg : base.NoDigits) (cdv : Value) (A : Around) (outer : List PySem.Env) (s : Shared) (H : Hp) (E : XK) (hr : Room (1) (A.deeper (envOfC "_law_floor_root" (defScope s_L_floor_root) s.heap.objs.size T.a_L_floor_root cdv))) : PSs (cxOf CX0 P w K mg base n_L_floor_root "_law_floor_root" (defScope s_L_floor_root) T.a_L_floor_root cdv A outer s H E).nox (defBody s_L_floor_root) (lS K (w_L_floor_root)) :=
  (ss_cons (s_if (t_cmp o_lt (d_v 0) d_int) (ss_one (s_ret (d_v 0))) ss_nil)
      (ss_cons (s_set (i := 1) sc_L_floor_root.nd rfl (by first | exact Or.inl rfl | exact Or.inr rfl) (d_call (ok_L_ten T) (hr.mono (by decide)) rfl T.g_L_ten T.F_L_ten.kp T.b_L_ten (a_cons (d_op o_add (d_op o_div (d_b c_len rfl T.m_len (by decide +kernel) (a_cons (d_ty (c_str rfl hdg) rfl T.m_str (by decide +kernel) (a_cons (d_v 0) a_nil)) a_nil)) d_int) d_int) a_nil)))
      (ss_cons (s_for PassesOwn.never rfl (i_rng1 rfl T.m_range d_int) (pg_name (i := 2) sc_L_floor_root.nd rfl (by first | exact Or.inl rfl | exact Or.inr rfl)) tg_n (ss_cons (s_set (i := 3) sc_L_floor_root.nd rfl (by first | exact Or.inl rfl | exact Or.inr rfl) (d_op o_div (d_op o_add (d_v 1) (d_op o_div (d_v 0) (d_v 1))) d_int))
      (ss_cons (s_if (t_cmp o_ge (d_v 3) (d_v 1)) (ss_one (s_ret (d_v 1))) ss_nil)
      (ss_one (s_set (i := 1) sc_L_floor_root.nd rfl (by first | exact Or.inl rfl | exact Or.inr rfl) (d_v 3))))))
      (ss_one (s_ret (d_v 1))))))
theorem ok_L_floor_root (T : Tx K mg) (hdg : base.NoDigits) : FnOk P w K mg base CX0 2 T.a_L_floor_root T.d_L_floor_root ["n"] (lF K S_L_floor_root) :=
  d_def T.F_L_floor_root sc_L_floor_root (t_L_floor_root T hdg) h_L_floor_root

theorem t_L_root_wrong (T : Tx K mg) (hdg : base.NoDigits) (cdv : Value) (A : Around) (outer : List PySem.Env) (s : Shared) (H : Hp) (E : XK) (hr : Room (2) (A.deeper (envOfC "_law_root_wrong" (defScope s_L_root_wrong) s.heap.objs.size T.a_L_root_wrong cdv))) : PSs (cxOf CX0 P w K mg base n_L_root_wrong "_law_root_wrong" (defScope s_L_root_wrong) T.a_L_root_wrong cdv A outer s H E).nox (defBody s_L_root_wrong) (lS K (w_L_root_wrong)) :=
  (ss_cons (s_if (t_cmp o_lt (d_v 2) (d_v 1)) (ss_one (s_ret d_bl)) ss_nil)
      (ss_cons (s_set (i := 4) sc_L_root_wrong.nd rfl (by first | exact Or.inl rfl | exact Or.inr rfl) (d_call (ok_L_ten T) (hr.mono (by decide)) rfl T.g_L_ten T.F_L_ten.kp T.b_L_ten (a_cons (d_op o_sub (d_v 2) (d_v 1)) a_nil)))
      (ss_cons (s_set (i := 5) sc_L_root_wrong.nd rfl (by first | exact Or.inl rfl | exact Or.inr rfl) (d_op o_mul (d_op o_mul d_int (d_v 0)) (d_call (ok_L_ten T) (hr.mono (by decide)) rfl T.g_L_ten T.F_L_ten.kp T.b_L_ten (a_cons (d_op o_mul d_int (d_v 1)) a_nil))))
      (ss_cons (s_set (i := 6) sc_L_root_wrong.nd rfl (by first | exact Or.inl rfl | exact Or.inr rfl) (d_call (ok_L_floor_root T hdg) (hr.mono (by decide)) rfl T.g_L_floor_root T.F_L_floor_root.kp T.b_L_floor_root (a_cons (d_v 5) a_nil)))
      (ss_cons (s_set (i := 7) sc_L_root_wrong.nd rfl (by first | exact Or.inl rfl | exact Or.inr rfl) (d_if (t_cmp o_eq (d_op o_mod (d_ty c_int rfl T.m_int (by decide +kernel) (a_cons (d_v 6) a_nil)) d_int) d_int) (d_v 6) (d_op o_sub (d_v 6) d_int)))
      (ss_cons (s_par (i := 8) (j := 9) rfl sc_L_root_wrong.nd rfl rfl (by decide) rfl rfl (a_cons (d_op o_sub (d_op o_mul (d_op o_add (d_v 7) d_int) (d_v 4)) d_int) (a_cons (d_op o_add (d_op o_mul (d_v 7) (d_v 4)) d_int) a_nil)) rfl)
      (ss_cons (s_set (i := 10) sc_L_root_wrong.nd rfl (by first | exact Or.inl rfl | exact Or.inr rfl) (d_or (d_cmp o_le (d_v 8) d_int) (d_one (d_cmp o_ge (d_op o_mul (d_op o_mul (d_v 5) (d_v 4)) (d_v 4)) (d_op o_mul (d_v 8) (d_v 8))))))
      (ss_cons (s_set (i := 11) sc_L_root_wrong.nd rfl (by first | exact Or.inl rfl | exact Or.inr rfl) (d_cmp o_lt (d_op o_mul (d_op o_mul (d_v 5) (d_v 4)) (d_v 4)) (d_op o_mul (d_v 9) (d_v 9))))
      (ss_one (s_ret (d_or (d_and (d_cmp o_ne (d_v 3) d_str) (d_one (d_v 10))) (d_one (d_and (d_cmp o_ne (d_v 3) d_str) (d_one (d_v 11)))))))))))))))
theorem ok_L_root_wrong (T : Tx K mg) (hdg : base.NoDigits) : FnOk P w K mg base CX0 3 T.a_L_root_wrong T.d_L_root_wrong ["n", "p", "w", "side"] (lF K S_L_root_wrong) :=
  d_def T.F_L_root_wrong sc_L_root_wrong (t_L_root_wrong T hdg) h_L_root_wrong

theorem t_L_least_roots (T : Tx K mg) (hdg : base.NoDigits) (cdv : Value) (A : Around) (outer : List PySem.Env) (s : Shared) (H : Hp) (E : XK) (hr : Room (3) (A.deeper (envOfC "_law_least_roots" (defScope s_L_least_roots) s.heap.objs.size T.a_L_least_roots cdv))) : PSs (cxOf CX0 P w K mg base n_L_least_roots "_law_least_roots" (defScope s_L_least_roots) T.a_L_least_roots cdv A outer s H E).nox (defBody s_L_least_roots) (lS K (w_L_least_roots)) :=
  (ss_cons (s_for PassesOwn.never rfl (i_rng2 rfl T.m_range (d_v 1) (d_op o_add (d_v 1) d_int)) (pg_name (i := 3) sc_L_least_roots.nd rfl (by first | exact Or.inl rfl | exact Or.inr rfl)) tg_n (ss_cons (s_set (i := 4) sc_L_least_roots.nd rfl (by first | exact Or.inl rfl | exact Or.inr rfl) d_bl)
      (ss_cons (s_for PassesOwn.never rfl (i_rng2 rfl T.m_range d_int (d_call (ok_L_ten T) (hr.mono (by decide)) rfl T.g_L_ten T.F_L_ten.kp T.b_L_ten (a_cons (d_v 0) a_nil))) (pg_name (i := 5) sc_L_least_roots.nd rfl (by first | exact Or.inl rfl | exact Or.inr rfl)) tg_n (ss_one (s_if (t_tru (d_call (ok_L_root_wrong T hdg) (hr.mono (by decide)) rfl T.g_L_root_wrong T.F_L_root_wrong.kp T.b_L_root_wrong (a_cons (d_v 5) (a_cons (d_v 1) (a_cons (d_v 3) (a_cons (d_v 2) a_nil)))))) (ss_cons (s_set (i := 4) sc_L_least_roots.nd rfl (by first | exact Or.inl rfl | exact Or.inr rfl) d_bl)
      (ss_one s_break)) ss_nil)))
      (ss_one (s_if (t_not (t_tru (d_v 4))) (ss_one (s_ret (d_v 3))) ss_nil)))))
      (ss_one (s_ret d_non)))
theorem ok_L_least_roots (T : Tx K mg) (hdg : base.NoDigits) : FnOk P w K mg base CX0 4 T.a_L_least_roots T.d_L_least_roots ["a", "p", "side"] (lF K S_L_least_roots) :=
  d_def T.F_L_least_roots sc_L_least_roots (t_L_least_roots T hdg) h_L_least_roots

theorem t_L_value (T : Tx K mg) (hdg : base.NoDigits) (cdv : Value) (A : Around) (outer : List PySem.Env) (s : Shared) (H : Hp) (E : XK) (hr : Room (2) (A.deeper (envOfC "_law_value" (defScope s_L_value) s.heap.objs.size T.a_L_value cdv))) : PSs (cxOf CX0 P w K mg base n_L_value "_law_value" (defScope s_L_value) T.a_L_value cdv A outer s H E).nox (defBody s_L_value) (lS K (w_L_value)) :=
  (ss_cons (s_set (i := 2) sc_L_value.nd rfl (by first | exact Or.inl rfl | exact Or.inr rfl) d_int)
      (ss_cons (s_for PassesOwn.never rfl (i_rng1 rfl T.m_range (d_v 1)) (pg_name (i := 3) sc_L_value.nd rfl (by first | exact Or.inl rfl | exact Or.inr rfl)) tg_n (ss_one (s_set (i := 2) sc_L_value.nd rfl (by first | exact Or.inl rfl | exact Or.inr rfl) (d_op o_add (d_op o_mul d_int (d_v 2)) (d_call (ok_L_draw T) (hr.mono (by decide)) rfl T.g_L_draw T.F_L_draw.kp T.b_L_draw (a_cons (d_v 0) (a_cons d_int a_nil)))))))
      (ss_cons (s_set (i := 4) sc_L_value.nd rfl (by first | exact Or.inl rfl | exact Or.inr rfl) (d_call (ok_L_floor_root T hdg) (hr.mono (by decide)) rfl T.g_L_floor_root T.F_L_floor_root.kp T.b_L_floor_root (a_cons (d_v 2) a_nil)))
      (ss_one (s_ret (d_call (ok_L_pick T) (hr.mono (by decide)) rfl T.g_L_pick T.F_L_pick.kp T.b_L_pick (a_cons (d_v 0) (a_cons (d_lst (a_cons (d_v 2) (a_cons (d_v 2) (a_cons (d_op o_mul (d_v 4) (d_v 4)) (a_cons (d_op o_mul (d_v 4) (d_v 4)) (a_cons (d_op o_add (d_op o_mul (d_v 4) (d_v 4)) d_int) (a_cons (d_op o_sub (d_op o_mul (d_v 4) (d_v 4)) d_int) (a_cons (d_op o_add (d_op o_mul (d_v 4) (d_v 4)) (d_v 4)) (a_cons d_int (a_cons d_int (a_cons (d_call (ok_L_ten T) (hr.mono (by decide)) rfl T.g_L_ten T.F_L_ten.kp T.b_L_ten (a_cons (d_v 1) a_nil)) (a_cons (d_op o_sub (d_call (ok_L_ten T) (hr.mono (by decide)) rfl T.g_L_ten T.F_L_ten.kp T.b_L_ten (a_cons (d_v 1) a_nil)) d_int) (a_cons d_bl (a_cons d_non (a_cons (d_tup (a_cons (d_v 2) a_nil)) (a_cons (d_neg d_int) a_nil)))))))))))))))) a_nil))))))))
theorem ok_L_value (T : Tx K mg) (hdg : base.NoDigits) : FnOk P w K mg base CX0 3 T.a_L_value T.d_L_value ["flow", "a"] (lF K S_L_value) :=
  d_def T.F_L_value sc_L_value (t_L_value T hdg) h_L_value

theorem t_law (T : Tx K mg) (hdg : base.NoDigits) (cdv : Value) (A : Around) (outer : List PySem.Env) (s : Shared) (H : Hp) (E : XK) (hr : Room (8) (A.deeper (envOfC "law" (defScope s_law) s.heap.objs.size T.a_law cdv))) : PSs (cxOf CX0 P w K mg base n_law "law" (defScope s_law) T.a_law cdv A outer s H E).nox (defBody s_law) (lS K (w_law)) :=
  (ss_cons (s_set (i := 1) sc_law.nd rfl (by first | exact Or.inl rfl | exact Or.inr rfl) (d_call (ok_L_flow T) (hr.mono (by decide)) rfl T.g_L_flow T.F_L_flow.kp T.b_L_flow (a_cons (d_v 0) a_nil)))
      (ss_cons (s_for PassesOwn.never rfl (i_rng1 rfl T.m_range d_int) (pg_name (i := 2) sc_law.nd rfl (by first | exact Or.inl rfl | exact Or.inr rfl)) tg_n (ss_cons (s_set (i := 3) sc_law.nd rfl (by first | exact Or.inl rfl | exact Or.inr rfl) (d_call (ok_L_pick T) (hr.mono (by decide)) rfl T.g_L_pick T.F_L_pick.kp T.b_L_pick (a_cons (d_v 1) (a_cons (d_lst (a_cons d_int (a_cons d_int (a_cons d_int (a_cons d_int (a_cons d_int (a_cons d_int a_nil))))))) a_nil))))
      (ss_cons (s_par (i := 4) (j := 5) rfl sc_law.nd rfl rfl (by decide) rfl rfl (a_cons (d_op o_add d_int (d_call (ok_L_draw T) (hr.mono (by decide)) rfl T.g_L_draw T.F_L_draw.kp T.b_L_draw (a_cons (d_v 1) (a_cons (d_op o_add (d_op o_div (d_v 3) d_int) d_int) a_nil)))) (a_cons (d_call (ok_L_pick T) (hr.mono (by decide)) rfl T.g_L_pick T.F_L_pick.kp T.b_L_pick (a_cons (d_v 1) (a_cons (d_lst (a_cons d_str (a_cons d_str (a_cons d_str a_nil)))) a_nil))) a_nil)) rfl)
      (ss_cons (s_set (i := 6) sc_law.nd rfl (by first | exact Or.inl rfl | exact Or.inr rfl) (d_call (ok_L_least_roots T hdg) (hr.mono (by decide)) rfl T.g_L_least_roots T.F_L_least_roots.kp T.b_L_least_roots (a_cons (d_v 3) (a_cons (d_v 4) (a_cons (d_v 5) a_nil)))))
      (ss_cons (s_if (t_not (t_tru (d_call (ok_L_same T 2) (hr.mono (by decide)) rfl T.g_L_same T.F_L_same.kp T.b_L_same (a_cons (d_if (t_cmp o_eq (d_v 2) d_int) (d_call (ok_least_for_roots T) (hr.mono (by decide)) rfl T.g_least_for_roots T.F_least_for_roots.kp T.b_least_for_roots (a_cons (d_v 3) (a_cons (d_v 4) (a_cons (d_v 5) a_nil)))) (d_callk (ok_least_for_roots T) (hr.mono (by decide)) rfl T.g_least_for_roots T.F_least_for_roots.kp (T.kb_least_for_roots_2_1_0) (k_cons (d_v 5) (k_cons (d_v 4) (k_cons (d_v 3) k_nil))))) (a_cons (d_v 6) a_nil))))) (ss_one (s_ret d_bl)) ss_nil)
      (ss_one (s_for PassesOwn.never rfl (i_rng1 rfl T.m_range d_int) (pg_name (i := 7) sc_law.nd rfl (by first | exact Or.inl rfl | exact Or.inr rfl)) tg_n (ss_cons (s_if (t_cmp o_gt (d_v 7) d_int) (ss_cons (s_par (i := 3) (j := 5) rfl sc_law.nd rfl rfl (by decide) rfl rfl (a_cons (d_op o_add d_int (d_call (ok_L_draw T) (hr.mono (by decide)) rfl T.g_L_draw T.F_L_draw.kp T.b_L_draw (a_cons (d_v 1) (a_cons d_int a_nil)))) (a_cons (d_call (ok_L_pick T) (hr.mono (by decide)) rfl T.g_L_pick T.F_L_pick.kp T.b_L_pick (a_cons (d_v 1) (a_cons (d_lst (a_cons d_str (a_cons d_str (a_cons d_str a_nil)))) a_nil))) a_nil)) rfl)
      (ss_cons (s_set (i := 4) sc_law.nd rfl (by first | exact Or.inl rfl | exact Or.inr rfl) (d_op o_add d_int (d_call (ok_L_draw T) (hr.mono (by decide)) rfl T.g_L_draw T.F_L_draw.kp T.b_L_draw (a_cons (d_v 1) (a_cons d_int a_nil)))))
      (ss_one (s_set (i := 6) sc_law.nd rfl (by first | exact Or.inl rfl | exact Or.inr rfl) (d_op o_add (d_b (c_max2 rfl) rfl T.m_max (by decide +kernel) (a_cons d_int (a_cons (d_op o_sub (d_v 4) d_int) a_nil))) (d_call (ok_L_draw T) (hr.mono (by decide)) rfl T.g_L_draw T.F_L_draw.kp T.b_L_draw (a_cons (d_v 1) (a_cons d_int a_nil)))))))) ss_nil)
      (ss_cons (s_par (i := 8) (j := 9) rfl sc_law.nd rfl rfl (by decide) rfl rfl (a_cons (d_call (ok_L_value T hdg) (hr.mono (by decide)) rfl T.g_L_value T.F_L_value.kp T.b_L_value (a_cons (d_v 1) (a_cons (d_v 3) a_nil))) (a_cons (d_op o_sub (d_v 6) (d_ty c_int rfl T.m_int (by decide +kernel) (a_cons (d_cmp o_eq (d_v 7) d_int) a_nil))) a_nil)) rfl)
      (ss_cons (s_set (i := 10) sc_law.nd rfl (by first | exact Or.inl rfl | exact Or.inr rfl) (d_and (d_call (ok_L_is_whole T) (hr.mono (by decide)) rfl T.g_L_is_whole T.F_L_is_whole.kp T.b_L_is_whole (a_cons (d_v 8) a_nil)) (d_and (d_chain o_le o_lt d_int (d_v 8) (d_call (ok_L_ten T) (hr.mono (by decide)) rfl T.g_L_ten T.F_L_ten.kp T.b_L_ten (a_cons (d_v 3) a_nil))) (d_one (d_call (ok_L_root_wrong T hdg) (hr.mono (by decide)) rfl T.g_L_root_wrong T.F_L_root_wrong.kp T.b_L_root_wrong (a_cons (d_v 8) (a_cons (d_v 4) (a_cons (d_v 9) (a_cons (d_v 5) a_nil)))))))))
      (ss_cons (s_set (i := 11) sc_law.nd rfl (by first | exact Or.inl rfl | exact Or.inr rfl) (d_if (t_cmp o_in (d_v 7) (d_lst (a_cons d_int (a_cons d_int (a_cons d_int a_nil)))) (by rfl)) (d_call (ok_judge_for_roots T) (hr.mono (by decide)) rfl T.g_judge_for_roots T.F_judge_for_roots.kp T.b_judge_for_roots (a_cons (d_v 3) (a_cons (d_v 4) (a_cons (d_v 5) (a_cons (d_v 9) (a_cons (d_v 8) a_nil)))))) (d_callk (ok_judge_for_roots T) (hr.mono (by decide)) rfl T.g_judge_for_roots T.F_judge_for_roots.kp (T.kb_judge_for_roots_4_3_2_1_0) (k_cons (d_v 8) (k_cons (d_v 9) (k_cons (d_v 5) (k_cons (d_v 4) (k_cons (d_v 3) k_nil))))))))
      (ss_one (s_if (t_not (t_tru (d_call (ok_L_same T 2) (hr.mono (by decide)) rfl T.g_L_same T.F_L_same.kp T.b_L_same (a_cons (d_v 11) (a_cons (d_v 10) a_nil))))) (ss_one (s_ret d_bl)) ss_nil)))))))))))))
      (ss_one (s_ret d_bl))))
theorem ok_law (T : Tx K mg) (hdg : base.NoDigits) : FnOk P w K mg base CX0 9 T.a_law T.d_law ["script"] (lF K S_law) :=
  d_def T.F_law sc_law (t_law T hdg) h_law

end
theorem all_mk {P : Program} {w : World} {K : PySem.W.Frag} {h : Heap} {mg : Str → Option Value} {fa : Addr} (X : K.In h) (G : h.Ns mainGlobals mg) (hfa : mg "law" = some (.ref fa))
    {f0 f1 f2 f3 f4 f5 f6 f7 f8 f9 f10 f11 f12 f13 f14 f15 f16 f17 f18 f19 f20 f21 f22 f23 f24 f25 f26 f27 f28 : Addr}
    {od0 an0 od1 an1 od2 an2 od3 an3 od4 an4 od5 an5 od6 an6 od7 an7 od8 an8 od9 an9 od10 an10 od11 an11 od12 an12 od13 an13 od14 an14 od15 an15 od16 an16 od17 an17 od18 an18 od19 an19 od20 an20 od21 an21 od22 an22 od23 an23 od24 an24 od25 an25 od26 an26 od27 an27 od28 an28 : Option Addr} {sl0 sl1 sl2 sl3 sl4 sl5 sl6 sl7 sl8 sl9 sl10 sl11 sl12 sl13 sl14 sl15 sl16 sl17 sl18 sl19 sl20 sl21 sl22 sl23 sl24 sl25 sl26 sl27 sl28 : Array (Option Value)} {oc0 kV0 dc0 pm0 cd0 ct0 oc1 kV1 dc1 pm1 cd1 ct1 oc2 kV2 dc2 pm2 cd2 ct2 oc3 kV3 dc3 pm3 cd3 ct3 oc4 kV4 dc4 pm4 cd4 ct4 oc5 kV5 dc5 pm5 cd5 ct5 oc6 kV6 dc6 pm6 cd6 ct6 oc7 kV7 dc7 pm7 cd7 ct7 oc8 kV8 dc8 pm8 cd8 ct8 oc9 kV9 dc9 pm9 cd9 ct9 oc10 kV10 dc10 pm10 cd10 ct10 oc11 kV11 dc11 pm11 cd11 ct11 oc12 kV12 dc12 pm12 cd12 ct12 oc13 kV13 dc13 pm13 cd13 ct13 oc14 kV14 dc14 pm14 cd14 ct14 oc15 kV15 dc15 pm15 cd15 ct15 oc16 kV16 dc16 pm16 cd16 ct16 oc17 kV17 dc17 pm17 cd17 ct17 oc18 kV18 dc18 pm18 cd18 ct18 oc19 kV19 dc19 pm19 cd19 ct19 oc20 kV20 dc20 pm20 cd20 ct20 oc21 kV21 dc21 pm21 cd21 ct21 oc22 kV22 dc22 pm22 cd22 ct22 oc23 kV23 dc23 pm23 cd23 ct23 oc24 kV24 dc24 pm24 cd24 ct24 oc25 kV25 dc25 pm25 cd25 ct25 oc26 kV26 dc26 pm26 cd26 ct26 oc27 kV27 dc27 pm27 cd27 ct27 oc28 kV28 dc28 pm28 cd28 ct28 : Value}
    (a0 : PySem.W.nsIn K mainGlobals "is_number" = some (some (.ref f0))) (l0 : K.lookup f0 = some ⟨oc0, od0, .func (PySem.W.fnOf "is_number" "is_number" (defArgs s_is_number) (defBody s_is_number) (defScope s_is_number) .none kV0 dc0 pm0 an0 cd0 ct0), sl0⟩) (c0 : PySem.W.codeIn K cd0 "is_number" = true) (k0 : PySem.W.keepIn K (.ref f0) = true)
    (a1 : PySem.W.nsIn K mainGlobals "is_from_to" = some (some (.ref f1))) (l1 : K.lookup f1 = some ⟨oc1, od1, .func (PySem.W.fnOf "is_from_to" "is_from_to" (defArgs s_is_from_to) (defBody s_is_from_to) (defScope s_is_from_to) .none kV1 dc1 pm1 an1 cd1 ct1), sl1⟩) (c1 : PySem.W.codeIn K cd1 "is_from_to" = true) (k1 : PySem.W.keepIn K (.ref f1) = true)
    (a2 : PySem.W.nsIn K mainGlobals "tens" = some (some (.ref f2))) (l2 : K.lookup f2 = some ⟨oc2, od2, .func (PySem.W.fnOf "tens" "tens" (defArgs s_tens) (defBody s_tens) (defScope s_tens) .none kV2 dc2 pm2 an2 cd2 ct2), sl2⟩) (c2 : PySem.W.codeIn K cd2 "tens" = true) (k2 : PySem.W.keepIn K (.ref f2) = true)
    (a3 : PySem.W.nsIn K mainGlobals "floor_root" = some (some (.ref f3))) (l3 : K.lookup f3 = some ⟨oc3, od3, .func (PySem.W.fnOf "floor_root" "floor_root" (defArgs s_floor_root) (defBody s_floor_root) (defScope s_floor_root) .none kV3 dc3 pm3 an3 cd3 ct3), sl3⟩) (c3 : PySem.W.codeIn K cd3 "floor_root" = true) (k3 : PySem.W.keepIn K (.ref f3) = true)
    (a4 : PySem.W.nsIn K mainGlobals "ground_of" = some (some (.ref f4))) (l4 : K.lookup f4 = some ⟨oc4, od4, .func (PySem.W.fnOf "ground_of" "ground_of" (defArgs s_ground_of) (defBody s_ground_of) (defScope s_ground_of) .none kV4 dc4 pm4 an4 cd4 ct4), sl4⟩) (c4 : PySem.W.codeIn K cd4 "ground_of" = true) (k4 : PySem.W.keepIn K (.ref f4) = true)
    (a5 : PySem.W.nsIn K mainGlobals "border_below" = some (some (.ref f5))) (l5 : K.lookup f5 = some ⟨oc5, od5, .func (PySem.W.fnOf "border_below" "border_below" (defArgs s_border_below) (defBody s_border_below) (defScope s_border_below) .none kV5 dc5 pm5 an5 cd5 ct5), sl5⟩) (c5 : PySem.W.codeIn K cd5 "border_below" = true) (k5 : PySem.W.keepIn K (.ref f5) = true)
    (a6 : PySem.W.nsIn K mainGlobals "border_by" = some (some (.ref f6))) (l6 : K.lookup f6 = some ⟨oc6, od6, .func (PySem.W.fnOf "border_by" "border_by" (defArgs s_border_by) (defBody s_border_by) (defScope s_border_by) .none kV6 dc6 pm6 an6 cd6 ct6), sl6⟩) (c6 : PySem.W.codeIn K cd6 "border_by" = true) (k6 : PySem.W.keepIn K (.ref f6) = true)
    (a7 : PySem.W.nsIn K mainGlobals "sum_sign" = some (some (.ref f7))) (l7 : K.lookup f7 = some ⟨oc7, od7, .func (PySem.W.fnOf "sum_sign" "sum_sign" (defArgs s_sum_sign) (defBody s_sum_sign) (defScope s_sum_sign) .none kV7 dc7 pm7 an7 cd7 ct7), sl7⟩) (c7 : PySem.W.codeIn K cd7 "sum_sign" = true) (k7 : PySem.W.keepIn K (.ref f7) = true)
    (a8 : PySem.W.nsIn K mainGlobals "room_order" = some (some (.ref f8))) (l8 : K.lookup f8 = some ⟨oc8, od8, .func (PySem.W.fnOf "room_order" "room_order" (defArgs s_room_order) (defBody s_room_order) (defScope s_room_order) .none kV8 dc8 pm8 an8 cd8 ct8), sl8⟩) (c8 : PySem.W.codeIn K cd8 "room_order" = true) (k8 : PySem.W.keepIn K (.ref f8) = true)
    (a9 : PySem.W.nsIn K mainGlobals "worst_of_few" = some (some (.ref f9))) (l9 : K.lookup f9 = some ⟨oc9, od9, .func (PySem.W.fnOf "worst_of_few" "worst_of_few" (defArgs s_worst_of_few) (defBody s_worst_of_few) (defScope s_worst_of_few) .none kV9 dc9 pm9 an9 cd9 ct9), sl9⟩) (c9 : PySem.W.codeIn K cd9 "worst_of_few" = true) (k9 : PySem.W.keepIn K (.ref f9) = true)
    (a10 : PySem.W.nsIn K mainGlobals "worst_of_many" = some (some (.ref f10))) (l10 : K.lookup f10 = some ⟨oc10, od10, .func (PySem.W.fnOf "worst_of_many" "worst_of_many" (defArgs s_worst_of_many) (defBody s_worst_of_many) (defScope s_worst_of_many) .none kV10 dc10 pm10 an10 cd10 ct10), sl10⟩) (c10 : PySem.W.codeIn K cd10 "worst_of_many" = true) (k10 : PySem.W.keepIn K (.ref f10) = true)
    (a11 : PySem.W.nsIn K mainGlobals "worst_up_to" = some (some (.ref f11))) (l11 : K.lookup f11 = some ⟨oc11, od11, .func (PySem.W.fnOf "worst_up_to" "worst_up_to" (defArgs s_worst_up_to) (defBody s_worst_up_to) (defScope s_worst_up_to) .none kV11 dc11 pm11 an11 cd11 ct11), sl11⟩) (c11 : PySem.W.codeIn K cd11 "worst_up_to" = true) (k11 : PySem.W.keepIn K (.ref f11) = true)
    (a12 : PySem.W.nsIn K mainGlobals "most_figured" = some (some (.ref f12))) (l12 : K.lookup f12 = some ⟨oc12, od12, .func (PySem.W.fnOf "most_figured" "most_figured" (defArgs s_most_figured) (defBody s_most_figured) (defScope s_most_figured) .none kV12 dc12 pm12 an12 cd12 ct12), sl12⟩) (c12 : PySem.W.codeIn K cd12 "most_figured" = true) (k12 : PySem.W.keepIn K (.ref f12) = true)
    (a13 : PySem.W.nsIn K mainGlobals "worst_root" = some (some (.ref f13))) (l13 : K.lookup f13 = some ⟨oc13, od13, .func (PySem.W.fnOf "worst_root" "worst_root" (defArgs s_worst_root) (defBody s_worst_root) (defScope s_worst_root) .none kV13 dc13 pm13 an13 cd13 ct13), sl13⟩) (c13 : PySem.W.codeIn K cd13 "worst_root" = true) (k13 : PySem.W.keepIn K (.ref f13) = true)
    (a14 : PySem.W.nsIn K mainGlobals "is_enough" = some (some (.ref f14))) (l14 : K.lookup f14 = some ⟨oc14, od14, .func (PySem.W.fnOf "is_enough" "is_enough" (defArgs s_is_enough) (defBody s_is_enough) (defScope s_is_enough) .none kV14 dc14 pm14 an14 cd14 ct14), sl14⟩) (c14 : PySem.W.codeIn K cd14 "is_enough" = true) (k14 : PySem.W.keepIn K (.ref f14) = true)
    (a15 : PySem.W.nsIn K mainGlobals "least_for_side" = some (some (.ref f15))) (l15 : K.lookup f15 = some ⟨oc15, od15, .func (PySem.W.fnOf "least_for_side" "least_for_side" (defArgs s_least_for_side) (defBody s_least_for_side) (defScope s_least_for_side) .none kV15 dc15 pm15 an15 cd15 ct15), sl15⟩) (c15 : PySem.W.codeIn K cd15 "least_for_side" = true) (k15 : PySem.W.keepIn K (.ref f15) = true)
    (a16 : PySem.W.nsIn K mainGlobals "least_for_roots" = some (some (.ref f16))) (l16 : K.lookup f16 = some ⟨oc16, od16, .func (PySem.W.fnOf "least_for_roots" "least_for_roots" (defArgs s_least_for_roots) (defBody s_least_for_roots) (defScope s_least_for_roots) .none kV16 dc16 pm16 an16 cd16 ct16), sl16⟩) (c16 : PySem.W.codeIn K cd16 "least_for_roots" = true) (k16 : PySem.W.keepIn K (.ref f16) = true)
    (a17 : PySem.W.nsIn K mainGlobals "judge_for_roots" = some (some (.ref f17))) (l17 : K.lookup f17 = some ⟨oc17, od17, .func (PySem.W.fnOf "judge_for_roots" "judge_for_roots" (defArgs s_judge_for_roots) (defBody s_judge_for_roots) (defScope s_judge_for_roots) .none kV17 dc17 pm17 an17 cd17 ct17), sl17⟩) (c17 : PySem.W.codeIn K cd17 "judge_for_roots" = true) (k17 : PySem.W.keepIn K (.ref f17) = true)
    (a18 : PySem.W.nsIn K mainGlobals "_law_flow" = some (some (.ref f18))) (l18 : K.lookup f18 = some ⟨oc18, od18, .func (PySem.W.fnOf "_law_flow" "_law_flow" (defArgs s_L_flow) (defBody s_L_flow) (defScope s_L_flow) .none kV18 dc18 pm18 an18 cd18 ct18), sl18⟩) (c18 : PySem.W.codeIn K cd18 "_law_flow" = true) (k18 : PySem.W.keepIn K (.ref f18) = true)
    (a19 : PySem.W.nsIn K mainGlobals "_law_draw" = some (some (.ref f19))) (l19 : K.lookup f19 = some ⟨oc19, od19, .func (PySem.W.fnOf "_law_draw" "_law_draw" (defArgs s_L_draw) (defBody s_L_draw) (defScope s_L_draw) .none kV19 dc19 pm19 an19 cd19 ct19), sl19⟩) (c19 : PySem.W.codeIn K cd19 "_law_draw" = true) (k19 : PySem.W.keepIn K (.ref f19) = true)
    (a20 : PySem.W.nsIn K mainGlobals "_law_pick" = some (some (.ref f20))) (l20 : K.lookup f20 = some ⟨oc20, od20, .func (PySem.W.fnOf "_law_pick" "_law_pick" (defArgs s_L_pick) (defBody s_L_pick) (defScope s_L_pick) .none kV20 dc20 pm20 an20 cd20 ct20), sl20⟩) (c20 : PySem.W.codeIn K cd20 "_law_pick" = true) (k20 : PySem.W.keepIn K (.ref f20) = true)
    (a21 : PySem.W.nsIn K mainGlobals "_law_is_whole" = some (some (.ref f21))) (l21 : K.lookup f21 = some ⟨oc21, od21, .func (PySem.W.fnOf "_law_is_whole" "_law_is_whole" (defArgs s_L_is_whole) (defBody s_L_is_whole) (defScope s_L_is_whole) .none kV21 dc21 pm21 an21 cd21 ct21), sl21⟩) (c21 : PySem.W.codeIn K cd21 "_law_is_whole" = true) (k21 : PySem.W.keepIn K (.ref f21) = true)
    (a22 : PySem.W.nsIn K mainGlobals "_law_same" = some (some (.ref f22))) (l22 : K.lookup f22 = some ⟨oc22, od22, .func (PySem.W.fnOf "_law_same" "_law_same" (defArgs s_L_same) (defBody s_L_same) (defScope s_L_same) .none kV22 dc22 pm22 an22 cd22 ct22), sl22⟩) (c22 : PySem.W.codeIn K cd22 "_law_same" = true) (k22 : PySem.W.keepIn K (.ref f22) = true)
    (a23 : PySem.W.nsIn K mainGlobals "_law_ten" = some (some (.ref f23))) (l23 : K.lookup f23 = some ⟨oc23, od23, .func (PySem.W.fnOf "_law_ten" "_law_ten" (defArgs s_L_ten) (defBody s_L_ten) (defScope s_L_ten) .none kV23 dc23 pm23 an23 cd23 ct23), sl23⟩) (c23 : PySem.W.codeIn K cd23 "_law_ten" = true) (k23 : PySem.W.keepIn K (.ref f23) = true)
    (a24 : PySem.W.nsIn K mainGlobals "_law_floor_root" = some (some (.ref f24))) (l24 : K.lookup f24 = some ⟨oc24, od24, .func (PySem.W.fnOf "_law_floor_root" "_law_floor_root" (defArgs s_L_floor_root) (defBody s_L_floor_root) (defScope s_L_floor_root) .none kV24 dc24 pm24 an24 cd24 ct24), sl24⟩) (c24 : PySem.W.codeIn K cd24 "_law_floor_root" = true) (k24 : PySem.W.keepIn K (.ref f24) = true)
    (a25 : PySem.W.nsIn K mainGlobals "_law_root_wrong" = some (some (.ref f25))) (l25 : K.lookup f25 = some ⟨oc25, od25, .func (PySem.W.fnOf "_law_root_wrong" "_law_root_wrong" (defArgs s_L_root_wrong) (defBody s_L_root_wrong) (defScope s_L_root_wrong) .none kV25 dc25 pm25 an25 cd25 ct25), sl25⟩) (c25 : PySem.W.codeIn K cd25 "_law_root_wrong" = true) (k25 : PySem.W.keepIn K (.ref f25) = true)
    (a26 : PySem.W.nsIn K mainGlobals "_law_least_roots" = some (some (.ref f26))) (l26 : K.lookup f26 = some ⟨oc26, od26, .func (PySem.W.fnOf "_law_least_roots" "_law_least_roots" (defArgs s_L_least_roots) (defBody s_L_least_roots) (defScope s_L_least_roots) .none kV26 dc26 pm26 an26 cd26 ct26), sl26⟩) (c26 : PySem.W.codeIn K cd26 "_law_least_roots" = true) (k26 : PySem.W.keepIn K (.ref f26) = true)
    (a27 : PySem.W.nsIn K mainGlobals "_law_value" = some (some (.ref f27))) (l27 : K.lookup f27 = some ⟨oc27, od27, .func (PySem.W.fnOf "_law_value" "_law_value" (defArgs s_L_value) (defBody s_L_value) (defScope s_L_value) .none kV27 dc27 pm27 an27 cd27 ct27), sl27⟩) (c27 : PySem.W.codeIn K cd27 "_law_value" = true) (k27 : PySem.W.keepIn K (.ref f27) = true)
    (a28 : PySem.W.nsIn K mainGlobals "law" = some (some (.ref f28))) (l28 : K.lookup f28 = some ⟨oc28, od28, .func (PySem.W.fnOf "law" "law" (defArgs s_law) (defBody s_law) (defScope s_law) .none kV28 dc28 pm28 an28 cd28 ct28), sl28⟩) (c28 : PySem.W.codeIn K cd28 "law" = true) (k28 : PySem.W.keepIn K (.ref f28) = true)
    (z_abs : PySem.W.nsIn K mainGlobals "abs" = some none)
    (z_bool : PySem.W.nsIn K mainGlobals "bool" = some none)
    (z_int : PySem.W.nsIn K mainGlobals "int" = some none)
    (z_isinstance : PySem.W.nsIn K mainGlobals "isinstance" = some none)
    (z_len : PySem.W.nsIn K mainGlobals "len" = some none)
    (z_max : PySem.W.nsIn K mainGlobals "max" = some none)
    (z_range : PySem.W.nsIn K mainGlobals "range" = some none)
    (z_str : PySem.W.nsIn K mainGlobals "str" = some none)
    (z_tuple : PySem.W.nsIn K mainGlobals "tuple" = some none)
    {tk_FEW : Tok} (zc_FEW : PySem.W.nsIn K mainGlobals "FEW" = some (some (.int 10000 tk_FEW)))
    : ∃ fd : FuncData, (∀ (s : Shared) (v : Value), BindsTo s fd ⟨[v], []⟩ [("script", v)]) ∧ ∀ base : Heap, K.In base → base.Ns mainGlobals mg → base.NoDigits → FnOk P w K mg base CX0 9 fa fd ["script"] (lF K S_law) := by
  have e := hfa.symm.trans (PySem.W.mg_of X G a28)
  have e2 : fa = f28 := by injection e with e; injection e
  have F0 := fun_mk (st := s_is_number) l0 c0 k0
  have b0 := F0.binds (ps := ["value"]) fun _ _ _ _ _ _ us hl => match us, hl with | [_], _ => rfl
  have F1 := fun_mk (st := s_is_from_to) l1 c1 k1
  have b1 := F1.binds (ps := ["value", "low", "high"]) fun _ _ _ _ _ _ us hl => match us, hl with | [_, _, _], _ => rfl
  have F2 := fun_mk (st := s_tens) l2 c2 k2
  have b2 := F2.binds (ps := ["many"]) fun _ _ _ _ _ _ us hl => match us, hl with | [_], _ => rfl
  have F3 := fun_mk (st := s_floor_root) l3 c3 k3
  have b3 := F3.binds (ps := ["number"]) fun _ _ _ _ _ _ us hl => match us, hl with | [_], _ => rfl
  have F4 := fun_mk (st := s_ground_of) l4 c4 k4
  have b4 := F4.binds (ps := ["p"]) fun _ _ _ _ _ _ us hl => match us, hl with | [_], _ => rfl
  have F5 := fun_mk (st := s_border_below) l5 c5 k5
  have b5 := F5.binds (ps := ["ground"]) fun _ _ _ _ _ _ us hl => match us, hl with | [_], _ => rfl
  have F6 := fun_mk (st := s_border_by) l6 c6 k6
  have b6 := F6.binds (ps := ["ground", "side"]) fun _ _ _ _ _ _ us hl => match us, hl with | [_, _], _ => rfl
  have F7 := fun_mk (st := s_sum_sign) l7 c7 k7
  have b7 := F7.binds (ps := ["one", "ground", "other", "second", "number"]) fun _ _ _ _ _ _ us hl => match us, hl with | [_, _, _, _, _], _ => rfl
  have F8 := fun_mk (st := s_room_order) l8 c8 k8
  have b8 := F8.binds (ps := ["x", "ground", "y", "second"]) fun _ _ _ _ _ _ us hl => match us, hl with | [_, _, _, _], _ => rfl
  have F9 := fun_mk (st := s_worst_of_few) l9 c9 k9
  have b9 := F9.binds (ps := ["least", "most", "p", "side"]) fun _ _ _ _ _ _ us hl => match us, hl with | [_, _, _, _], _ => rfl
  have F10 := fun_mk (st := s_worst_of_many) l10 c10 k10
  have b10 := F10.binds (ps := ["most", "p", "side"]) fun _ _ _ _ _ _ us hl => match us, hl with | [_, _, _], _ => rfl
  have F11 := fun_mk (st := s_worst_up_to) l11 c11 k11
  have b11 := F11.binds (ps := ["most", "p", "side"]) fun _ _ _ _ _ _ us hl => match us, hl with | [_, _, _], _ => rfl
  have F12 := fun_mk (st := s_most_figured) l12 c12 k12
  have b12 := F12.binds (ps := ["a"]) fun _ _ _ _ _ _ us hl => match us, hl with | [_], _ => rfl
  have F13 := fun_mk (st := s_worst_root) l13 c13 k13
  have b13 := F13.binds (ps := ["a", "p", "side"]) fun _ _ _ _ _ _ us hl => match us, hl with | [_, _, _], _ => rfl
  have F14 := fun_mk (st := s_is_enough) l14 c14 k14
  have b14 := F14.binds (ps := ["N", "p", "side", "w"]) fun _ _ _ _ _ _ us hl => match us, hl with | [_, _, _, _], _ => rfl
  have F15 := fun_mk (st := s_least_for_side) l15 c15 k15
  have b15 := F15.binds (ps := ["a", "p", "side"]) fun _ _ _ _ _ _ us hl => match us, hl with | [_, _, _], _ => rfl
  have F16 := fun_mk (st := s_least_for_roots) l16 c16 k16
  have b16 := F16.binds (ps := ["a", "p", "side"]) fun _ _ _ _ _ _ us hl => match us, hl with | [_, _, _], _ => rfl
  have F17 := fun_mk (st := s_judge_for_roots) l17 c17 k17
  have b17 := F17.binds (ps := ["a", "p", "side", "w", "value"]) fun _ _ _ _ _ _ us hl => match us, hl with | [_, _, _, _, _], _ => rfl
  have F18 := fun_mk (st := s_L_flow) l18 c18 k18
  have b18 := F18.binds (ps := ["script"]) fun _ _ _ _ _ _ us hl => match us, hl with | [_], _ => rfl
  have F19 := fun_mk (st := s_L_draw) l19 c19 k19
  have b19 := F19.binds (ps := ["flow", "many"]) fun _ _ _ _ _ _ us hl => match us, hl with | [_, _], _ => rfl
  have F20 := fun_mk (st := s_L_pick) l20 c20 k20
  have b20 := F20.binds (ps := ["flow", "things"]) fun _ _ _ _ _ _ us hl => match us, hl with | [_, _], _ => rfl
  have F21 := fun_mk (st := s_L_is_whole) l21 c21 k21
  have b21 := F21.binds (ps := ["value"]) fun _ _ _ _ _ _ us hl => match us, hl with | [_], _ => rfl
  have F22 := fun_mk (st := s_L_same) l22 c22 k22
  have b22 := F22.binds (ps := ["found", "due"]) fun _ _ _ _ _ _ us hl => match us, hl with | [_, _], _ => rfl
  have F23 := fun_mk (st := s_L_ten) l23 c23 k23
  have b23 := F23.binds (ps := ["k"]) fun _ _ _ _ _ _ us hl => match us, hl with | [_], _ => rfl
  have F24 := fun_mk (st := s_L_floor_root) l24 c24 k24
  have b24 := F24.binds (ps := ["n"]) fun _ _ _ _ _ _ us hl => match us, hl with | [_], _ => rfl
  have F25 := fun_mk (st := s_L_root_wrong) l25 c25 k25
  have b25 := F25.binds (ps := ["n", "p", "w", "side"]) fun _ _ _ _ _ _ us hl => match us, hl with | [_, _, _, _], _ => rfl
  have F26 := fun_mk (st := s_L_least_roots) l26 c26 k26
  have b26 := F26.binds (ps := ["a", "p", "side"]) fun _ _ _ _ _ _ us hl => match us, hl with | [_, _, _], _ => rfl
  have F27 := fun_mk (st := s_L_value) l27 c27 k27
  have b27 := F27.binds (ps := ["flow", "a"]) fun _ _ _ _ _ _ us hl => match us, hl with | [_, _], _ => rfl
  have F28 := fun_mk (st := s_law) l28 c28 k28
  have b28 := F28.binds (ps := ["script"]) fun _ _ _ _ _ _ us hl => match us, hl with | [_], _ => rfl
  have kb_judge_for_roots_4_3_2_1_0 : KB (PySem.W.fnOf "judge_for_roots" "judge_for_roots" (defArgs s_judge_for_roots) (defBody s_judge_for_roots) (defScope s_judge_for_roots) .none kV17 dc17 pm17 an17 cd17 ct17) ["a", "p", "side", "w", "value"] ["value", "w", "side", "p", "a"] [4, 3, 2, 1, 0] := fun s ws hl => match ws, hl with | [_, _, _, _, _], _ => .of_eq rfl
  have kb_least_for_roots_2_1_0 : KB (PySem.W.fnOf "least_for_roots" "least_for_roots" (defArgs s_least_for_roots) (defBody s_least_for_roots) (defScope s_least_for_roots) .none kV16 dc16 pm16 an16 cd16 ct16) ["a", "p", "side"] ["side", "p", "a"] [2, 1, 0] := fun s ws hl => match ws, hl with | [_, _, _], _ => .of_eq rfl
  refine ⟨PySem.W.fnOf "law" "law" (defArgs s_law) (defBody s_law) (defScope s_law) .none kV28 dc28 pm28 an28 cd28 ct28, fun s v => .of_eq rfl, fun base _ _ hdg => ?_⟩
  rw [e2]
  exact ok_law { a_is_number := f0, d_is_number := _, F_is_number := F0, g_is_number := PySem.W.mg_of X G a0, b_is_number := b0, a_is_from_to := f1, d_is_from_to := _, F_is_from_to := F1, g_is_from_to := PySem.W.mg_of X G a1, b_is_from_to := b1, a_tens := f2, d_tens := _, F_tens := F2, g_tens := PySem.W.mg_of X G a2, b_tens := b2, a_floor_root := f3, d_floor_root := _, F_floor_root := F3, g_floor_root := PySem.W.mg_of X G a3, b_floor_root := b3, a_ground_of := f4, d_ground_of := _, F_ground_of := F4, g_ground_of := PySem.W.mg_of X G a4, b_ground_of := b4, a_border_below := f5, d_border_below := _, F_border_below := F5, g_border_below := PySem.W.mg_of X G a5, b_border_below := b5, a_border_by := f6, d_border_by := _, F_border_by := F6, g_border_by := PySem.W.mg_of X G a6, b_border_by := b6, a_sum_sign := f7, d_sum_sign := _, F_sum_sign := F7, g_sum_sign := PySem.W.mg_of X G a7, b_sum_sign := b7, a_room_order := f8, d_room_order := _, F_room_order := F8, g_room_order := PySem.W.mg_of X G a8, b_room_order := b8, a_worst_of_few := f9, d_worst_of_few := _, F_worst_of_few := F9, g_worst_of_few := PySem.W.mg_of X G a9, b_worst_of_few := b9, a_worst_of_many := f10, d_worst_of_many := _, F_worst_of_many := F10, g_worst_of_many := PySem.W.mg_of X G a10, b_worst_of_many := b10, a_worst_up_to := f11, d_worst_up_to := _, F_worst_up_to := F11, g_worst_up_to := PySem.W.mg_of X G a11, b_worst_up_to := b11, a_most_figured := f12, d_most_figured := _, F_most_figured := F12, g_most_figured := PySem.W.mg_of X G a12, b_most_figured := b12, a_worst_root := f13, d_worst_root := _, F_worst_root := F13, g_worst_root := PySem.W.mg_of X G a13, b_worst_root := b13, a_is_enough := f14, d_is_enough := _, F_is_enough := F14, g_is_enough := PySem.W.mg_of X G a14, b_is_enough := b14, a_least_for_side := f15, d_least_for_side := _, F_least_for_side := F15, g_least_for_side := PySem.W.mg_of X G a15, b_least_for_side := b15, a_least_for_roots := f16, d_least_for_roots := _, F_least_for_roots := F16, g_least_for_roots := PySem.W.mg_of X G a16, b_least_for_roots := b16, a_judge_for_roots := f17, d_judge_for_roots := _, F_judge_for_roots := F17, g_judge_for_roots := PySem.W.mg_of X G a17, b_judge_for_roots := b17, a_L_flow := f18, d_L_flow := _, F_L_flow := F18, g_L_flow := PySem.W.mg_of X G a18, b_L_flow := b18, a_L_draw := f19, d_L_draw := _, F_L_draw := F19, g_L_draw := PySem.W.mg_of X G a19, b_L_draw := b19, a_L_pick := f20, d_L_pick := _, F_L_pick := F20, g_L_pick := PySem.W.mg_of X G a20, b_L_pick := b20, a_L_is_whole := f21, d_L_is_whole := _, F_L_is_whole := F21, g_L_is_whole := PySem.W.mg_of X G a21, b_L_is_whole := b21, a_L_same := f22, d_L_same := _, F_L_same := F22, g_L_same := PySem.W.mg_of X G a22, b_L_same := b22, a_L_ten := f23, d_L_ten := _, F_L_ten := F23, g_L_ten := PySem.W.mg_of X G a23, b_L_ten := b23, a_L_floor_root := f24, d_L_floor_root := _, F_L_floor_root := F24, g_L_floor_root := PySem.W.mg_of X G a24, b_L_floor_root := b24, a_L_root_wrong := f25, d_L_root_wrong := _, F_L_root_wrong := F25, g_L_root_wrong := PySem.W.mg_of X G a25, b_L_root_wrong := b25, a_L_least_roots := f26, d_L_least_roots := _, F_L_least_roots := F26, g_L_least_roots := PySem.W.mg_of X G a26, b_L_least_roots := b26, a_L_value := f27, d_L_value := _, F_L_value := F27, g_L_value := PySem.W.mg_of X G a27, b_L_value := b27, a_law := f28, d_law := _, F_law := F28, g_law := PySem.W.mg_of X G a28, b_law := b28, kb_judge_for_roots_4_3_2_1_0 := kb_judge_for_roots_4_3_2_1_0, kb_least_for_roots_2_1_0 := kb_least_for_roots_2_1_0, m_abs := PySem.W.mg_none_of X G z_abs, m_bool := PySem.W.mg_none_of X G z_bool, m_int := PySem.W.mg_none_of X G z_int, m_isinstance := PySem.W.mg_none_of X G z_isinstance, m_len := PySem.W.mg_none_of X G z_len, m_max := PySem.W.mg_none_of X G z_max, m_range := PySem.W.mg_none_of X G z_range, m_str := PySem.W.mg_none_of X G z_str, m_tuple := PySem.W.mg_none_of X G z_tuple, c_FEW := ⟨_, PySem.W.mg_of X G zc_FEW, ⟨_, rfl⟩⟩ } hdg

end K60
end
set_option Elab.async false
set_option linter.all false
set_option maxRecDepth 100000
open PySem PySem.W PyProof.Rows
set_option maxHeartbeats 0 in
theorem PySem.Challenge.cw_lastfigure_k60_figures_for_roots_holds : PySem.Challenge.rw_lastfigure_k60_figures_for_roots.Holds := by
  w_on; o_law; k_head; (case hw => w_witness2)
  k_fill
  refine Dw.walk_ofD (l := PySem.Challenge.rw_lastfigure_k60_figures_for_roots) (n := 63) (k := 9) (x := "script") (F := K60.S_law) rfl (by decide) rfl ⟨rfl, by decide, by decide⟩ (fun w h Y => PySem.W.kIn_of Y) ?G (fun ns hl _ => ⟨ns, rfl, hl, rfl, fun _ => rfl⟩)
  case G =>
    intro w mg fa h KX Gn hmg
    refine' K60.all_mk KX Gn hmg ?a0 ?l0 ?c0 ?k0 ?a1 ?l1 ?c1 ?k1 ?a2 ?l2 ?c2 ?k2 ?a3 ?l3 ?c3 ?k3 ?a4 ?l4 ?c4 ?k4 ?a5 ?l5 ?c5 ?k5 ?a6 ?l6 ?c6 ?k6 ?a7 ?l7 ?c7 ?k7 ?a8 ?l8 ?c8 ?k8 ?a9 ?l9 ?c9 ?k9 ?a10 ?l10 ?c10 ?k10 ?a11 ?l11 ?c11 ?k11 ?a12 ?l12 ?c12 ?k12 ?a13 ?l13 ?c13 ?k13 ?a14 ?l14 ?c14 ?k14 ?a15 ?l15 ?c15 ?k15 ?a16 ?l16 ?c16 ?k16 ?a17 ?l17 ?c17 ?k17 ?a18 ?l18 ?c18 ?k18 ?a19 ?l19 ?c19 ?k19 ?a20 ?l20 ?c20 ?k20 ?a21 ?l21 ?c21 ?k21 ?a22 ?l22 ?c22 ?k22 ?a23 ?l23 ?c23 ?k23 ?a24 ?l24 ?c24 ?k24 ?a25 ?l25 ?c25 ?k25 ?a26 ?l26 ?c26 ?k26 ?a27 ?l27 ?c27 ?k27 ?a28 ?l28 ?c28 ?k28 ?z_abs ?z_bool ?z_int ?z_isinstance ?z_len ?z_max ?z_range ?z_str ?z_tuple ?zc_FEW
    (case a0 => k_is)
    (case l0 => k_is)
    (case c0 => k_is)
    (case k0 => k_is)
    (case a1 => k_is)
    (case l1 => k_is)
    (case c1 => k_is)
    (case k1 => k_is)
    (case a2 => k_is)
    (case l2 => k_is)
    (case c2 => k_is)
    (case k2 => k_is)
    (case a3 => k_is)
    (case l3 => k_is)
    (case c3 => k_is)
    (case k3 => k_is)
    (case a4 => k_is)
    (case l4 => k_is)
    (case c4 => k_is)
    (case k4 => k_is)
    (case a5 => k_is)
    (case l5 => k_is)
    (case c5 => k_is)
    (case k5 => k_is)
    (case a6 => k_is)
    (case l6 => k_is)
    (case c6 => k_is)
    (case k6 => k_is)
    (case a7 => k_is)
    (case l7 => k_is)
    (case c7 => k_is)
    (case k7 => k_is)
    (case a8 => k_is)
    (case l8 => k_is)
    (case c8 => k_is)
    (case k8 => k_is)
    (case a9 => k_is)
    (case l9 => k_is)
    (case c9 => k_is)
    (case k9 => k_is)
    (case a10 => k_is)
    (case l10 => k_is)
    (case c10 => k_is)
    (case k10 => k_is)
    (case a11 => k_is)
    (case l11 => k_is)
    (case c11 => k_is)
    (case k11 => k_is)
    (case a12 => k_is)
    (case l12 => k_is)
    (case c12 => k_is)
    (case k12 => k_is)
    (case a13 => k_is)
    (case l13 => k_is)
    (case c13 => k_is)
    (case k13 => k_is)
    (case a14 => k_is)
    (case l14 => k_is)
    (case c14 => k_is)
    (case k14 => k_is)
    (case a15 => k_is)
    (case l15 => k_is)
    (case c15 => k_is)
    (case k15 => k_is)
    (case a16 => k_is)
    (case l16 => k_is)
    (case c16 => k_is)
    (case k16 => k_is)
    (case a17 => k_is)
    (case l17 => k_is)
    (case c17 => k_is)
    (case k17 => k_is)
    (case a18 => k_is)
    (case l18 => k_is)
    (case c18 => k_is)
    (case k18 => k_is)
    (case a19 => k_is)
    (case l19 => k_is)
    (case c19 => k_is)
    (case k19 => k_is)
    (case a20 => k_is)
    (case l20 => k_is)
    (case c20 => k_is)
    (case k20 => k_is)
    (case a21 => k_is)
    (case l21 => k_is)
    (case c21 => k_is)
    (case k21 => k_is)
    (case a22 => k_is)
    (case l22 => k_is)
    (case c22 => k_is)
    (case k22 => k_is)
    (case a23 => k_is)
    (case l23 => k_is)
    (case c23 => k_is)
    (case k23 => k_is)
    (case a24 => k_is)
    (case l24 => k_is)
    (case c24 => k_is)
    (case k24 => k_is)
    (case a25 => k_is)
    (case l25 => k_is)
    (case c25 => k_is)
    (case k25 => k_is)
    (case a26 => k_is)
    (case l26 => k_is)
    (case c26 => k_is)
    (case k26 => k_is)
    (case a27 => k_is)
    (case l27 => k_is)
    (case c27 => k_is)
    (case k27 => k_is)
    (case a28 => k_is)
    (case l28 => k_is)
    (case c28 => k_is)
    (case k28 => k_is)
    (case z_abs => k_is)
    (case z_bool => k_is)
    (case z_int => k_is)
    (case z_isinstance => k_is)
    (case z_len => k_is)
    (case z_max => k_is)
    (case z_range => k_is)
    (case z_str => k_is)
    (case z_tuple => k_is)
    (case zc_FEW => k_is)
