import PyProof.Rows.All
import Wide.All
import OpenK.AllK
import Wide.FinOn
import HandS.ForMost
import HandS.Flow
import HandS.DictComp
import HandS.Rev
import HandS.TupAny
import HandS.SortInts
import HandS.Deep
import PySem.Challenge.RW_passproven_k33_symbolic_terms
set_option Elab.async false
set_option linter.all false
set_option maxRecDepth 100000
/-! The layer of pure data over the hand layer: tuples are values, readings dispatch on the values. -/
namespace Dn
open PySem PySem.Spec PyProof.Rows L2

/-- a value whose tuples are values too -/
inductive D where
  | non | bl (b : Bool) | int (i : Int) | str (x : Str) | tup (xs : List D) | ref (a : Addr) | ty (n : String)

/-- what stands at an address that can change -/
inductive DO where
  | lst (xs : List D)
  | cst (xs : List D)
  | dic (kvs : List (Key × D))
  | ins (C : Addr) (fs : List (Str × D))
  | opq (o : HO)

abbrev DS := List (Option D)
abbrev GP := Addr → Option DO
def gup (G : GP) (a : Addr) (o : DO) : GP := fun b => if b = a then some o else G b

mutual
inductive Den (K : PySem.W.Frag) (H : Hp) : D → V → Prop
  | non : Den K H .non .non
  | bl {b : Bool} : Den K H (.bl b) (.bl b)
  | int {i : Int} : Den K H (.int i) (.int i)
  | str {x : Str} : Den K H (.str x) (.str x)
  | ref {a : Addr} : Den K H (.ref a) (.ref a)
  | ty {n : String} : Den K H (.ty n) (.ty n)
  | tup {a : Addr} {xs : List D} {vs : List V} : SqT K H a vs → Dens K H xs vs → Den K H (.tup xs) (.ref a)
inductive Dens (K : PySem.W.Frag) (H : Hp) : List D → List V → Prop
  | nil : Dens K H [] []
  | cons {d : D} {v : V} {ds : List D} {vs : List V} : Den K H d v → Dens K H ds vs → Dens K H (d :: ds) (v :: vs)
end

def TK (K : PySem.W.Frag) (H H' : Hp) : Prop := ∀ a vs, SqT K H a vs → SqT K H' a vs

section
variable {K : PySem.W.Frag} {H H' H'' : Hp}
mutual
theorem Den.mono (t : TK K H H') : ∀ {d : D} {v : V}, Den K H d v → Den K H' d v
  | _, _, .non => .non
  | _, _, .bl => .bl
  | _, _, .int => .int
  | _, _, .str => .str
  | _, _, .ref => .ref
  | _, _, .ty => .ty
  | _, _, .tup h hs => .tup (t _ _ h) (Dens.mono t hs)
theorem Dens.mono (t : TK K H H') : ∀ {ds : List D} {vs : List V}, Dens K H ds vs → Dens K H' ds vs
  | _, _, .nil => .nil
  | _, _, .cons h hs => .cons (Den.mono t h) (Dens.mono t hs)
end
theorem TK.refl : TK K H H := fun _ _ h => h
theorem TK.trans (a : TK K H H') (b : TK K H' H'') : TK K H H'' := fun x vs h => b x vs (a x vs h)
theorem Dens.length : ∀ {ds : List D} {vs : List V}, Dens K H ds vs → ds.length = vs.length
  | _, _, .nil => rfl
  | _, _, .cons _ hs => by rw [List.length_cons, List.length_cons, Dens.length hs]
theorem Dens.append : ∀ {ds : List D} {vs : List V} {es : List D} {ws : List V}, Dens K H ds vs → Dens K H es ws → Dens K H (ds ++ es) (vs ++ ws)
  | _, _, _, _, .nil, s => s
  | _, _, _, _, .cons h t, s => .cons h (Dens.append t s)
theorem Dens.get : ∀ {ds : List D} {vs : List V} {i : Nat} {d : D}, Dens K H ds vs → ds[i]? = some d → ∃ v, vs[i]? = some v ∧ Den K H d v
  | _, _, _, _, .nil, e => by simp at e
  | _, _, 0, _, .cons h _, e => by simp at e; subst e; exact ⟨_, rfl, h⟩
  | _, _, i + 1, d, .cons _ t, e => by
    obtain ⟨v, h1, h2⟩ := Dens.get (i := i) (d := d) t (by simpa using e)
    exact ⟨v, by simpa using h1, h2⟩
theorem Dens.getV : ∀ {ds : List D} {vs : List V} {i : Nat} {v : V}, Dens K H ds vs → vs[i]? = some v → ∃ d, ds[i]? = some d ∧ Den K H d v
  | _, _, _, _, .nil, e => by simp at e
  | _, _, 0, _, .cons h _, e => by simp at e; subst e; exact ⟨_, rfl, h⟩
  | _, _, i + 1, d, .cons _ t, e => by
    obtain ⟨v, h1, h2⟩ := Dens.getV (i := i) (v := d) t (by simpa using e)
    exact ⟨v, by simpa using h1, h2⟩
theorem Dens.take : ∀ {ds : List D} {vs : List V} (n : Nat), Dens K H ds vs → Dens K H (ds.take n) (vs.take n)
  | _, _, 0, _ => .nil
  | _, _, _ + 1, .nil => .nil
  | _, _, n + 1, .cons h t => .cons h (Dens.take n t)
theorem Dens.drop : ∀ {ds : List D} {vs : List V} (n : Nat), Dens K H ds vs → Dens K H (ds.drop n) (vs.drop n)
  | _, _, 0, h => h
  | _, _, _ + 1, .nil => .nil
  | _, _, n + 1, .cons _ t => Dens.drop n t
theorem Dens.set {d : D} {v : V} (h : Den K H d v) : ∀ {ds : List D} {vs : List V} (i : Nat), Dens K H ds vs → Dens K H (ds.set i d) (vs.set i v)
  | _, _, _, .nil => .nil
  | _, _, 0, .cons _ t => .cons h t
  | _, _, i + 1, .cons q t => .cons q (Dens.set h i t)
theorem Dens.eraseIdx : ∀ {ds : List D} {vs : List V} (i : Nat), Dens K H ds vs → Dens K H (ds.eraseIdx i) (vs.eraseIdx i)
  | _, _, _, .nil => .nil
  | _, _, 0, .cons _ t => t
  | _, _, i + 1, .cons q t => .cons q (Dens.eraseIdx i t)
theorem Dens.reverse : ∀ {ds : List D} {vs : List V}, Dens K H ds vs → Dens K H ds.reverse vs.reverse
  | _, _, .nil => .nil
  | _, _, .cons h t => by rw [List.reverse_cons, List.reverse_cons]; exact (Dens.reverse t).append (.cons h .nil)
theorem Dens.dropLast {ds : List D} {vs : List V} (h : Dens K H ds vs) : Dens K H ds.dropLast vs.dropLast := by
  rw [List.dropLast_eq_take, List.dropLast_eq_take, h.length]; exact h.take _

/-- the slots -/
def Sl (K : PySem.W.Frag) (H : Hp) (σ : DS) (σh : L2.St) : Prop := σ.length = σh.length ∧ ∀ (i : Nat) (d : D), σ[i]? = some (some d) → ∃ v, σh[i]? = some (some v) ∧ Den K H d v
theorem Sl.mono {σ : DS} {σh : L2.St} (t : TK K H H') (s : Sl K H σ σh) : Sl K H' σ σh := ⟨s.1, fun i d e => let ⟨v, a, b⟩ := s.2 i d e; ⟨v, a, b.mono t⟩⟩
theorem Sl.set {σ : DS} {σh : L2.St} {d : D} {v : V} (s : Sl K H σ σh) (h : Den K H d v) (i : Nat) : Sl K H (σ.set i (some d)) (σh.set i (some v)) := by
  refine ⟨by simp [s.1], fun j e he => ?_⟩
  by_cases hj : i = j
  · subst hj
    by_cases hi : i < σ.length
    · rw [List.getElem?_set_self hi] at he
      cases he
      exact ⟨v, by rw [List.getElem?_set_self (by rw [← s.1]; exact hi)], h⟩
    · rw [List.getElem?_eq_none (by simpa using hi)] at he; cases he
  · rw [List.getElem?_set_ne hj] at he ⊢
    exact s.2 j e he
theorem Sl.unset {σ : DS} {σh : L2.St} (s : Sl K H σ σh) (i : Nat) (o : Option V) : Sl K H (σ.set i none) (σh.set i o) := by
  refine ⟨by simp [s.1], fun j e he => ?_⟩
  by_cases hj : i = j
  · subst hj
    by_cases hi : i < σ.length
    · rw [List.getElem?_set_self hi] at he; cases he
    · rw [List.getElem?_eq_none (by simpa using hi)] at he; cases he
  · rw [List.getElem?_set_ne hj] at he ⊢
    exact s.2 j e he
theorem Sl.start {ds : List D} {vs : List V} (h : Dens K H ds vs) (n : Nat) : Sl K H (ds.map some ++ List.replicate (n - ds.length) none) (vs.map some ++ List.replicate (n - vs.length) none) := by
  refine ⟨by simp [h.length], fun i d e => ?_⟩
  rcases Nat.lt_or_ge i ds.length with hi | hi
  · rw [List.getElem?_append_left (by simpa using hi)] at e
    rw [List.getElem?_append_left (by simpa [← h.length] using hi)]
    obtain ⟨d', e1, e2⟩ : ∃ d', ds[i]? = some d' ∧ d' = d := by simpa using e
    subst e2
    obtain ⟨v, a, b⟩ := h.get e1
    exact ⟨v, by simp [a], b⟩
  · rw [List.getElem?_append_right (by simpa using hi)] at e
    rw [List.getElem?_replicate] at e
    split at e <;> cases e

/-- the pairs of a dict, the fields of an instance -/
inductive KDens (K : PySem.W.Frag) (H : Hp) {κ : Type} : List (κ × D) → List (κ × V) → Prop
  | nil : KDens K H [] []
  | cons {k : κ} {d : D} {v : V} {ds : List (κ × D)} {vs : List (κ × V)} : Den K H d v → KDens K H ds vs → KDens K H ((k, d) :: ds) ((k, v) :: vs)
theorem KDens.mono {κ : Type} (t : TK K H H') : ∀ {ds : List (κ × D)} {vs : List (κ × V)}, KDens K H ds vs → KDens K H' ds vs
  | _, _, .nil => .nil
  | _, _, .cons h hs => .cons (h.mono t) (KDens.mono t hs)

inductive RO (K : PySem.W.Frag) (H : Hp) (a : Addr) : DO → Prop
  | lst {xs : List D} {vs : List V} : H a = some (.lst vs) → Dens K H xs vs → RO K H a (.lst xs)
  | cst {xs : List D} {vs : List V} {o : HO} : SqL K H a vs → H a = some o → (∀ ws, o ≠ .tup ws) → (∀ ob ws, o ≠ .frz ob (.tup ws)) → Dens K H xs vs → RO K H a (.cst xs)
  | dic {kvs : List (Key × D)} {vs : List (Key × V)} : H a = some (.dK vs) → KDens K H kvs vs → RO K H a (.dic kvs)
  | ins {C dx : Addr} {fs : List (Str × D)} {vs : List (Str × V)} : H a = some (.ins C dx vs) → KDens K H fs vs → RO K H a (.ins C fs)
  | opq {o : HO} : H a = some o → (∀ ws, o ≠ .tup ws) → (∀ ob ws, o ≠ .frz ob (.tup ws)) → RO K H a (.opq o)
def Rep (K : PySem.W.Frag) (H : Hp) (G : GP) : Prop := ∀ a o, G a = some o → RO K H a o

/-- what a step keeps: what is not tracked stands as it stood -/
def Kp (H : Hp) (G : GP) (H' : Hp) (G' : GP) : Prop := ∀ a o, H a = some o → G a = none → H' a = some o ∧ G' a = none
theorem Kp.refl {G : GP} : Kp H G H G := fun _ _ h g => ⟨h, g⟩
theorem Kp.trans {G G' G'' : GP} (x : Kp H G H' G') (y : Kp H' G' H'' G'') : Kp H G H'' G'' := fun a o h g => let ⟨h1, g1⟩ := x a o h g; y a o h1 g1

theorem RO.there {a : Addr} {o : DO} (r : RO K H a o) : ∃ u, H a = some u ∧ (∀ ws, u ≠ .tup ws) ∧ (∀ ob ws, u ≠ .frz ob (.tup ws)) := by
  cases r with
  | lst h _ => exact ⟨_, h, (by intro _ z; cases z), (by intro _ _ z; cases z)⟩
  | cst _ h h1 h2 _ => exact ⟨_, h, h1, h2⟩
  | dic h _ => exact ⟨_, h, (by intro _ z; cases z), (by intro _ _ z; cases z)⟩
  | ins h _ => exact ⟨_, h, (by intro _ z; cases z), (by intro _ _ z; cases z)⟩
  | opq h h1 h2 => exact ⟨_, h, h1, h2⟩
theorem Rep.free {G : GP} (r : Rep K H G) {a : Addr} (h : H a = none) : G a = none := by
  cases e : G a with
  | none => rfl
  | some o => obtain ⟨u, hu, _⟩ := (r a o e).there; rw [h] at hu; cases hu
theorem Rep.tups {G : GP} (r : Rep K H G) {a : Addr} {vs : List V} (h : Rd H a (.tup vs)) : G a = none := by
  cases e : G a with
  | none => rfl
  | some o =>
    obtain ⟨u, hu, h1, h2⟩ := (r a o e).there
    rcases h with h | ⟨ob, h⟩
    · rw [h] at hu; cases hu; exact (h1 _ rfl).elim
    · rw [h] at hu; cases hu; exact (h2 _ _ rfl).elim
theorem Kp.tk {G G' : GP} (f : Kp H G H' G') (r : Rep K H G) : TK K H H' := fun a vs h => by
  rcases h with h | h
  · have g := r.tups h
    rcases h with h | ⟨o, h⟩
    · exact .inl (.inl (f _ _ h g).1)
    · exact .inl (.inr ⟨o, (f _ _ h g).1⟩)
  · exact .inr h
theorem RO.mono {a : Addr} {o : DO} (t : TK K H H') (e : H' a = H a) (r : RO K H a o) : RO K H' a o := by
  cases r with
  | lst h d => exact .lst (e.trans h) (d.mono t)
  | cst q h h1 h2 d =>
    refine .cst ?_ (e.trans h) h1 h2 (d.mono t)
    rcases q with (q | ⟨o, q⟩) | q
    · exact .inl (.inl (e.trans q))
    · exact .inl (.inr ⟨o, e.trans q⟩)
    · exact .inr q
  | dic h d => exact .dic (e.trans h) (d.mono t)
  | ins h d => exact .ins (e.trans h) (d.mono t)
  | opq h h1 h2 => exact .opq (e.trans h) h1 h2

theorem gup_same {G : GP} {a : Addr} {o : DO} : gup G a o a = some o := if_pos rfl
theorem gup_ne {G : GP} {a b : Addr} {o : DO} (h : b ≠ a) : gup G a o b = G b := if_neg h

/-- a new tuple -/
theorem tk_new {p : Addr} {o : HO} (hp : H p = none) : TK K H (upd H p o) := fun a vs h => by
  rcases h with (h | ⟨ob, h⟩) | h
  · exact .inl (.inl (by rw [upd_ne (ne_of_none h hp)]; exact h))
  · exact .inl (.inr ⟨ob, by rw [upd_ne (ne_of_none h hp)]; exact h⟩)
  · exact .inr h
theorem Rep.hid {G : GP} (r : Rep K H G) {p : Addr} {o : HO} (hp : H p = none) : Rep K (upd H p o) G := fun a u e => by
  obtain ⟨w, hw, _⟩ := (r a u e).there
  exact (r a u e).mono (tk_new hp) (upd_ne (ne_of_none hw hp))
theorem Kp.hid {G : GP} {p : Addr} {o : HO} (hp : H p = none) : Kp H G (upd H p o) G := fun a u h g => ⟨by rw [upd_ne (ne_of_none h hp)]; exact h, g⟩
/-- a new object -/
theorem Rep.new {G : GP} (r : Rep K H G) {p : Addr} {o : HO} {u : DO} (hp : H p = none) (n : RO K (upd H p o) p u) : Rep K (upd H p o) (gup G p u) := fun a w e => by
  by_cases ha : a = p
  · subst ha; rw [gup_same] at e; cases e; exact n
  · rw [gup_ne ha] at e; exact r.hid hp a w e
theorem Kp.new {G : GP} {p : Addr} {o : HO} {u : DO} (hp : H p = none) : Kp H G (upd H p o) (gup G p u) := fun a w h g => by
  have ne := ne_of_none h hp
  exact ⟨by rw [upd_ne ne]; exact h, by rw [gup_ne ne]; exact g⟩
/-- an object written -/
theorem tk_put {p : Addr} {o u : HO} (hp : H p = some u) (h1 : ∀ ws, u ≠ .tup ws) (h2 : ∀ ob ws, u ≠ .frz ob (.tup ws)) : TK K H (upd H p o) := fun a vs h => by
  rcases h with (h | ⟨ob, h⟩) | h
  · exact .inl (.inl (by rw [upd_ne (fun e => by subst e; rw [hp] at h; cases h; exact h1 _ rfl)]; exact h))
  · exact .inl (.inr ⟨ob, by rw [upd_ne (fun e => by subst e; rw [hp] at h; cases h; exact h2 _ _ rfl)]; exact h⟩)
  · exact .inr h
theorem Rep.put {G : GP} (r : Rep K H G) {p : Addr} {o : HO} {u u' : DO} (hp : G p = some u) (n : TK K H (upd H p o) → RO K (upd H p o) p u') : Rep K (upd H p o) (gup G p u') := fun a w e => by
  obtain ⟨x, hx, h1, h2⟩ := (r p u hp).there
  have t : TK K H (upd H p o) := tk_put hx h1 h2
  by_cases ha : a = p
  · subst ha; rw [gup_same] at e; cases e; exact n t
  · rw [gup_ne ha] at e; exact (r a w e).mono t (upd_ne ha)
theorem Kp.put {G : GP} {p : Addr} {o : HO} {u u' : DO} (hp : G p = some u) : Kp H G (upd H p o) (gup G p u') := fun a w h g => by
  have ne : a ≠ p := fun e => by subst e; rw [hp] at g; cases g
  exact ⟨by rw [upd_ne ne]; exact h, by rw [gup_ne ne]; exact g⟩
end

/-! ### readings over pure data, and what they are over the heap -/
abbrev DVK := D → GP → Prop
abbrev DTE := DS → GP → DVK → Prop
abbrev DTT := DS → GP → (Bool → GP → Prop) → Prop
abbrev DTA := DS → GP → (List D → GP → Prop) → Prop
structure DEnds where
  nx : DS → GP → Prop
  rt : DVK
  bk : DS → GP → Prop := fun _ _ => False
  ct : DS → GP → Prop := fun _ _ => False
abbrev DTS := DEnds → DS → GP → Prop
abbrev DTG := D → DS → GP → (DS → GP → Prop) → Prop
abbrev DTGs := List D → DS → GP → (DS → GP → Prop) → Prop

section
variable (K : PySem.W.Frag)
/-- what follows a value, over the heap -/
def Aft (H : Hp) (G : GP) (Q : DVK) (Qh : VK) : Prop := ∀ d v G' H', Kp H G H' G' → Den K H' d v → Rep K H' G' → Q d G' → Qh v H'
def AftT (H : Hp) (G : GP) (Q : Bool → GP → Prop) (Qh : Bool → Hp → Prop) : Prop := ∀ b G' H', Kp H G H' G' → Rep K H' G' → Q b G' → Qh b H'
def AftA (H : Hp) (G : GP) (Q : List D → GP → Prop) (Qh : List V → Hp → Prop) : Prop := ∀ ds vs G' H', Kp H G H' G' → Dens K H' ds vs → Rep K H' G' → Q ds G' → Qh vs H'
def AftS (H : Hp) (G : GP) (Q : DS → GP → Prop) (Qh : L2.St → Hp → Prop) : Prop := ∀ σ σh G' H', Kp H G H' G' → Sl K H' σ σh → Rep K H' G' → Q σ G' → Qh σh H'
structure AftE (H : Hp) (G : GP) (E : DEnds) (Eh : Ends) : Prop where
  nx : AftS K H G E.nx Eh.nx
  rt : Aft K H G E.rt Eh.rt
  bk : AftS K H G E.bk Eh.bk
  ct : AftS K H G E.ct Eh.ct
def lE (t : DTE) : TE := fun σh H Qh => ∃ σ G Q, Sl K H σ σh ∧ Rep K H G ∧ t σ G Q ∧ Aft K H G Q Qh
def lT (t : DTT) : TT := fun σh H Qh => ∃ σ G Q, Sl K H σ σh ∧ Rep K H G ∧ t σ G Q ∧ AftT K H G Q Qh
def lA (t : DTA) : TA := fun σh H Qh => ∃ σ G Q, Sl K H σ σh ∧ Rep K H G ∧ t σ G Q ∧ AftA K H G Q Qh
def lS (t : DTS) : TS := fun Eh σh H => ∃ σ G E, Sl K H σ σh ∧ Rep K H G ∧ t E σ G ∧ AftE K H G E Eh
def lG (t : DTG) : TG := fun v σh H Qh => ∃ d σ G Q, Den K H d v ∧ Sl K H σ σh ∧ Rep K H G ∧ t d σ G Q ∧ AftS K H G Q Qh
def lGs (t : DTGs) : TGs := fun vs σh H Qh => ∃ ds σ G Q, Dens K H ds vs ∧ Sl K H σ σh ∧ Rep K H G ∧ t ds σ G Q ∧ AftS K H G Q Qh
end
section
variable {K : PySem.W.Frag} {H H' : Hp} {G G' : GP}
theorem Aft.after {Q : DVK} {Qh : VK} (a : Aft K H G Q Qh) (f : Kp H G H' G') : Aft K H' G' Q Qh := fun d v G2 H2 f2 h r q => a d v G2 H2 (f.trans f2) h r q
theorem AftT.after {Q : Bool → GP → Prop} {Qh : Bool → Hp → Prop} (a : AftT K H G Q Qh) (f : Kp H G H' G') : AftT K H' G' Q Qh := fun d G2 H2 f2 r q => a d G2 H2 (f.trans f2) r q
theorem AftA.after {Q : List D → GP → Prop} {Qh : List V → Hp → Prop} (a : AftA K H G Q Qh) (f : Kp H G H' G') : AftA K H' G' Q Qh := fun d v G2 H2 f2 h r q => a d v G2 H2 (f.trans f2) h r q
theorem AftS.after {Q : DS → GP → Prop} {Qh : L2.St → Hp → Prop} (a : AftS K H G Q Qh) (f : Kp H G H' G') : AftS K H' G' Q Qh := fun d v G2 H2 f2 h r q => a d v G2 H2 (f.trans f2) h r q
theorem AftE.after {E : DEnds} {Eh : Ends} (a : AftE K H G E Eh) (f : Kp H G H' G') : AftE K H' G' E Eh := ⟨a.nx.after f, a.rt.after f, a.bk.after f, a.ct.after f⟩
end

/-! ### weakening of the hand layer's judgements -/
section
variable {X : Cx}
theorem PE.imp {e : Expr} {t t' : TE} (h : PE X e t) (i : ∀ σ H Q, t' σ H Q → t σ H Q) : PE X e t' := ⟨fun pins s σ H Q I q => h.run pins s σ H Q I (i σ H Q q)⟩
theorem PT.imp {e : Expr} {t t' : TT} (h : PT X e t) (i : ∀ σ H Q, t' σ H Q → t σ H Q) : PT X e t' := ⟨fun pins s σ H Q I q => h.run pins s σ H Q I (i σ H Q q)⟩
theorem PW.imp {e : Expr} {t t' : TT} (h : PW X e t) (i : ∀ σ H Q, t' σ H Q → t σ H Q) : PW X e t' := ⟨fun wh pins s σ H Q I q => h.run wh pins s σ H Q I (i σ H Q q)⟩
theorem PA.imp {es : List Expr} {t t' : TA} (h : PA X es t) (i : ∀ σ H Q, t' σ H Q → t σ H Q) : PA X es t' := ⟨fun pos pins s σ H Q I q => h.run pos pins s σ H Q I (i σ H Q q)⟩
theorem PS.imp {st : Stmt} {t t' : TS} (h : PS X st t) (i : ∀ D σ H, t' D σ H → t D σ H) : PS X st t' := ⟨fun pins s σ H D I q => h.run pins s σ H D I (i D σ H q)⟩
theorem PSs.imp {st : List Stmt} {t t' : TS} (h : PSs X st t) (i : ∀ D σ H, t' D σ H → t D σ H) : PSs X st t' := ⟨fun pins s σ H D I q => h.run pins s σ H D I (i D σ H q)⟩
theorem PG.imp {e : Expr} {t t' : TG} (h : PG X e t) (i : ∀ v σ H Q, t' v σ H Q → t v σ H Q) : PG X e t' := ⟨fun pins s σ H v u Q I r q => h.run pins s σ H v u Q I r (i v σ H Q q)⟩
theorem PGs.imp {es : List Expr} {t t' : TGs} (h : PGs X es t) (i : ∀ v σ H Q, t' v σ H Q → t v σ H Q) : PGs X es t' := ⟨fun pins s σ H v u Q I r q => h.run pins s σ H v u Q I r (i v σ H Q q)⟩
theorem PI.imp {tg e : Expr} {t t' : TI} (h : PI X tg e t) (i : ∀ σ H Q, t' σ H Q → t σ H Q) : PI X tg e t' := ⟨fun pins s σ H Q I q => h.run pins s σ H Q I (i σ H Q q)⟩
theorem PI.or {tg e : Expr} {t t' : TI} (h : PI X tg e t) (h' : PI X tg e t') : PI X tg e (fun σ H Q => t σ H Q ∨ t' σ H Q) := ⟨fun pins s σ H Q I q => q.elim (h.run pins s σ H Q I) (h'.run pins s σ H Q I)⟩
end

abbrev DE (X : Cx) (e : Expr) (t : DTE) : Prop := PE X e (lE X.K t)
abbrev DT (X : Cx) (e : Expr) (t : DTT) : Prop := PT X e (lT X.K t)
abbrev DW (X : Cx) (e : Expr) (t : DTT) : Prop := PW X e (lT X.K t)
abbrev DA (X : Cx) (es : List Expr) (t : DTA) : Prop := PA X es (lA X.K t)
abbrev DSt (X : Cx) (st : Stmt) (t : DTS) : Prop := PS X st (lS X.K t)
abbrev DSs (X : Cx) (st : List Stmt) (t : DTS) : Prop := PSs X st (lS X.K t)
abbrev DG (X : Cx) (e : Expr) (t : DTG) : Prop := PG X e (lG X.K t)
abbrev DGs (X : Cx) (es : List Expr) (t : DTGs) : Prop := PGs X es (lGs X.K t)

/-! ### expressions -/
def eVar (i : Nat) : DTE := fun σ G Q => match σ[i]? with
  | some (some d) => Q d G
  | _ => False
def eC (d : D) : DTE := fun _ G Q => Q d G
section
variable {X : Cx} {pos : Pos}
theorem de_var (i : Nat) {x : Str} (hN : X.N[i]? = some x := by rfl) (hv : Vis X.env.scope x := by first | exact Or.inl rfl | exact Or.inr (Or.inl rfl) | exact Or.inr (Or.inr rfl)) (hd : (x == ("__debug__" : Str)) = false := by decide)
    (hcd : (x == ("__classdict__" : Str)) = false := by decide) : DE X (.Name x pos) (eVar i) := by
  refine PE.imp (pe_var hN hv hd hcd) ?_
  rintro σh H Qh ⟨σ, G, Q, sl, rp, t, af⟩
  unfold eVar at t
  split at t
  · rename_i d e
    obtain ⟨v, ev, dv⟩ := sl.2 i d e
    exact ⟨v, ev, af d v G H .refl dv rp t⟩
  · exact t.elim
theorem de_cst {e : Expr} {d : D} {v : V} (h : PE X e (tC v)) (r : ∀ H, Den X.K H d v) : DE X e (eC d) := by
  refine PE.imp h ?_
  rintro σh H Qh ⟨σ, G, Q, sl, rp, t, af⟩
  exact af d v G H .refl (r H) rp t
theorem de_int {i j} : DE X (.Constant (.int i) j pos) (eC (.int i)) := de_cst pe_int fun _ => .int
theorem de_bl {b j} : DE X (.Constant (.bool b) j pos) (eC (.bl b)) := de_cst pe_bl fun _ => .bl
theorem de_non {j} : DE X (.Constant .none j pos) (eC .non) := de_cst pe_non fun _ => .non
theorem de_str {x j} : DE X (.Constant (.str x) j pos) (eC (.str x)) := de_cst pe_str fun _ => .str

/-- arguments -/
def aNil : DTA := fun _ G Q => Q [] G
def aCons (te : DTE) (tr : DTA) : DTA := fun σ G Q => te σ G fun x G1 => tr σ G1 fun xs G2 => Q (x :: xs) G2
theorem da_nil : DA X [] aNil := by
  refine PA.imp pa_nil ?_
  rintro σh H Qh ⟨σ, G, Q, sl, rp, t, af⟩
  exact af [] [] G H .refl .nil rp t
theorem da_cons {e : Expr} {es : List Expr} {te : DTE} {tr : DTA} (he : DE X e te) (hr : DA X es tr) (hs : starEach (e :: es) X.env = (false, eval e X.env) :: starEach es X.env := by rfl) : DA X (e :: es) (aCons te tr) := by
  refine PA.imp (pa_cons he hr hs) ?_
  rintro σh H Qh ⟨σ, G, Q, sl, rp, t, af⟩
  refine ⟨σ, G, _, sl, rp, t, fun d v G1 H1 f1 dv rp1 t1 => ?_⟩
  refine ⟨σ, G1, _, sl.mono (f1.tk rp), rp1, t1, fun ds vs G2 H2 f2 dvs rp2 t2 => ?_⟩
  exact af (d :: ds) (v :: vs) G2 H2 (f1.trans f2) (.cons (dv.mono (f2.tk rp1)) dvs) rp2 t2
def eTup (t : DTA) : DTE := fun σ G Q => t σ G fun xs G1 => xs.length ≤ sizeLine ∧ Q (.tup xs) G1
def eLst (t : DTA) : DTE := fun σ G Q => t σ G fun xs G1 => xs.length ≤ sizeLine ∧ ∀ p, G1 p = none → Q (.ref p) (gup G1 p (.lst xs))
theorem de_tup {es : List Expr} {k : Nat} {t : DTA} (h : DA X es t) : DE X (.Tuple es k pos) (eTup t) := by
  refine PE.imp (pe_tup h) ?_
  rintro σh H Qh ⟨σ, G, Q, sl, rp, t, af⟩
  refine ⟨σ, G, _, sl, rp, t, fun ds vs G1 H1 f1 dvs rp1 t1 => ?_⟩
  refine ⟨by rw [← dvs.length]; exact t1.1, fun p hp => ?_⟩
  exact af (.tup ds) _ G1 _ (f1.trans (Kp.hid hp)) (.tup (.inl (.inl upd_same)) (dvs.mono (tk_new hp))) (rp1.hid hp) t1.2
theorem de_lst {es : List Expr} {t : DTA} (h : DA X es t) : DE X (.List es pos) (eLst t) := by
  refine PE.imp (pe_lst h) ?_
  rintro σh H Qh ⟨σ, G, Q, sl, rp, t, af⟩
  refine ⟨σ, G, _, sl, rp, t, fun ds vs G1 H1 f1 dvs rp1 t1 => ?_⟩
  refine ⟨by rw [← dvs.length]; exact t1.1, fun p hp => ?_⟩
  exact af (.ref p) _ _ _ (f1.trans (Kp.new hp)) .ref (rp1.new hp (.lst upd_same (dvs.mono (tk_new hp)))) (t1.2 p (rp1.free hp))
end
end Dn

namespace Dn
open PySem PySem.Spec PyProof.Rows L2

/-! ### operators by values -/
abbrev DR2 := D → D → GP → DVK → Prop
abbrev DR1 := D → GP → DVK → Prop
abbrev DRn := List D → GP → DVK → Prop
def lR2 (K : PySem.W.Frag) (r : DR2) : R2 := fun x y H Qh => ∃ d e G Q, Den K H d x ∧ Den K H e y ∧ Rep K H G ∧ r d e G Q ∧ Aft K H G Q Qh
def lR1 (K : PySem.W.Frag) (r : DR1) : V → Hp → VK → Prop := fun x H Qh => ∃ d G Q, Den K H d x ∧ Rep K H G ∧ r d G Q ∧ Aft K H G Q Qh
def lRn (K : PySem.W.Frag) (r : DRn) : List V → Hp → VK → Prop := fun xs H Qh => ∃ ds G Q, Dens K H ds xs ∧ Rep K H G ∧ r ds G Q ∧ Aft K H G Q Qh
def lRm (K : PySem.W.Frag) (r : D → DRn) : V → List V → Hp → VK → Prop := fun x xs H Qh => ∃ d ds G Q, Den K H d x ∧ Dens K H ds xs ∧ Rep K H G ∧ r d ds G Q ∧ Aft K H G Q Qh
abbrev DOp (X : Cx) (f : Value → Value → Sem Value) (r : DR2) : Prop := OpR X f (lR2 X.K r)
abbrev DUn (X : Cx) (f : Value → Sem Value) (r : DR1) : Prop := UnR X f (lR1 X.K r)
abbrev DCa (X : Cx) (f : Value) (r : DRn) : Prop := CallR X f (lRn X.K r)
abbrev DIx (X : Cx) (r : DR2) : Prop := IxR X (lR2 X.K r)
abbrev DMt (X : Cx) (id : String) (r : D → DRn) : Prop := MtR X id (lRm X.K r)

def eOp (r : DR2) (ta tb : DTE) : DTE := fun σ G Q => ta σ G fun x G1 => tb σ G1 fun y G2 => r x y G2 Q
def eUn (r : DR1) (ta : DTE) : DTE := fun σ G Q => ta σ G fun x G1 => r x G1 Q
def eTest (t : DTE) : DTT := fun σ G Q => t σ G fun x G1 => match x with
  | .bl b => Q b G1
  | _ => False
section
variable {X : Cx} {pos : Pos} {a b c : Expr} {ta tb tc : DTE}
theorem l_op {r : DR2} {σh : L2.St} {H : Hp} {Qh : VK} (h : lE X.K (eOp r ta tb) σh H Qh) : tOp (lR2 X.K r) (lE X.K ta) (lE X.K tb) σh H Qh := by
  obtain ⟨σ, G, Q, sl, rp, t, af⟩ := h
  refine ⟨σ, G, _, sl, rp, t, fun d v G1 H1 f1 dv rp1 t1 => ?_⟩
  refine ⟨σ, G1, _, sl.mono (f1.tk rp), rp1, t1, fun e u G2 H2 f2 du rp2 t2 => ?_⟩
  exact ⟨d, e, G2, Q, dv.mono (f2.tk rp1), du, rp2, t2, af.after (f1.trans f2)⟩
theorem de_op {op : Operator} {r : DR2} (ho : DOp X (binaryOp op) r) (ha : DE X a ta) (hb : DE X b tb) : DE X (.BinOp a op b pos) (eOp r ta tb) :=
  PE.imp (pe_op ho ha hb) fun _ _ _ h => l_op h
theorem de_un {op : UnaryOp} {r : DR1} (ho : DUn X (unaryOp op) r) (ha : DE X a ta) : DE X (.UnaryOp op a pos) (eUn r ta) := by
  refine PE.imp (pe_un ho ha) ?_
  rintro σh H Qh ⟨σ, G, Q, sl, rp, t, af⟩
  exact ⟨σ, G, _, sl, rp, t, fun d v G1 H1 f1 dv rp1 t1 => ⟨d, G1, Q, dv, rp1, t1, af.after f1⟩⟩
theorem de_cmp {op : CmpOp} {r : DR2} (ho : DOp X (compareOp op) r) (ha : DE X a ta) (hb : DE X b tb) (hm : behindInMarks op b = false := by first | exact nomark _ | rfl) : DE X (.Compare a [op] [b] pos) (eOp r ta tb) :=
  PE.imp (pe_cmpR ho ha hb hm) fun _ _ _ h => l_op h
theorem l_test {t : DTE} {σh : L2.St} {H : Hp} {Qh : Bool → Hp → Prop} (h : lT X.K (eTest t) σh H Qh) : lE X.K t σh H fun x H' => ∃ k, x = .bl k ∧ Qh k H' := by
  obtain ⟨σ, G, Q, sl, rp, t, af⟩ := h
  refine ⟨σ, G, _, sl, rp, t, fun d v G1 H1 f1 dv rp1 t1 => ?_⟩
  split at t1
  · cases dv; exact ⟨_, rfl, af _ _ _ f1 rp1 t1⟩
  · exact t1.elim
theorem dt_cmp {op : CmpOp} {r : DR2} (ho : DOp X (compareOp op) r) (ha : DE X a ta) (hb : DE X b tb) (hm : behindInMarks op b = false := by first | exact nomark _ | rfl) : DT X (.Compare a [op] [b] pos) (eTest (eOp r ta tb)) :=
  PT.imp (pt_cmpR ho ha hb hm) fun _ _ _ h => by
    obtain ⟨σ, G, Q, sl, rp, t, af⟩ := h
    have := l_test (X := X) (t := eOp r ta tb) ⟨σ, G, Q, sl, rp, t, af⟩
    exact l_op this
/-- a chain a op b op' c -/
def eChain (r r' : DR2) (ta tb tc : DTE) : DTE := fun σ G Q => ta σ G fun x G1 => tb σ G1 fun y G2 => r x y G2 fun z G3 => match z with
  | .bl true => tc σ G3 fun w G4 => r' y w G4 Q
  | .bl false => Q (.bl false) G3
  | _ => False
/-- an expression that yields a truth value, as a test -/
theorem dt_val {e : Expr} {t : DTE} (h : DE X e t) (he : ∀ whole, isTrue e X.env whole = (do let v ← whole; standAt e.pos; holding [v] (truthy v)) := by intro _; rfl) : DT X e (eTest t) :=
  PT.imp (pt_val h he) fun _ _ _ h => l_test h
/-- truth of any value -/
def rTru : D → GP → (Bool → GP → Prop) → Prop := fun x G Q => match x with
  | .non => Q false G
  | .bl b => Q b G
  | .int i => Q (i != 0) G
  | .str s => s.length ≤ sizeLine ∧ Q ((s.length : Int) != 0) G
  | .tup xs => Q (!xs.isEmpty) G
  | .ref a => match G a with
    | some (.lst xs) => Q (!xs.isEmpty) G
    | some (.cst xs) => Q (!xs.isEmpty) G
    | some (.dic kvs) => Q (!kvs.isEmpty) G
    | _ => False
  | _ => False
theorem Dens.isEmpty {K : PySem.W.Frag} {H : Hp} {ds : List D} {vs : List V} (h : Dens K H ds vs) : ds.isEmpty = vs.isEmpty := by cases h <;> rfl
theorem KDens.isEmpty {K : PySem.W.Frag} {H : Hp} {κ : Type} {ds : List (κ × D)} {vs : List (κ × V)} (h : KDens K H ds vs) : ds.isEmpty = vs.isEmpty := by cases h <;> rfl
theorem tru_of {H : Hp} {G : GP} {d : D} {v : V} {Q : Bool → GP → Prop} {Qh : Bool → Hp → Prop} (rp : Rep X.K H G) (dv : Den X.K H d v) (t : rTru d G Q) (af : AftT X.K H G Q Qh) : ∃ k, TruV X.K v H k ∧ Qh k H := by
  cases dv with
  | non => exact ⟨_, rfl, af _ _ _ .refl rp t⟩
  | bl => exact ⟨_, rfl, af _ _ _ .refl rp t⟩
  | int => exact ⟨_, rfl, af _ _ _ .refl rp t⟩
  | str => exact ⟨_, ⟨t.1, rfl⟩, af _ _ _ .refl rp t.2⟩
  | tup h hs => exact ⟨_, .inr (.inl ⟨_, h, rfl⟩), af _ _ _ .refl rp (by rw [← hs.isEmpty]; exact t)⟩
  | ty => exact t.elim
  | ref =>
    simp only [rTru] at t
    split at t
    · rename_i a xs e
      cases rp _ _ e with
      | lst h hs => exact ⟨_, .inl ⟨_, .of h, rfl⟩, af _ _ _ .refl rp (by rw [← hs.isEmpty]; exact t)⟩
    · rename_i a xs e
      cases rp _ _ e with
      | cst h _ _ _ hs => exact ⟨_, .inl ⟨_, h, rfl⟩, af _ _ _ .refl rp (by rw [← hs.isEmpty]; exact t)⟩
    · rename_i a xs e
      cases rp _ _ e with
      | dic h hs => exact ⟨_, .inr (.inr ⟨_, h, rfl⟩), af _ _ _ .refl rp (by rw [← hs.isEmpty]; exact t)⟩
    · exact t.elim
def eTru (t : DTE) : DTT := fun σ G Q => t σ G fun x G1 => rTru x G1 Q
theorem dt_tru {e : Expr} {t : DTE} (h : DE X e t) (he : ∀ whole, isTrue e X.env whole = (do let v ← whole; standAt e.pos; holding [v] (truthy v)) := by intro _; rfl) : DT X e (eTru t) := by
  refine PT.imp (pt_truth h he) ?_
  rintro σh H Qh ⟨σ, G, Q, sl, rp, t, af⟩
  exact ⟨σ, G, _, sl, rp, t, fun d v G1 H1 f1 dv rp1 t1 => tru_of rp1 dv t1 (af.after f1)⟩

/-! ### and, or, not -/
variable {tA tB : DTT} {rest : List Expr}
def bAnd (t u : DTT) : DTT := fun σ G Q => t σ G fun c G1 => if c = true then u σ G1 Q else Q false G1
def bOr (t u : DTT) : DTT := fun σ G Q => t σ G fun c G1 => if c = true then Q true G1 else u σ G1 Q
def bNot (t : DTT) : DTT := fun σ G Q => t σ G fun c G1 => Q (!c) G1
theorem dw_and1 (ha : DT X a tA) : DW X (.BoolOp .And [a] pos) tA := pw_and1 ha
theorem dw_or1 (ha : DT X a tA) : DW X (.BoolOp .Or [a] pos) tA := pw_or1 ha
theorem dw_and (ha : DT X a tA) (hb : DW X (.BoolOp .And (b :: rest) pos) tB) : DW X (.BoolOp .And (a :: b :: rest) pos) (bAnd tA tB) := by
  refine PW.imp (pw_and ha hb) ?_
  rintro σh H Qh ⟨σ, G, Q, sl, rp, t, af⟩
  refine ⟨σ, G, _, sl, rp, t, fun k G1 H1 f1 rp1 t1 => ?_⟩
  cases k with
  | true => exact iteT ⟨σ, G1, Q, sl.mono (f1.tk rp), rp1, t1, af.after f1⟩
  | false => exact iteF (af _ _ _ f1 rp1 t1)
theorem dw_or (ha : DT X a tA) (hb : DW X (.BoolOp .Or (b :: rest) pos) tB) : DW X (.BoolOp .Or (a :: b :: rest) pos) (bOr tA tB) := by
  refine PW.imp (pw_or ha hb) ?_
  rintro σh H Qh ⟨σ, G, Q, sl, rp, t, af⟩
  refine ⟨σ, G, _, sl, rp, t, fun k G1 H1 f1 rp1 t1 => ?_⟩
  cases k with
  | true => exact iteT (af _ _ _ f1 rp1 t1)
  | false => exact iteF ⟨σ, G1, Q, sl.mono (f1.tk rp), rp1, t1, af.after f1⟩
theorem dt_w {t : DTT} {e : Expr} (h : DW X e t) : DT X e t := h.pt
theorem dt_not (ha : DT X a tA) : DT X (.UnaryOp .Not a pos) (bNot tA) := by
  refine PT.imp (pt_not ha) ?_
  rintro σh H Qh ⟨σ, G, Q, sl, rp, t, af⟩
  exact ⟨σ, G, _, sl, rp, t, fun k G1 H1 f1 rp1 t1 => af _ _ _ f1 rp1 t1⟩
def eIf (c : DTT) (t u : DTE) : DTE := fun σ G Q => c σ G fun b G1 => if b = true then t σ G1 Q else u σ G1 Q
theorem de_if (hc : DT X c tA) (ha : DE X a ta) (hb : DE X b tb) : DE X (.IfExp c a b pos) (eIf tA ta tb) := by
  refine PE.imp (pe_ifExp hc ha hb) ?_
  rintro σh H Qh ⟨σ, G, Q, sl, rp, t, af⟩
  refine ⟨σ, G, _, sl, rp, t, fun k G1 H1 f1 rp1 t1 => ?_⟩
  cases k with
  | true => exact iteT ⟨σ, G1, Q, sl.mono (f1.tk rp), rp1, t1, af.after f1⟩
  | false => exact iteF ⟨σ, G1, Q, sl.mono (f1.tk rp), rp1, t1, af.after f1⟩

/-! ### arithmetic -/
/-- ints alone -/
def rInt (C : Int → Int → Prop) (g : Int → Int → D) : DR2 := fun x y G Q => match x, y with
  | .int i, .int j => C i j ∧ Q (g i j) G
  | _, _ => False
theorem do_int {f : Value → Value → Sem Value} {C : Int → Int → Prop} {g : Int → Int → D} {gv : Int → Int → V} (h : OpR X f (rI C gv)) (hg : ∀ H i j, Den X.K H (g i j) (gv i j)) : DOp X f (rInt C g) := by
  intro pins s σ H x y v u Qh I rx ry ⟨d, e, G, Q, dx, dy, rp, t, af⟩
  unfold rInt at t
  split at t
  · cases dx; cases dy
    exact h pins s σ H _ _ v u Qh I rx ry ⟨_, _, rfl, rfl, t.1, af _ _ _ _ .refl (hg _ _ _) rp t.2⟩
  · exact t.elim
def rAdd : DR2 := fun x y G Q => match x, y with
  | .int i, .int j => Q (.int (i + j)) G
  | .str a, .str b => a.length + b.length ≤ sizeLine ∧ Q (.str (a ++ b)) G
  | .tup a, .tup b => a.length + b.length ≤ sizeLine ∧ Q (.tup (a ++ b)) G
  | .ref a, .ref b => match G a, G b with
    | some (.lst xs), some (.lst ys) => xs.length + ys.length ≤ sizeLine ∧ ∀ p, G p = none → Q (.ref p) (gup G p (.lst (xs ++ ys)))
    | _, _ => False
  | _, _ => False
theorem do_add : DOp X (binaryOp .Add) rAdd := by
  intro pins s σ H x y v u Qh I rx ry ⟨d, e, G, Q, dx, dy, rp, t, af⟩
  unfold rAdd at t
  split at t
  · cases dx; cases dy
    exact op_add pins s σ H _ _ v u Qh I rx ry ⟨_, _, rfl, rfl, af _ _ _ _ .refl .int rp t⟩
  · cases dx; cases dy
    exact op_add_str pins s σ H _ _ v u Qh I rx ry ⟨_, _, rfl, rfl, t.1, af _ _ _ _ .refl .str rp t.2⟩
  · cases dx with
    | tup h1 h1s =>
    cases dy with
    | tup h2 h2s =>
    refine op_catA pins s σ H _ _ v u Qh I rx ry ⟨_, _, _, _, rfl, rfl, h1, h2, by rw [← h1s.length, ← h2s.length]; exact t.1, fun e => ?_, fun _ e => ?_, fun _ _ p hp => ?_⟩
    · refine af _ _ _ _ .refl (.tup h2 ?_) rp t.2
      subst e; cases h1s; exact h2s
    · refine af _ _ _ _ .refl (.tup h1 ?_) rp t.2
      subst e; cases h2s; rw [List.append_nil]; exact h1s
    · exact af _ _ _ _ (Kp.hid hp) (.tup (.inl (.inl upd_same)) ((h1s.append h2s).mono (tk_new hp))) (rp.hid hp) t.2
  · cases dx; cases dy
    rename_i a b
    split at t
    · rename_i xs ys e1 e2
      cases rp _ _ e1 with
      | lst h1 h1s =>
      cases rp _ _ e2 with
      | lst h2 h2s =>
      refine op_cat pins s σ H _ _ v u Qh I rx ry ⟨_, _, _, _, rfl, rfl, h1, h2, by rw [← h1s.length, ← h2s.length]; exact t.1, fun p hp => ?_⟩
      exact af _ _ _ _ (Kp.new hp) .ref (rp.new hp (.lst upd_same ((h1s.append h2s).mono (tk_new hp)))) (t.2 p (rp.free hp))
    · exact t.elim
  · exact t.elim
theorem do_sub : DOp X (binaryOp .Sub) (rInt (fun _ _ => True) fun i j => .int (i - j)) := do_int (gv := fun i j => .int (i - j)) (fun pins s σ H x y v u Q I rx ry ⟨i, j, e1, e2, _, q⟩ => op_sub pins s σ H x y v u Q I rx ry ⟨i, j, e1, e2, q⟩) fun _ _ _ => .int
theorem do_mul : DOp X (binaryOp .Mult) (rInt CMul fun i j => .int (i * j)) := do_int op_mul fun _ _ _ => .int
theorem do_fdiv : DOp X (binaryOp .FloorDiv) (rInt CDivN fun i j => .int (i.fdiv j)) := do_int op_fdivN fun _ _ _ => .int
theorem do_mod : DOp X (binaryOp .Mod) (rInt (fun _ j => j ≠ 0) fun i j => .int (i.fmod j)) := do_int op_modN fun _ _ _ => .int
theorem do_pow : DOp X (binaryOp .Pow) (rInt CPow fun i j => .int (i ^ j.toNat)) := do_int op_pow fun _ _ _ => .int
def rNeg : DR1 := fun x G Q => match x with
  | .int i => Q (.int (-i)) G
  | _ => False
theorem du_neg : DUn X (unaryOp .USub) rNeg := by
  intro pins s σ H x v Qh I rx ⟨d, G, Q, dx, rp, t, af⟩
  unfold rNeg at t
  split at t
  · cases dx
    exact un_neg pins s σ H _ v Qh I rx ⟨_, rfl, af _ _ _ _ .refl .int rp t⟩
  · exact t.elim
theorem do_of {f : Value → Value → Sem Value} {p : Int → Int → Bool} (h : OpR X f (rI0 fun i j => .bl (p i j))) : DOp X f (rInt (fun _ _ => True) fun i j => .bl (p i j)) :=
  do_int (gv := fun i j => .bl (p i j)) (fun pins s σ H x y v u Q I rx ry ⟨i, j, e1, e2, _, q⟩ => h pins s σ H x y v u Q I rx ry ⟨i, j, e1, e2, q⟩) fun _ _ _ => .bl
theorem do_lt : DOp X (compareOp .Lt) (rInt (fun _ _ => True) fun i j => .bl (decide (i < j))) := do_of op_lt
theorem do_le : DOp X (compareOp .LtE) (rInt (fun _ _ => True) fun i j => .bl (decide (i ≤ j))) := do_of op_le
theorem do_gt : DOp X (compareOp .Gt) (rInt (fun _ _ => True) fun i j => .bl (decide (j < i))) := do_of op_gt
theorem do_ge : DOp X (compareOp .GtE) (rInt (fun _ _ => True) fun i j => .bl (decide (j ≤ i))) := do_of op_ge
/-- is None -/
def rIsN (k : Bool) : DR2 := fun x y G Q => match x, y with
  | .non, .non => Q (.bl k) G
  | _, .non => Q (.bl (!k)) G
  | _, _ => False
theorem non_iff {K : PySem.W.Frag} {H : Hp} {d : D} {v : V} (h : Den K H d v) (n : d ≠ .non) : v ≠ .non := by
  cases h <;> first | exact (n rfl).elim | (intro e; cases e)
theorem do_isN : DOp X (compareOp .Is) (rIsN true) := by
  intro pins s σ H x y v u Qh I rx ry ⟨d, e, G, Q, dx, dy, rp, t, af⟩
  unfold rIsN at t
  split at t
  · cases dx; cases dy
    exact op_isN pins s σ H _ _ v u Qh I rx ry ⟨rfl, af _ _ _ _ .refl .bl rp t⟩
  · rename_i n
    cases dy
    refine op_isN pins s σ H _ _ v u Qh I rx ry ⟨rfl, ?_⟩
    rw [decide_eq_false (non_iff dx n)]
    exact af _ _ _ _ .refl .bl rp t
  · exact t.elim
theorem do_notN : DOp X (compareOp .IsNot) (rIsN false) := by
  intro pins s σ H x y v u Qh I rx ry ⟨d, e, G, Q, dx, dy, rp, t, af⟩
  unfold rIsN at t
  split at t
  · cases dx; cases dy
    exact op_notN pins s σ H _ _ v u Qh I rx ry ⟨rfl, af _ _ _ _ .refl .bl rp t⟩
  · rename_i n
    cases dy
    refine op_notN pins s σ H _ _ v u Qh I rx ry ⟨rfl, ?_⟩
    rw [decide_eq_false (non_iff dx n)]
    exact af _ _ _ _ .refl .bl rp t
  · exact t.elim
end
end Dn

namespace Dn
open PySem PySem.Spec PyProof.Rows L2

/-! ### equality -/
mutual
def py0 : D → Option PyData
  | .non => some .none
  | .bl b => some (.bool b)
  | .int i => some (.int i)
  | .str s => some (.str s)
  | .tup xs => (py0s xs).map .tuple
  | .ref _ => none
  | .ty _ => none
def py0s : List D → Option (List PyData)
  | [] => some []
  | d :: ds => match py0 d, py0s ds with
    | some p, some ps => some (p :: ps)
    | _, _ => none
end
/-- what a value is as data: no object within it, but for a list at the top -/
def py (G : GP) : D → Option PyData
  | .ref a => match G a with
    | some (.lst xs) => (py0s xs).map .list
    | some (.cst xs) => (py0s xs).map .list
    | _ => none
  | d => py0 d
section
variable {K : PySem.W.Frag} {H : Hp} {G : GP}
mutual
theorem den_py0 : ∀ {d : D} {v : V}, Den K H d v → ∀ {p : PyData}, py0 d = some p → Dp K H v p
  | _, _, .non, p, e => by simp only [py0] at e; cases e; exact .non
  | _, _, .bl, p, e => by simp only [py0] at e; cases e; exact .bl _
  | _, _, .int, p, e => by simp only [py0] at e; cases e; exact .int _
  | _, _, .str, p, e => by simp only [py0] at e; cases e; exact .str _
  | _, _, .ref, p, e => by simp only [py0] at e; cases e
  | _, _, .ty, p, e => by simp only [py0] at e; cases e
  | _, _, .tup h hs, p, e => by
    simp only [py0, Option.map_eq_some_iff] at e
    obtain ⟨ps, e1, rfl⟩ := e
    exact .tup h (den_py0s hs e1)
theorem den_py0s : ∀ {ds : List D} {vs : List V}, Dens K H ds vs → ∀ {ps : List PyData}, py0s ds = some ps → DpAll K H vs ps
  | _, _, .nil, ps, e => by simp only [py0s] at e; cases e; exact .nil
  | _, _, .cons h hs, ps, e => by
    simp only [py0s] at e
    split at e
    · rename_i p qs e1 e2
      cases e
      exact .cons (den_py0 h e1) (den_py0s hs e2)
    · cases e
end
theorem den_py {d : D} {v : V} {p : PyData} (rp : Rep K H G) (h : Den K H d v) (e : py G d = some p) : Dp K H v p := by
  unfold py at e
  split at e
  · cases h
    split at e
    · rename_i a xs e1
      obtain ⟨ps, e2, rfl⟩ := Option.map_eq_some_iff.mp e
      cases rp _ _ e1 with
      | lst h1 hs => exact .lst (.of h1) (den_py0s hs e2)
    · rename_i a xs e1
      obtain ⟨ps, e2, rfl⟩ := Option.map_eq_some_iff.mp e
      cases rp _ _ e1 with
      | cst h1 _ _ _ hs => exact .lst h1 (den_py0s hs e2)
    · cases e
  · exact den_py0 h e
end
def rEq (k : Bool) : DR2 := fun x y G Q => match x, y with
  | .str a, .str b => Q (.bl (decide (a = b) == k)) G
  | .int a, .int b => Q (.bl (decide (a = b) == k)) G
  | .bl a, .bl b => Q (.bl (decide (a = b) == k)) G
  | x, y => match py G x, py G y with
    | some p, some q => SeqAt.shaped p = true ∧ SeqAt.shaped q = true ∧ Q (.bl (PyData.eqv p q == k)) G
    | _, _ => False
theorem beq_t (b : Bool) : (b == true) = b := by cases b <;> rfl
theorem beq_f (b : Bool) : (b == false) = !b := by cases b <;> rfl
section
variable {X : Cx} {pos : Pos} {a b c : Expr} {ta tb tc : DTE}
theorem V_str {a b : Str} : decide (V.str a = V.str b) = decide (a = b) := decide_eq_decide.mpr ⟨fun e => by cases e; rfl, fun e => by rw [e]⟩
theorem V_int {a b : Int} : decide (V.int a = V.int b) = decide (a = b) := decide_eq_decide.mpr ⟨fun e => by cases e; rfl, fun e => by rw [e]⟩
theorem V_bl {a b : Bool} : decide (V.bl a = V.bl b) = decide (a = b) := decide_eq_decide.mpr ⟨fun e => by cases e; rfl, fun e => by rw [e]⟩
theorem do_eq (hu : X.A.units + 64 < cLine) : DOp X (compareOp .Eq) (rEq true) := by
  intro pins s σ H x y v u Qh I rx ry ⟨d, e, G, Q, dx, dy, rp, t, af⟩
  unfold rEq at t
  split at t
  · cases dx; cases dy
    exact op_eq pins s σ H _ _ v u Qh I rx ry ⟨rfl, by rw [V_str]; rw [beq_t] at t; exact af _ _ _ _ .refl .bl rp t⟩
  · cases dx; cases dy
    exact op_eq pins s σ H _ _ v u Qh I rx ry ⟨rfl, by rw [V_int]; rw [beq_t] at t; exact af _ _ _ _ .refl .bl rp t⟩
  · cases dx; cases dy
    exact op_eq pins s σ H _ _ v u Qh I rx ry ⟨rfl, by rw [V_bl]; rw [beq_t] at t; exact af _ _ _ _ .refl .bl rp t⟩
  · split at t
    · rename_i p q e1 e2
      refine op_eqD hu pins s σ H _ _ v u Qh I rx ry ⟨p, q, den_py rp dx e1, den_py rp dy e2, t.1, t.2.1, ?_⟩
      have := t.2.2
      rw [beq_t] at this
      exact af _ _ _ _ .refl .bl rp this
    · exact t.elim
theorem do_ne (hu : X.A.units + 64 < cLine) : DOp X (compareOp .NotEq) (rEq false) := by
  intro pins s σ H x y v u Qh I rx ry ⟨d, e, G, Q, dx, dy, rp, t, af⟩
  unfold rEq at t
  split at t
  · cases dx; cases dy
    exact op_ne pins s σ H _ _ v u Qh I rx ry ⟨rfl, by rw [V_str]; rw [beq_f] at t; exact af _ _ _ _ .refl .bl rp t⟩
  · cases dx; cases dy
    exact op_ne pins s σ H _ _ v u Qh I rx ry ⟨rfl, by rw [V_int]; rw [beq_f] at t; exact af _ _ _ _ .refl .bl rp t⟩
  · cases dx; cases dy
    exact op_ne pins s σ H _ _ v u Qh I rx ry ⟨rfl, by rw [V_bl]; rw [beq_f] at t; exact af _ _ _ _ .refl .bl rp t⟩
  · split at t
    · rename_i p q e1 e2
      refine op_neD hu pins s σ H _ _ v u Qh I rx ry ⟨p, q, den_py rp dx e1, den_py rp dy e2, t.1, t.2.1, ?_⟩
      have := t.2.2
      rw [beq_f] at this
      exact af _ _ _ _ .refl .bl rp this
    · exact t.elim

/-! ### subscripts -/
def keyD : D → Option Key
  | .int i => some (.inl i)
  | .str s => some (.inr s)
  | _ => none
def dval {κ : Type} [DecidableEq κ] (kvs : List (κ × D)) (k : κ) : Option D := (kvs.find? fun kv => decide (kv.1 = k)).map (·.2)
def dput {κ : Type} [DecidableEq κ] (kvs : List (κ × D)) (k : κ) (v : D) : List (κ × D) :=
  if (kvs.any fun kv => decide (kv.1 = k)) = true then kvs.map fun kv => if kv.1 = k then (kv.1, v) else kv else kvs ++ [(k, v)]
theorem keyD_den {K : PySem.W.Frag} {H : Hp} {d : D} {v : V} {k : Key} (h : Den K H d v) (e : keyD d = some k) : v = kV k := by
  cases h <;> (simp only [keyD] at e; cases e) <;> rfl
theorem KDens.val {K : PySem.W.Frag} {H : Hp} {κ : Type} [DecidableEq κ] (k : κ) : ∀ {ds : List (κ × D)} {vs : List (κ × V)}, KDens K H ds vs →
    (∀ d, dval ds k = some d → ∃ v, valV vs k = some v ∧ Den K H d v) ∧ (dval ds k = none → valV vs k = none)
  | _, _, .nil => ⟨fun d e => by simp [dval] at e, fun _ => rfl⟩
  | _, _, .cons (k := j) (d := d) (v := v) h hs => by
    by_cases e : j = k
    · subst e
      refine ⟨fun d' q => ?_, fun q => by simp [dval] at q⟩
      simp [dval] at q
      subst q
      exact ⟨v, valV_pos rfl, h⟩
    · obtain ⟨i1, i2⟩ := KDens.val k hs
      have e1 : ∀ ds, dval ((j, d) :: ds) k = dval ds k := fun ds => by simp [dval, List.find?_cons, e]
      rw [e1, valV_neg e]
      exact ⟨i1, i2⟩
theorem KDens.length {K : PySem.W.Frag} {H : Hp} {κ : Type} : ∀ {ds : List (κ × D)} {vs : List (κ × V)}, KDens K H ds vs → ds.length = vs.length
  | _, _, .nil => rfl
  | _, _, .cons _ hs => by rw [List.length_cons, List.length_cons, KDens.length hs]
theorem KDens.any {K : PySem.W.Frag} {H : Hp} {κ : Type} [DecidableEq κ] (k : κ) : ∀ {ds : List (κ × D)} {vs : List (κ × V)}, KDens K H ds vs →
    (ds.any fun kv => decide (kv.1 = k)) = (vs.any fun kv => decide (kv.1 = k))
  | _, _, .nil => rfl
  | _, _, .cons h hs => by rw [List.any_cons, List.any_cons, KDens.any k hs]
theorem KDens.repl {K : PySem.W.Frag} {H : Hp} {κ : Type} [DecidableEq κ] (k : κ) {d : D} {v : V} (hd : Den K H d v) : ∀ {ds : List (κ × D)} {vs : List (κ × V)}, KDens K H ds vs →
    KDens K H (ds.map fun kv => if kv.1 = k then (kv.1, d) else kv) (vs.map fun kv => if kv.1 = k then (kv.1, v) else kv)
  | _, _, .nil => .nil
  | _, _, .cons (k := j) h hs => by
    rw [List.map_cons, List.map_cons]
    by_cases e : j = k
    · simp only [e, if_true]; exact .cons hd (KDens.repl k hd hs)
    · simp only [e, if_false]; exact .cons h (KDens.repl k hd hs)
theorem KDens.snoc {K : PySem.W.Frag} {H : Hp} {κ : Type} {k : κ} {d : D} {v : V} (hd : Den K H d v) : ∀ {ds : List (κ × D)} {vs : List (κ × V)}, KDens K H ds vs → KDens K H (ds ++ [(k, d)]) (vs ++ [(k, v)])
  | _, _, .nil => .cons hd .nil
  | _, _, .cons h hs => .cons h (KDens.snoc hd hs)
theorem KDens.put {K : PySem.W.Frag} {H : Hp} {κ : Type} [DecidableEq κ] {k : κ} {d : D} {v : V} {ds : List (κ × D)} {vs : List (κ × V)} (h : KDens K H ds vs) (hd : Den K H d v) : KDens K H (dput ds k d) (putK vs k v) := by
  unfold dput putK
  rw [h.any k]
  split
  · exact h.repl k hd
  · exact h.snoc hd
theorem KDens.keys {K : PySem.W.Frag} {H : Hp} {κ : Type} : ∀ {ds : List (κ × D)} {vs : List (κ × V)}, KDens K H ds vs → ds.map (·.1) = vs.map (·.1)
  | _, _, .nil => rfl
  | _, _, .cons _ hs => by rw [List.map_cons, List.map_cons, KDens.keys hs]
theorem atI_den {K : PySem.W.Frag} {H : Hp} {ds : List D} {vs : List V} {i : Int} {d : D} (h : Dens K H ds vs) (e : atI ds i = some d) : ∃ v, atI vs i = some v ∧ Den K H d v := by
  unfold atI at e ⊢
  rw [← h.length]
  cases q : ixN ds.length i with
  | none => rw [q] at e; cases e
  | some j => rw [q] at e; exact h.get e
def rIxd : DR2 := fun x y G Q => match x with
  | .tup xs => (match y with
    | .int i => (match atI xs i with
      | some d => Q d G
      | none => False)
    | _ => False)
  | .str z => (match y with
    | .int i => z.length ≤ sizeLine ∧ (match atI z.cps.toList i with
      | some c => Q (.str ⟨#[c]⟩) G
      | none => False)
    | _ => False)
  | .ref a => (match G a with
    | some (.lst xs) => (match y with
      | .int i => (match atI xs i with
        | some d => Q d G
        | none => False)
      | _ => False)
    | some (.cst xs) => (match y with
      | .int i => (match atI xs i with
        | some d => Q d G
        | none => False)
      | _ => False)
    | some (.dic kvs) => (match keyD y with
      | some k => (match dval kvs k with
        | some d => Q d G
        | none => False)
      | none => False)
    | _ => False)
  | _ => False
theorem ix_dict (hu : X.A.units + 1 < cLine) : IxR X (fun x y H Q => ∃ a v, x = .ref a ∧ DGet H a y (some v) ∧ Q v H) := by
  intro value slice pins s σ H x y v u Q I rx ry ⟨a, z, e, g, q⟩ hs
  subst e
  cases rx
  have hT := dict_typeIs I g
  unfold subscriptTail
  refine wpAny_bind ?_
  rw [getitemInPython_of_ne hT.not_modules]
  refine wpAny_bind (wpAny_specialOf hT PySem.F.slot_dict_getitem.lookup ?_)
  have fin : wpAny (model X.prog X.w) X.A (subscripted slice false (.ref a) u) (fun r s₃ => wpAny (model X.prog X.w) X.A (letTemporaryGo value (.ref a) r >>= fun _ => pure r) (EP X pins σ Q) X.xe s₃) X.xe s := by
    rw [hs]
    exact wpAny_operating (wpAny_mono (d_getItem (Q := EP X pins σ Q) hu I g ry fun w' s' I' r' => ⟨z, H, I', r', q⟩) (fun r s₃ h₃ => wpAny_bind (wpAny_letTemporaryGo (wpAny_pure h₃))) fun _ _ x => x)
  first
    | exact wpAny_pure (wpAny_bind fin)
    | exact wpAny_bind (wpAny_pure (wpAny_bind fin))
    | exact wpAny_bind fin
theorem dix (hu : X.A.units + 1 < cLine) : DIx X rIxd := by
  intro value slice pins s σ H x y v u Qh I rx ry ⟨d, e, G, Q, dx, dy, rp, t, af⟩ hs
  cases dx with
  | tup h1 h1s =>
    simp only [rIxd] at t
    split at t
    · split at t
      · rename_i d e1
        obtain ⟨z, e2, dz⟩ := atI_den h1s e1
        cases dy
        exact ix_tup value slice pins s σ H _ _ v u Qh I rx ry ⟨_, _, _, _, rfl, rfl, h1, e2, af _ _ _ _ .refl dz rp t⟩ hs
      · exact t.elim
    · exact t.elim
  | str =>
    simp only [rIxd] at t
    split at t
    · obtain ⟨hz, t⟩ := t
      split at t
      · rename_i d e1
        cases dy
        exact ix_str value slice pins s σ H _ _ v u Qh I rx ry ⟨_, _, _, rfl, rfl, hz, e1, af _ _ _ _ .refl .str rp t⟩ hs
      · exact t.elim
    · exact t.elim
  | ref =>
    simp only [rIxd] at t
    split at t
    · rename_i xs eg
      cases rp _ _ eg with
      | lst h1 h1s =>
      split at t
      · split at t
        · rename_i d e1
          obtain ⟨z, e2, dz⟩ := atI_den h1s e1
          cases dy
          exact ix_list value slice pins s σ H _ _ v u Qh I rx ry ⟨_, _, _, _, rfl, rfl, .of h1, e2, af _ _ _ _ .refl dz rp t⟩ hs
        · exact t.elim
      · exact t.elim
    · rename_i xs eg
      cases rp _ _ eg with
      | cst h1 _ _ _ h1s =>
      split at t
      · split at t
        · rename_i d e1
          obtain ⟨z, e2, dz⟩ := atI_den h1s e1
          cases dy
          exact ix_list value slice pins s σ H _ _ v u Qh I rx ry ⟨_, _, _, _, rfl, rfl, h1, e2, af _ _ _ _ .refl dz rp t⟩ hs
        · exact t.elim
      · exact t.elim
    · rename_i xs eg
      cases rp _ _ eg with
      | dic h1 h1s =>
      split at t
      · rename_i k ek
        split at t
        · rename_i d e1
          obtain ⟨z, e2, dz⟩ := (h1s.val k).1 _ e1
          obtain rfl := keyD_den dy ek
          refine ix_dict hu value slice pins s σ H _ _ v u Qh I rx ry ⟨_, z, rfl, ?_, af _ _ _ _ .refl dz rp t⟩ hs
          rw [← e2]
          exact DGet.k h1
        · exact t.elim
      · exact t.elim
    · exact t.elim
  | non => exact t.elim
  | bl => exact t.elim
  | int => exact t.elim
  | ty => exact t.elim
theorem de_ix (hu : X.A.units + 1 < cLine) (ha : DE X a ta) (hb : DE X b tb) (hs : PlainIx b := by exact fun _ _ => rfl) : DE X (.Subscript a b pos) (eOp rIxd ta tb) :=
  PE.imp (pe_ix (dix hu) ha hb hs) fun _ _ _ h => l_op h

/-! ### slices -/
abbrev DTO := DS → GP → (Option Int → GP → Prop) → Prop
def AftO (K : PySem.W.Frag) (H : Hp) (G : GP) (Q : Option Int → GP → Prop) (Qh : Option Int → Hp → Prop) : Prop := ∀ b G' H', Kp H G H' G' → Rep K H' G' → Q b G' → Qh b H'
def lO (K : PySem.W.Frag) (t : DTO) : TO := fun σh H Qh => ∃ σ G Q, Sl K H σ σh ∧ Rep K H G ∧ t σ G Q ∧ AftO K H G Q Qh
theorem PO.imp {e : Option Expr} {t t' : TO} (h : PO X e t) (i : ∀ σ H Q, t' σ H Q → t σ H Q) : PO X e t' := ⟨fun pins s σ H Q I q => h.run pins s σ H Q I (i σ H Q q)⟩
abbrev DPO (X : Cx) (e : Option Expr) (t : DTO) : Prop := PO X e (lO X.K t)
def oNone : DTO := fun _ G Q => Q none G
def oSome (te : DTE) : DTO := fun σ G Q => te σ G fun x G1 => match x with
  | .int i => Q (some i) G1
  | _ => False
theorem dpo_none : DPO X none oNone := by
  refine PO.imp po_none ?_
  rintro σh H Qh ⟨σ, G, Q, sl, rp, t, af⟩
  exact af _ _ _ .refl rp t
theorem dpo_some (h : DE X a ta) : DPO X (some a) (oSome ta) := by
  refine PO.imp (po_some h) ?_
  rintro σh H Qh ⟨σ, G, Q, sl, rp, t, af⟩
  refine ⟨σ, G, _, sl, rp, t, fun d v G1 H1 f1 dv rp1 t1 => ?_⟩
  split at t1
  · cases dv; exact ⟨_, rfl, af _ _ _ f1 rp1 t1⟩
  · exact t1.elim
def dcut (xs : List D) (lo hi : Option Int) : List D := (xs.drop (HT.sIx xs.length 0 lo)).take (HT.sIx xs.length xs.length hi - HT.sIx xs.length 0 lo)
theorem Dens.cut {K : PySem.W.Frag} {H : Hp} {ds : List D} {vs : List V} (h : Dens K H ds vs) (lo hi : Option Int) : Dens K H (dcut ds lo hi) (cutV vs lo hi) := by
  unfold dcut cutV
  rw [h.length]
  exact (h.drop _).take _
theorem sIx_ge (n : Nat) (o : Option Int) : HT.sIx n 0 o ≤ n := HT.sIx_le n 0 (Nat.zero_le _) o
def rSl : D → Option Int → Option Int → GP → DVK → Prop := fun x lo hi G Q => match x with
  | .tup xs => Q (.tup (dcut xs lo hi)) G
  | .ref a => (match G a with
    | some (.lst xs) => ∀ p, G p = none → Q (.ref p) (gup G p (.lst (dcut xs lo hi)))
    | some (.cst xs) => ∀ p, G p = none → Q (.ref p) (gup G p (.lst (dcut xs lo hi)))
    | _ => False)
  | _ => False
def eSl (ta : DTE) (tl th : DTO) : DTE := fun σ G Q => ta σ G fun x G1 => tl σ G1 fun l G2 => th σ G2 fun u G3 => rSl x l u G3 Q
def lSl (K : PySem.W.Frag) : V → Option Int → Option Int → Hp → VK → Prop := fun x lo hi H Qh => ∃ d G Q, Den K H d x ∧ Rep K H G ∧ rSl d lo hi G Q ∧ Aft K H G Q Qh
theorem dcut_all {xs : List D} {lo hi : Option Int} (h : HT.sIx xs.length 0 lo = 0 ∧ HT.sIx xs.length xs.length hi = xs.length) : dcut xs lo hi = xs := by
  unfold dcut
  rw [h.1, h.2, List.drop_zero, Nat.sub_zero, List.take_length]
theorem dsl : SlR X (lSl X.K) := by
  intro pins s σ H x v vl vu lo hi sl Qh I rx hs pl pu ⟨d, G, Q, dx, rp, t, af⟩
  cases dx with
  | tup h1 h1s =>
    refine sl_tupA pins s σ H _ v vl vu lo hi sl Qh I rx hs pl pu ⟨_, _, rfl, h1, fun e => ?_, fun _ p hp => ?_⟩
    · rw [← h1s.length] at e
      refine af _ _ _ _ .refl (.tup h1 ?_) rp t
      rw [dcut_all e]; exact h1s
    · exact af _ _ _ _ (Kp.hid hp) (.tup (.inl (.inl upd_same)) ((h1s.cut lo hi).mono (tk_new hp))) (rp.hid hp) t
  | ref =>
    simp only [rSl] at t
    split at t
    · rename_i xs eg
      cases rp _ _ eg with
      | lst h1 h1s =>
      exact sl_list pins s σ H _ v vl vu lo hi sl Qh I rx hs pl pu ⟨_, _, rfl, .of h1, fun p hp => af _ _ _ _ (Kp.new hp) .ref (rp.new hp (.lst upd_same ((h1s.cut lo hi).mono (tk_new hp)))) (t p (rp.free hp))⟩
    · rename_i xs eg
      cases rp _ _ eg with
      | cst h1 _ _ _ h1s =>
      exact sl_list pins s σ H _ v vl vu lo hi sl Qh I rx hs pl pu ⟨_, _, rfl, h1, fun p hp => af _ _ _ _ (Kp.new hp) .ref (rp.new hp (.lst upd_same ((h1s.cut lo hi).mono (tk_new hp)))) (t p (rp.free hp))⟩
    · exact t.elim
  | str => exact t.elim
  | non => exact t.elim
  | bl => exact t.elim
  | int => exact t.elim
  | ty => exact t.elim
theorem de_sl {lo hi : Option Expr} {tl th : DTO} {p2 : Pos} (ha : DE X a ta) (hl : DPO X lo tl) (hh : DPO X hi th) : DE X (.Subscript a (.Slice lo hi none p2) pos) (eSl ta tl th) := by
  refine PE.imp (pe_slice dsl ha hl hh) ?_
  rintro σh H Qh ⟨σ, G, Q, sl, rp, t, af⟩
  refine ⟨σ, G, _, sl, rp, t, fun d v G1 H1 f1 dv rp1 t1 => ?_⟩
  refine ⟨σ, G1, _, sl.mono (f1.tk rp), rp1, t1, fun l G2 H2 f2 rp2 t2 => ?_⟩
  refine ⟨σ, G2, _, (sl.mono (f1.tk rp)).mono (f2.tk rp1), rp2, t2, fun u G3 H3 f3 rp3 t3 => ?_⟩
  exact ⟨d, G3, Q, (dv.mono (f2.tk rp1)).mono (f3.tk rp2), rp3, t3, af.after (f1.trans (f2.trans f3))⟩
end
end Dn

namespace Dn
open PySem PySem.Spec PyProof.Rows L2

/-! ### calls of what is built in -/
def eCa (r : DRn) (t : DTA) : DTE := fun σ G Q => t σ G fun xs G1 => r xs G1 Q
section
variable {X : Cx} {pos p : Pos} {e : Expr} {es : List Expr} {t : DTA} {x : Str}
theorem l_ca {r : DRn} {σh : L2.St} {H : Hp} {Qh : VK} (h : lE X.K (eCa r t) σh H Qh) : tCB (lRn X.K r) (lA X.K t) σh H Qh := by
  obtain ⟨σ, G, Q, sl, rp, t, af⟩ := h
  exact ⟨σ, G, _, sl, rp, t, fun ds vs G1 H1 f1 dvs rp1 t1 => ⟨ds, G1, Q, dvs, rp1, t1, af.after f1⟩⟩
theorem de_callB {id : String} {r : DRn} (hc : DCa X (.builtin id) r) (hg : Gl X x) (hm : X.mg x = none) (hv : bootBuiltins x = some (.builtin id)) (ha : DA X (e :: es) t) (hn : x ≠ "__name__" := by decide) (hdb : (x == ("__debug__" : Str)) = false := by decide)
    (hs : starEach (e :: es) X.env = (false, eval e X.env) :: starEach es X.env := by rfl) (hplain : (backTo pos (starEach es X.env)).any (·.1) = false := by rfl) : DE X (.Call (.Name x p) (e :: es) [] pos) (eCa r t) :=
  PE.imp (pe_callB hc hg hm hv ha hn hdb hs hplain) fun _ _ _ h => l_ca h
theorem de_callTy {T : String} {r : DRn} (hc : DCa X (.type T) r) (hg : Gl X x) (hm : X.mg x = none) (hv : bootBuiltins x = some (.type T)) (ha : DA X (e :: es) t) (hn : x ≠ "__name__" := by decide) (hdb : (x == ("__debug__" : Str)) = false := by decide)
    (hs : starEach (e :: es) X.env = (false, eval e X.env) :: starEach es X.env := by rfl) (hplain : (backTo pos (starEach es X.env)).any (·.1) = false := by rfl) : DE X (.Call (.Name x p) (e :: es) [] pos) (eCa r t) :=
  PE.imp (pe_callTy hc hg hm hv ha hn hdb hs hplain) fun _ _ _ h => l_ca h

theorem Dens.one {K : PySem.W.Frag} {H : Hp} {d : D} {vs : List V} (h : Dens K H [d] vs) : ∃ v, vs = [v] ∧ Den K H d v := by
  cases h with | cons a b => cases b; exact ⟨_, rfl, a⟩
theorem Dens.two {K : PySem.W.Frag} {H : Hp} {d e : D} {vs : List V} (h : Dens K H [d, e] vs) : ∃ v w, vs = [v, w] ∧ Den K H d v ∧ Den K H e w := by
  cases h with | cons a b => obtain ⟨w, rfl, c⟩ := b.one; exact ⟨_, _, rfl, a, c⟩
theorem Dens.zero {K : PySem.W.Frag} {H : Hp} {vs : List V} (h : Dens K H [] vs) : vs = [] := by cases h; rfl

def rLen : DRn := fun xs G Q => match xs with
  | [.tup ys] => Q (.int ys.length) G
  | [.str z] => z.length ≤ sizeLine ∧ Q (.int z.length) G
  | [.ref a] => (match G a with
    | some (.lst ys) => Q (.int ys.length) G
    | some (.cst ys) => Q (.int ys.length) G
    | some (.dic kvs) => Q (.int kvs.length) G
    | _ => False)
  | _ => False
theorem dc_len : DCa X (.builtin "len") rLen := by
  intro pins s σ H xs us Qh I rs ⟨ds, G, Q, dxs, rp, t, af⟩
  unfold rLen at t
  split at t
  · obtain ⟨v, rfl, dv⟩ := dxs.one
    cases dv with
    | tup h hs => exact call_len_seq pins s σ H _ us Qh I rs ⟨_, _, rfl, .inr h, by rw [← hs.length]; exact af _ _ _ _ .refl .int rp t⟩
  · obtain ⟨v, rfl, dv⟩ := dxs.one
    cases dv
    exact call_len_str pins s σ H _ us Qh I rs ⟨_, rfl, t.1, af _ _ _ _ .refl .int rp t.2⟩
  · obtain ⟨v, rfl, dv⟩ := dxs.one
    cases dv
    split at t
    · rename_i a ys eg
      cases rp _ _ eg with
      | lst h hs => exact call_len_seq pins s σ H _ us Qh I rs ⟨_, _, rfl, .inl (.of h), by rw [← hs.length]; exact af _ _ _ _ .refl .int rp t⟩
    · rename_i a ys eg
      cases rp _ _ eg with
      | cst h _ _ _ hs => exact call_len_seq pins s σ H _ us Qh I rs ⟨_, _, rfl, .inl h, by rw [← hs.length]; exact af _ _ _ _ .refl .int rp t⟩
    · rename_i a ys eg
      cases rp _ _ eg with
      | dic h hs => exact call_lenD pins s σ H _ us Qh I rs ⟨_, _, rfl, h, by rw [← hs.length]; exact af _ _ _ _ .refl .int rp t⟩
    · exact t.elim
  · exact t.elim
def rIntOf : DRn := fun xs G Q => match xs with
  | [.int i] => Q (.int i) G
  | [.bl k] => Q (.int (if k then 1 else 0)) G
  | _ => False
theorem dc_int : DCa X (.type "int") rIntOf := by
  intro pins s σ H xs us Qh I rs ⟨ds, G, Q, dxs, rp, t, af⟩
  unfold rIntOf at t
  split at t
  · obtain ⟨v, rfl, dv⟩ := dxs.one
    cases dv
    exact call_int1 pins s σ H _ us Qh I rs (.inl ⟨_, rfl, af _ _ _ _ .refl .int rp t⟩)
  · obtain ⟨v, rfl, dv⟩ := dxs.one
    cases dv
    exact call_int1 pins s σ H _ us Qh I rs (.inr ⟨_, rfl, af _ _ _ _ .refl .int rp t⟩)
  · exact t.elim
def rStrOf : DRn := fun xs G Q => match xs with
  | [.int i] => i.natAbs.log2 < 1920 ∧ Q (.str (toString i)) G
  | _ => False
theorem dc_str : DCa X (.type "str") rStrOf := by
  intro pins s σ H xs us Qh I rs ⟨ds, G, Q, dxs, rp, t, af⟩
  unfold rStrOf at t
  split at t
  · obtain ⟨v, rfl, dv⟩ := dxs.one
    cases dv
    exact call_str_int pins s σ H _ us Qh I rs ⟨_, rfl, t.1, af _ _ _ _ .refl .str rp t.2⟩
  · exact t.elim
/-- tuple(x), x a list or a tuple -/
def rTupOf : DRn := fun xs G Q => match xs with
  | [.tup ys] => Q (.tup ys) G
  | [.ref a] => (match G a with
    | some (.lst ys) => Q (.tup ys) G
    | some (.cst ys) => Q (.tup ys) G
    | _ => False)
  | _ => False
theorem dc_tup : DCa X (.type "tuple") rTupOf := by
  intro pins s σ H xs us Qh I rs ⟨ds, G, Q, dxs, rp, t, af⟩
  unfold rTupOf at t
  split at t
  · obtain ⟨v, rfl, dv⟩ := dxs.one
    cases dv with
    | tup h hs => exact call_tuple_of pins s σ H _ us Qh I rs ⟨_, _, rfl, .inr ⟨h, af _ _ _ _ .refl (.tup h hs) rp t⟩⟩
  · obtain ⟨v, rfl, dv⟩ := dxs.one
    cases dv
    split at t
    · rename_i a ys eg
      cases rp _ _ eg with
      | lst h hs => exact call_tuple_of pins s σ H _ us Qh I rs ⟨_, _, rfl, .inl ⟨.of h, fun l hl => af _ _ _ _ (Kp.hid hl) (.tup (.inl (.inl upd_same)) (hs.mono (tk_new hl))) (rp.hid hl) t⟩⟩
    · rename_i a ys eg
      cases rp _ _ eg with
      | cst h _ _ _ hs => exact call_tuple_of pins s σ H _ us Qh I rs ⟨_, _, rfl, .inl ⟨h, fun l hl => af _ _ _ _ (Kp.hid hl) (.tup (.inl (.inl upd_same)) (hs.mono (tk_new hl))) (rp.hid hl) t⟩⟩
    · exact t.elim
  · exact t.elim
def kD : Key → D
  | .inl i => .int i
  | .inr x => .str x
theorem kD_den {K : PySem.W.Frag} {H : Hp} : ∀ k : Key, Den K H (kD k) (kV k)
  | .inl _ => .int
  | .inr _ => .str
theorem kDs_den {K : PySem.W.Frag} {H : Hp} : ∀ {ds : List (Key × D)} {vs : List (Key × V)}, KDens K H ds vs → Dens K H (ds.map fun kv => kD kv.1) (vs.map fun kv => kV kv.1)
  | _, _, .nil => .nil
  | _, _, .cons h hs => .cons (kD_den _) (kDs_den hs)
/-- list(x), x a list, a tuple or a dict -/
def rLstOf : DRn := fun xs G Q => match xs with
  | [.tup ys] => ∀ p, G p = none → Q (.ref p) (gup G p (.lst ys))
  | [.ref a] => (match G a with
    | some (.lst ys) => ∀ p, G p = none → Q (.ref p) (gup G p (.lst ys))
    | some (.cst ys) => ∀ p, G p = none → Q (.ref p) (gup G p (.lst ys))
    | some (.dic kvs) => ∀ p, G p = none → Q (.ref p) (gup G p (.lst (kvs.map fun kv => kD kv.1)))
    | _ => False)
  | _ => False
theorem dc_lst (hc : X.calm = true) : DCa X (.type "list") rLstOf := by
  intro pins s σ H xs us Qh I rs ⟨ds, G, Q, dxs, rp, t, af⟩
  unfold rLstOf at t
  split at t
  · obtain ⟨v, rfl, dv⟩ := dxs.one
    cases dv with
    | tup h hs => exact call_list_of pins s σ H _ us Qh I rs ⟨_, _, rfl, .inr h, fun l hl => af _ _ _ _ (Kp.new hl) .ref (rp.new hl (.lst upd_same (hs.mono (tk_new hl)))) (t l (rp.free hl))⟩
  · obtain ⟨v, rfl, dv⟩ := dxs.one
    cases dv
    split at t
    · rename_i a ys eg
      cases rp _ _ eg with
      | lst h hs => exact call_list_of pins s σ H _ us Qh I rs ⟨_, _, rfl, .inl (.of h), fun l hl => af _ _ _ _ (Kp.new hl) .ref (rp.new hl (.lst upd_same (hs.mono (tk_new hl)))) (t l (rp.free hl))⟩
    · rename_i a ys eg
      cases rp _ _ eg with
      | cst h _ _ _ hs => exact call_list_of pins s σ H _ us Qh I rs ⟨_, _, rfl, .inl h, fun l hl => af _ _ _ _ (Kp.new hl) .ref (rp.new hl (.lst upd_same (hs.mono (tk_new hl)))) (t l (rp.free hl))⟩
    · rename_i a ys eg
      cases rp _ _ eg with
      | dic h hs => exact call_listD hc pins s σ H _ us Qh I rs ⟨_, _, rfl, .inl h, fun l hl => af _ _ _ _ (Kp.new hl) .ref (rp.new hl (.lst upd_same ((kDs_den hs).mono (tk_new hl)))) (t l (rp.free hl))⟩
    · exact t.elim
  · exact t.elim
theorem ints_den {K : PySem.W.Frag} {H : Hp} : ∀ {ns : List Int} {vs : List V}, Dens K H (ns.map D.int) vs → vs = ns.map V.int
  | [], _, h => by cases h; rfl
  | n :: ns, _, h => by
    cases h with
    | cons a b => cases a; rw [ints_den b]; rfl
theorem den_ints {K : PySem.W.Frag} {H : Hp} : ∀ ns : List Int, Dens K H (ns.map D.int) (ns.map V.int)
  | [] => .nil
  | _ :: ns => .cons .int (den_ints ns)
theorem strs_den {K : PySem.W.Frag} {H : Hp} : ∀ {ns : List Str} {vs : List V}, Dens K H (ns.map D.str) vs → vs = ns.map V.str
  | [], _, h => by cases h; rfl
  | n :: ns, _, h => by
    cases h with
    | cons a b => cases a; rw [strs_den b]; rfl
theorem den_strs {K : PySem.W.Frag} {H : Hp} : ∀ ns : List Str, Dens K H (ns.map D.str) (ns.map V.str)
  | [] => .nil
  | _ :: ns => .cons .str (den_strs ns)
theorem bls_den {K : PySem.W.Frag} {H : Hp} : ∀ {ns : List Bool} {vs : List V}, Dens K H (ns.map D.bl) vs → vs = ns.map V.bl
  | [], _, h => by cases h; rfl
  | n :: ns, _, h => by
    cases h with
    | cons a b => cases a; rw [bls_den b]; rfl
/-- a list at a, its values -/
def LstAt (G : GP) (a : Addr) (xs : List D) : Prop := G a = some (.lst xs) ∨ G a = some (.cst xs)
theorem LstAt.seq {K : PySem.W.Frag} {H : Hp} {G : GP} {a : Addr} {xs : List D} (rp : Rep K H G) (h : LstAt G a xs) : ∃ vs, SqL K H a vs ∧ Dens K H xs vs := by
  rcases h with h | h
  · cases rp _ _ h with
    | lst h hs => exact ⟨_, .of h, hs⟩
  · cases rp _ _ h with
    | cst h _ _ _ hs => exact ⟨_, h, hs⟩
/-- sorted of ints -/
def rSortI : DRn := fun xs G Q => ∃ (a : Addr) (ns : List Int), xs = [.ref a] ∧ LstAt G a (ns.map D.int) ∧
  ∀ (ns' : List Int) (p : Addr), ns'.Perm ns → ns'.Pairwise (· ≤ ·) → G p = none → Q (.ref p) (gup G p (.lst (ns'.map D.int)))
/-- sorted of texts -/
def rSortS : DRn := fun xs G Q => ∃ (a : Addr) (ns : List Str), xs = [.ref a] ∧ LstAt G a (ns.map D.str) ∧ ns.length < 64 ∧
  ∀ (ns' : List Str) (p : Addr), ns'.Perm ns → sortedS ns' = true → G p = none → Q (.ref p) (gup G p (.lst (ns'.map D.str)))
/-- sorted of a dict's keys, ints -/
def rSortDI : DRn := fun xs G Q => ∃ (a : Addr) (kvs : List (Key × D)) (ns : List Int), xs = [.ref a] ∧ G a = some (.dic kvs) ∧ kvs.map (·.1) = ns.map Sum.inl ∧ ns.length < 64 ∧
  ∀ (ns' : List Int) (p : Addr), ns'.Perm ns → ns'.Pairwise (· ≤ ·) → G p = none → Q (.ref p) (gup G p (.lst (ns'.map D.int)))
def rSortDS : DRn := fun xs G Q => ∃ (a : Addr) (kvs : List (Key × D)) (ns : List Str), xs = [.ref a] ∧ G a = some (.dic kvs) ∧ kvs.map (·.1) = ns.map Sum.inr ∧ ns.length < 64 ∧
  ∀ (ns' : List Str) (p : Addr), ns'.Perm ns → sortedS ns' = true → G p = none → Q (.ref p) (gup G p (.lst (ns'.map D.str)))
def rSorted : DRn := fun xs G Q => rSortI xs G Q ∨ rSortS xs G Q ∨ rSortDI xs G Q ∨ rSortDS xs G Q
theorem dc_sorted (hc : X.calm = true) : DCa X (.builtin "sorted") rSorted := by
  intro pins s σ H xs us Qh I rs ⟨ds, G, Q, dxs, rp, t, af⟩
  rcases t with ⟨a, ns, rfl, ha, q⟩ | ⟨a, ns, rfl, ha, hl, q⟩ | ⟨a, kvs, ns, rfl, ha, hk, hl, q⟩ | ⟨a, kvs, ns, rfl, ha, hk, hl, q⟩ <;> (obtain ⟨v, rfl, dv⟩ := dxs.one; cases dv)
  · obtain ⟨vs, h1, h2⟩ := ha.seq rp
    obtain rfl := ints_den h2
    refine cr_sortedI pins s σ H _ us Qh I rs ⟨_, ns, rfl, h1, fun ns' p hp hs hpn => ?_⟩
    exact af _ _ _ _ (Kp.new hpn) .ref (rp.new hpn (.lst upd_same (den_ints _))) (q ns' p hp hs (rp.free hpn))
  · obtain ⟨vs, h1, h2⟩ := ha.seq rp
    obtain rfl := strs_den h2
    refine cr_sortedS pins s σ H _ us Qh I rs ⟨_, ns, rfl, h1, hl, fun ns' p hp hs hpn => ?_⟩
    exact af _ _ _ _ (Kp.new hpn) .ref (rp.new hpn (.lst upd_same (den_strs _))) (q ns' p hp hs (rp.free hpn))
  · cases rp _ _ ha with
    | dic h hs0 =>
    refine call_sortedDI hc pins s σ H _ us Qh I rs ⟨_, _, ns, rfl, .inl h, by rw [← hs0.keys]; exact hk, hl, fun ns' p hp hs hpn => ?_⟩
    exact af _ _ _ _ (Kp.new hpn) .ref (rp.new hpn (.lst upd_same (den_ints _))) (q ns' p hp hs (rp.free hpn))
  · cases rp _ _ ha with
    | dic h hs0 =>
    refine call_sortedD hc pins s σ H _ us Qh I rs ⟨_, _, ns, rfl, .inl h, by rw [← hs0.keys]; exact hk, hl, fun ns' p hp hs hpn => ?_⟩
    exact af _ _ _ _ (Kp.new hpn) .ref (rp.new hpn (.lst upd_same (den_strs _))) (q ns' p hp hs (rp.free hpn))
def rSum : DRn := fun xs G Q => ∃ (a : Addr) (ns : List Int), xs = [.ref a] ∧ LstAt G a (ns.map D.int) ∧ Q (.int ns.sum) G
theorem dc_sum (hc : X.calm = true) : DCa X (.builtin "sum") rSum := by
  intro pins s σ H xs us Qh I rs ⟨ds, G, Q, dxs, rp, t, af⟩
  obtain ⟨a, ns, rfl, ha, q⟩ := t
  obtain ⟨v, rfl, dv⟩ := dxs.one; cases dv
  obtain ⟨vs, h1, h2⟩ := ha.seq rp
  obtain rfl := ints_den h2
  exact cr_sum hc pins s σ H _ us Qh I rs ⟨_, ns, rfl, h1, af _ _ _ _ .refl .int rp q⟩
def rAll : DRn := fun xs G Q => ∃ (a : Addr) (ns : List Bool), xs = [.ref a] ∧ LstAt G a (ns.map D.bl) ∧ Q (.bl (ns.all id)) G
theorem dc_all (hc : X.calm = true) : DCa X (.builtin "all") rAll := by
  intro pins s σ H xs us Qh I rs ⟨ds, G, Q, dxs, rp, t, af⟩
  obtain ⟨a, ns, rfl, ha, q⟩ := t
  obtain ⟨v, rfl, dv⟩ := dxs.one; cases dv
  obtain ⟨vs, h1, h2⟩ := ha.seq rp
  obtain rfl := bls_den h2
  exact cr_all hc pins s σ H _ us Qh I rs ⟨_, ns, rfl, h1, af _ _ _ _ .refl .bl rp q⟩
def rAny : DRn := fun xs G Q => ∃ (a : Addr) (ns : List Bool), xs = [.ref a] ∧ LstAt G a (ns.map D.bl) ∧ Q (.bl (ns.any id)) G
theorem dc_any (hc : X.calm = true) : DCa X (.builtin "any") rAny := by
  intro pins s σ H xs us Qh I rs ⟨ds, G, Q, dxs, rp, t, af⟩
  obtain ⟨a, ns, rfl, ha, q⟩ := t
  obtain ⟨v, rfl, dv⟩ := dxs.one; cases dv
  obtain ⟨vs, h1, h2⟩ := ha.seq rp
  obtain rfl := bls_den h2
  exact cr_any hc pins s σ H _ us Qh I rs ⟨_, ns, rfl, h1, af _ _ _ _ .refl .bl rp q⟩
def rMin : DRn := fun xs G Q => match xs with
  | [.int i, .int j] => Q (.int (if j < i then j else i)) G
  | _ => False
theorem dc_min (hc : X.calm = true) : DCa X (.builtin "min") rMin := by
  intro pins s σ H xs us Qh I rs ⟨ds, G, Q, dxs, rp, t, af⟩
  unfold rMin at t
  split at t
  · obtain ⟨v, w, rfl, dv, dw⟩ := dxs.two; cases dv; cases dw
    exact call_min2 hc pins s σ H _ us Qh I rs ⟨_, _, rfl, af _ _ _ _ .refl .int rp t⟩
  · exact t.elim
def rMax : DRn := fun xs G Q => match xs with
  | [.int i, .int j] => Q (.int (if j > i then j else i)) G
  | _ => False
theorem dc_max (hc : X.calm = true) : DCa X (.builtin "max") rMax := by
  intro pins s σ H xs us Qh I rs ⟨ds, G, Q, dxs, rp, t, af⟩
  unfold rMax at t
  split at t
  · obtain ⟨v, w, rfl, dv, dw⟩ := dxs.two; cases dv; cases dw
    exact call_max2 hc pins s σ H _ us Qh I rs ⟨_, _, rfl, af _ _ _ _ .refl .int rp t⟩
  · exact t.elim
end

/-! ### methods of lists -/
/-- list.extend by a tuple of any form -/
theorem extend_tup (l : Addr) (items : Array Value) (n : Nat) (b : Addr) (items2 : Array Value) (n2 : Nat) (dd : Option Addr) (sl : Array (Option Value)) (hs0 : ¬(!items.isEmpty && Builtin.List.listTooLong (items.size + items2.size)) = true) (hs1 : items.size ≤ sizeLine) (hs2 : items.size + items2.size ≤ sizeLine + 1) :
    Meets (Builtin.«list.extend» ⟨[.ref l, .ref b], []⟩) (fun _ R s => s.heap.get? l = some { cls := .type "list", dict := none, data := .seq items n, slots := #[] } ∧ s.heap.get? b = some { cls := .type "tuple", dict := dd, data := .seq items2 n2, slots := sl } ∧ R (.ok (.ret Value.none)) { s with heap := s.heap.update l (Obj.mapSeq fun x => x ++ items2), toks := s.toks }) :=
  .of_wp fun prog w A R s h => by
    obtain ⟨hp, g, d, tk, os⟩ := s; obtain ⟨hl, hb, h⟩ := h; have f1 := AutoSeq1.idx_int; have f2 := AutoSeq1.sub_tuple_tuple; have f3 := AutoSeq1.sub_list_list; have f4 := AutoSeq1.sub_tuple_list; have f5 := AutoSeq1.sub_list_tuple;
    have hz' : (items ++ items2).size ≤ sizeLine + 1 := by rw [Array.size_append]; exact hs2
    wp_walk using (wpAny_updateSeq hl rfl (hz := hs1) (_hz' := hz')), AutoSeq1.wpAny_loadPart' hl, AutoSeq1.wpAny_loadPart' hb; exact ⟨_, rfl, h⟩
theorem mt_extendT {X : Cx} : MtR X "list.extend" (fun x vs H Q => ∃ l b xs zs, x = .ref l ∧ vs = [.ref b] ∧ H l = some (.lst xs) ∧ SqT X.K H b zs ∧ xs.length + zs.length ≤ sizeLine ∧ Q .non (upd H l (.lst (xs ++ zs)))) := by
  intro pins s σ H x vs v us Q I rx rv h
  obtain ⟨l, b, xs, zs, rfl, rfl, hH, hB, hz, q⟩ := h
  cases rx
  obtain ⟨u, rfl, ru⟩ := rv.one
  cases ru
  obtain ⟨z, its, n, r, hl, e⟩ := I.lstM hH
  obtain ⟨its2, r2, ⟨⟨cls, dd, data, sl⟩, e2, hc2, n2, hd2⟩, z2⟩ := I.tuple hB
  simp only at hc2 hd2
  subst hc2 hd2
  have hl2 := r2.length
  have hsz : its.toArray.size + its2.toArray.size ≤ sizeLine := by rw [List.size_toArray, List.size_toArray]; omega
  have hlong : ¬ (!its.toArray.isEmpty && Builtin.List.listTooLong (its.toArray.size + its2.toArray.size)) = true := by
    rw [notLongL hsz, Bool.and_false]
    exact Bool.false_ne_true
  refine call_meets PySem.F.slot_list_extend ⟨_, e, rfl⟩ PySem.F.entry_list_extend (PySem.F.args_list_extend_2 _ _)
    (extend_tup l its.toArray n b its2.toArray n2 dd sl hlong (by rw [List.size_toArray]; omega) (by omega)) ⟨e, e2, ?_⟩
  refine ⟨.non, _, I.lset (its' := its ++ its2) hH e (by simp) (r.append r2) ?_, rfl, q⟩
  rw [List.length_append]
  omega

/-- o.m(..), o a list that stands there -/
def eMtL (r : D → DRn) (to : DTE) (t : DTA) : DTE := fun σ G Q => to σ G fun x G1 => match x with
  | .ref a => (match G1 a with
    | some (.lst _) => t σ G1 fun xs G2 => r (.ref a) xs G2 Q
    | _ => False)
  | _ => False
def eMtL0 (r : D → DRn) (to : DTE) : DTE := fun σ G Q => to σ G fun x G1 => match x with
  | .ref a => (match G1 a with
    | some (.lst _) => r (.ref a) [] G1 Q
    | _ => False)
  | _ => False
section
variable {X : Cx} {pos p : Pos} {o e : Expr} {es : List Expr} {to : DTE} {t : DTA} {name : Str} {apos cpos : Pos} {id : String} {r : D → DRn}
theorem de_mtL0 (slot : Slot "list" name id) (hty : typeOf (.builtin id) = pure (.type "method_descriptor")) (hm : DMt X id r) (ho : DE X o to)
    (hbase : attributeBase o name X.env (eval o X.env) = eval o X.env := by rfl) (hline : (apos.endLine == cpos.line) = true := by rfl) : DE X (.Call (.Attribute o name apos) [] [] cpos) (eMtL0 r to) := by
  refine PE.imp (pe_bm0 PySem.F.plainAttrs_list slot hty hm ho hbase hline) ?_
  rintro σh H Qh ⟨σ, G, Q, sl, rp, t, af⟩
  refine ⟨σ, G, _, sl, rp, t, fun d v G1 H1 f1 dv rp1 t1 => ?_⟩
  split at t1
  · cases dv
    split at t1
    · rename_i eg
      cases rp1 _ _ eg with
      | lst h hs => exact ⟨.inl ⟨rfl, _, .of h⟩, ⟨_, _, G1, Q, .ref, .nil, rp1, t1, af.after f1⟩⟩
    · exact t1.elim
  · exact t1.elim
theorem de_mtL (slot : Slot "list" name id) (hty : typeOf (.builtin id) = pure (.type "method_descriptor")) (hm : DMt X id r) (ho : DE X o to) (ha : DA X (e :: es) t)
    (hbase : attributeBase o name X.env (eval o X.env) = eval o X.env := by rfl)
    (hfew : ((backTo cpos (starEach (e :: es) X.env)).all (fun x => !x.1) && (backToKw cpos (keywordEach [] X.env)).all (fun x => x.1.isSome)
      && decide ((e :: es).length + ([] : List Keyword).length + (if ([] : List Keyword).isEmpty then 0 else 1) < 30)) = true := by rfl)
    (hline : (apos.endLine == cpos.line) = true := by rfl) (hs : starEach (e :: es) X.env = (false, eval e X.env) :: starEach es X.env := by rfl) (hplain : (backTo cpos (starEach es X.env)).any (·.1) = false := by rfl) :
    DE X (.Call (.Attribute o name apos) (e :: es) [] cpos) (eMtL r to t) := by
  refine PE.imp (pe_bm PySem.F.plainAttrs_list slot hty hm ho ha hbase hfew hline hs hplain) ?_
  rintro σh H Qh ⟨σ, G, Q, sl, rp, t, af⟩
  refine ⟨σ, G, _, sl, rp, t, fun d v G1 H1 f1 dv rp1 t1 => ?_⟩
  split at t1
  · cases dv
    split at t1
    · rename_i eg
      cases rp1 _ _ eg with
      | lst h hs =>
      refine ⟨.inl ⟨rfl, _, .of h⟩, ?_⟩
      exact ⟨σ, G1, _, sl.mono (f1.tk rp), rp1, t1, fun ds vs G2 H2 f2 dvs rp2 t2 => ⟨_, ds, G2, Q, .ref, dvs, rp2, t2, af.after (f1.trans f2)⟩⟩
    · exact t1.elim
  · exact t1.elim
def rAppend : D → DRn := fun x vs G Q => match x, vs with
  | .ref a, [d] => (match G a with
    | some (.lst xs) => xs.length < sizeLine ∧ Q .non (gup G a (.lst (xs ++ [d])))
    | _ => False)
  | _, _ => False
theorem dm_append : DMt X "list.append" rAppend := by
  intro pins s σ H x vs v us Qh I rx rv ⟨d, ds, G, Q, dx, dxs, rp, t, af⟩
  unfold rAppend at t
  split at t
  · cases dx
    obtain ⟨w, rfl, dw⟩ := dxs.one
    split at t
    · rename_i xs eg
      cases rp _ _ eg with
      | lst h hs =>
      exact mt_append pins s σ H _ _ v us Qh I rx rv ⟨_, _, _, rfl, rfl, h, by rw [← hs.length]; exact t.1, af _ _ _ _ (Kp.put eg) .non (rp.put eg fun tk => .lst upd_same ((hs.append (.cons dw .nil)).mono tk)) t.2⟩
    · exact t.elim
  · exact t.elim
def rPop : D → DRn := fun x vs G Q => match x, vs with
  | .ref a, [] => (match G a with
    | some (.lst xs) => (match xs[xs.length - 1]? with
      | some d => Q d (gup G a (.lst xs.dropLast))
      | none => False)
    | _ => False)
  | .ref a, [.int i] => (match G a with
    | some (.lst xs) => (match ixN xs.length i with
      | some k => (match xs[k]? with
        | some d => Q d (gup G a (.lst (xs.eraseIdx k)))
        | none => False)
      | none => False)
    | _ => False)
  | _, _ => False
theorem dm_pop : DMt X "list.pop" rPop := by
  intro pins s σ H x vs v us Qh I rx rv ⟨d, ds, G, Q, dx, dxs, rp, t, af⟩
  unfold rPop at t
  split at t
  · cases dx
    obtain rfl := dxs.zero
    split at t
    · rename_i xs eg
      cases rp _ _ eg with
      | lst h hs =>
      split at t
      · rename_i d e
        rw [hs.length] at e
        obtain ⟨w, e2, dw⟩ := hs.get e
        exact mt_pop pins s σ H _ _ v us Qh I rx rv ⟨_, _, _, rfl, rfl, h, e2, af _ _ _ _ (Kp.put eg) (dw.mono (tk_put h (by intro _ z; cases z) (by intro _ _ z; cases z))) (rp.put eg fun tk => .lst upd_same (hs.dropLast.mono tk)) t⟩
      · exact t.elim
    · exact t.elim
  · cases dx
    obtain ⟨w, rfl, dw⟩ := dxs.one
    cases dw
    split at t
    · rename_i xs eg
      cases rp _ _ eg with
      | lst h hs =>
      split at t
      · rename_i k ek
        split at t
        · rename_i d e
          obtain ⟨w, e2, dw⟩ := hs.get e
          rw [hs.length] at ek
          obtain ⟨h1, h2, h3, h4⟩ := ixN_seq ek
          obtain ⟨hz, _⟩ := I.lstM h
          have hl := line63
          exact mt_popAt pins s σ H _ _ v us Qh I rx rv ⟨_, _, _, k, _, rfl, rfl, h, by omega, by omega, h1, e2, af _ _ _ _ (Kp.put eg) (dw.mono (tk_put h (by intro _ z; cases z) (by intro _ _ z; cases z))) (rp.put eg fun tk => .lst upd_same ((hs.eraseIdx k).mono tk)) t⟩
        · exact t.elim
      · exact t.elim
    · exact t.elim
  · exact t.elim
def rExtend : D → DRn := fun x vs G Q => match x, vs with
  | .ref a, [.tup ys] => (match G a with
    | some (.lst xs) => xs.length + ys.length ≤ sizeLine ∧ Q .non (gup G a (.lst (xs ++ ys)))
    | _ => False)
  | .ref a, [.ref b] => (match G a, G b with
    | some (.lst xs), some (.lst ys) => xs.length + ys.length ≤ sizeLine ∧ Q .non (gup G a (.lst (xs ++ ys)))
    | _, _ => False)
  | _, _ => False
theorem dm_extend : DMt X "list.extend" rExtend := by
  intro pins s σ H x vs v us Qh I rx rv ⟨d, ds, G, Q, dx, dxs, rp, t, af⟩
  unfold rExtend at t
  split at t
  · cases dx
    obtain ⟨w, rfl, dw⟩ := dxs.one
    cases dw with
    | tup h2 h2s =>
    split at t
    · rename_i xs eg
      cases rp _ _ eg with
      | lst h hs =>
      exact mt_extendT pins s σ H _ _ v us Qh I rx rv ⟨_, _, _, _, rfl, rfl, h, h2, by rw [← hs.length, ← h2s.length]; exact t.1, af _ _ _ _ (Kp.put eg) .non (rp.put eg fun tk => .lst upd_same ((hs.append h2s).mono tk)) t.2⟩
    · exact t.elim
  · cases dx
    obtain ⟨w, rfl, dw⟩ := dxs.one
    cases dw
    split at t
    · rename_i xs ys eg eg2
      cases rp _ _ eg with
      | lst h hs =>
      cases rp _ _ eg2 with
      | lst h2 h2s =>
      exact mt_extend pins s σ H _ _ v us Qh I rx rv ⟨_, _, _, _, rfl, rfl, h, h2, by rw [← hs.length, ← h2s.length]; exact t.1, af _ _ _ _ (Kp.put eg) .non (rp.put eg fun tk => .lst upd_same ((hs.append h2s).mono tk)) t.2⟩
    · exact t.elim
  · exact t.elim
def rInsert : D → DRn := fun x vs G Q => match x, vs with
  | .ref a, [.int i, d] => (match G a with
    | some (.lst xs) => xs.length < sizeLine ∧ 0 ≤ i ∧ i < 2 ^ 63 ∧ Q .non (gup G a (.lst (xs.take i.toNat ++ [d] ++ xs.drop i.toNat)))
    | _ => False)
  | _, _ => False
theorem dm_insert : DMt X "list.insert" rInsert := by
  intro pins s σ H x vs v us Qh I rx rv ⟨d, ds, G, Q, dx, dxs, rp, t, af⟩
  unfold rInsert at t
  split at t
  · cases dx
    obtain ⟨w, w2, rfl, dw, dw2⟩ := dxs.two
    cases dw
    split at t
    · rename_i xs eg
      cases rp _ _ eg with
      | lst h hs =>
      exact mt_insert pins s σ H _ _ v us Qh I rx rv ⟨_, _, _, _, rfl, rfl, h, by rw [← hs.length]; exact t.1, t.2.1, t.2.2.1, af _ _ _ _ (Kp.put eg) .non (rp.put eg fun tk => .lst upd_same ((((hs.take _).append (.cons dw2 .nil)).append (hs.drop _)).mono tk)) t.2.2.2⟩
    · exact t.elim
  · exact t.elim
def rReverse : D → DRn := fun x vs G Q => match x, vs with
  | .ref a, [] => (match G a with
    | some (.lst xs) => Q .non (gup G a (.lst xs.reverse))
    | _ => False)
  | _, _ => False
theorem dm_reverse : DMt X "list.reverse" rReverse := by
  intro pins s σ H x vs v us Qh I rx rv ⟨d, ds, G, Q, dx, dxs, rp, t, af⟩
  unfold rReverse at t
  split at t
  · cases dx
    obtain rfl := dxs.zero
    split at t
    · rename_i xs eg
      cases rp _ _ eg with
      | lst h hs =>
      exact mt_reverse pins s σ H _ _ v us Qh I rx rv ⟨_, _, rfl, rfl, h, af _ _ _ _ (Kp.put eg) .non (rp.put eg fun tk => .lst upd_same (hs.reverse.mono tk)) t⟩
    · exact t.elim
  · exact t.elim
def rClear : D → DRn := fun x vs G Q => match x, vs with
  | .ref a, [] => (match G a with
    | some (.lst xs) => Q .non (gup G a (.lst []))
    | _ => False)
  | _, _ => False
theorem dm_clear : DMt X "list.clear" rClear := by
  intro pins s σ H x vs v us Qh I rx rv ⟨d, ds, G, Q, dx, dxs, rp, t, af⟩
  unfold rClear at t
  split at t
  · cases dx
    obtain rfl := dxs.zero
    split at t
    · rename_i xs eg
      cases rp _ _ eg with
      | lst h hs =>
      exact mt_clear pins s σ H _ _ v us Qh I rx rv ⟨_, _, rfl, rfl, h, af _ _ _ _ (Kp.put eg) .non (rp.put eg fun tk => .lst upd_same .nil) t⟩
    · exact t.elim
  · exact t.elim

/-! ### d.get(k, x) -/
def rGet : D → D → D → GP → DVK → Prop := fun x k z G Q => match x with
  | .ref a => (match G a with
    | some (.dic kvs) => (match keyD k with
      | some k => Q ((dval kvs k).getD z) G
      | none => False)
    | _ => False)
  | _ => False
def isDic (G : GP) : D → Prop
  | .ref a => (match G a with
    | some (.dic _) => True
    | _ => False)
  | _ => False
def eGet2 (td tk tz : DTE) : DTE := fun σ G Q => td σ G fun x G1 => isDic G1 x ∧ tk σ G1 fun k G2 => tz σ G2 fun z G3 => rGet x k z G3 Q
def eGet1 (td tk : DTE) : DTE := fun σ G Q => td σ G fun x G1 => isDic G1 x ∧ tk σ G1 fun k G2 => rGet x k .non G2 Q
variable {f : Expr} {td tk tz : DTE}
theorem l_get {a : Addr} {k z : D} {y w : V} {H : Hp} {G : GP} {Q : DVK} {Qh : VK} (rp : Rep X.K H G) (dk : Den X.K H k y) (dz : Den X.K H z w) (t : rGet (.ref a) k z G Q) (af : Aft X.K H G Q Qh) : ∃ o, DGet H a y o ∧ Qh (o.getD w) H := by
  simp only [rGet] at t
  split at t
  · rename_i kvs eg
    cases rp _ _ eg with
    | dic h hs =>
    split at t
    · rename_i kk ek
      obtain rfl := keyD_den dk ek
      refine ⟨_, DGet.k h, ?_⟩
      obtain ⟨i1, i2⟩ := hs.val kk
      cases q : dval kvs kk with
      | none => rw [i2 q]; rw [q] at t; exact af _ _ _ _ .refl dz rp t
      | some d => obtain ⟨v, e, dv⟩ := i1 d q; rw [e]; rw [q] at t; exact af _ _ _ _ .refl dv rp t
    · exact t.elim
  · exact t.elim
theorem isDic_den {H : Hp} {G : GP} {x : D} {v : V} (rp : Rep X.K H G) (dv : Den X.K H x v) (h : isDic G x) : ∃ a, x = .ref a ∧ v = .ref a ∧ IsD H a := by
  unfold isDic at h
  split at h
  · cases dv
    split at h
    · rename_i eg
      cases rp _ _ eg with
      | dic h hs => exact ⟨_, rfl, rfl, .inl ⟨_, .inl h⟩⟩
    · exact h.elim
  · exact h.elim
theorem de_get2 (hu : X.A.units + 1 < cLine) (ho : DE X o td) (he : DE X e tk) (hf : DE X f tz) (m : M2 X o "get" apos e f cpos := by exact ⟨rfl, rfl, rfl, rfl⟩) : DE X (.Call (.Attribute o "get" apos) [e, f] [] cpos) (eGet2 td tk tz) := by
  refine PE.imp (pe_dget2 hu ho he hf m) ?_
  rintro σh H Qh ⟨σ, G, Q, sl, rp, t, af⟩
  refine ⟨σ, G, _, sl, rp, t, fun d v G1 H1 f1 dv rp1 t1 => ?_⟩
  obtain ⟨a, rfl, rfl, hd⟩ := isDic_den rp1 dv t1.1
  refine ⟨a, rfl, hd, σ, G1, _, sl.mono (f1.tk rp), rp1, t1.2, fun k y G2 H2 f2 dk rp2 t2 => ?_⟩
  refine ⟨σ, G2, _, (sl.mono (f1.tk rp)).mono (f2.tk rp1), rp2, t2, fun z w G3 H3 f3 dz rp3 t3 => ?_⟩
  exact l_get rp3 (dk.mono (f3.tk rp2)) dz t3 (af.after (f1.trans (f2.trans f3)))
theorem de_get1 (hu : X.A.units + 1 < cLine) (ho : DE X o td) (he : DE X e tk) (m : M1 X o "get" apos e cpos := by exact ⟨rfl, rfl, rfl, rfl⟩) : DE X (.Call (.Attribute o "get" apos) [e] [] cpos) (eGet1 td tk) := by
  refine PE.imp (pe_dget1 hu ho he m) ?_
  rintro σh H Qh ⟨σ, G, Q, sl, rp, t, af⟩
  refine ⟨σ, G, _, sl, rp, t, fun d v G1 H1 f1 dv rp1 t1 => ?_⟩
  obtain ⟨a, rfl, rfl, hd⟩ := isDic_den rp1 dv t1.1
  refine ⟨a, rfl, hd, σ, G1, _, sl.mono (f1.tk rp), rp1, t1.2, fun k y G2 H2 f2 dk rp2 t2 => ?_⟩
  exact l_get (z := .non) rp2 dk .non t2 (af.after (f1.trans f2))
end
end Dn

namespace Dn
open PySem PySem.Spec PyProof.Rows L2

/-! ### targets -/
def gNm (i : Nat) : DTG := fun d σ G Q => Q (σ.set i (some d)) G
def gsNil : DTGs := fun ds σ G Q => ds = [] ∧ Q σ G
def gsCons (t : DTG) (u : DTGs) : DTGs := fun ds σ G Q => match ds with
  | d :: r => t d σ G fun σ' G' => u r σ' G' Q
  | [] => False
def gTp (n : Nat) (t : DTGs) : DTG := fun d σ G Q => match d with
  | .tup xs => xs.length = n ∧ t xs σ G Q
  | _ => False
/-- o[i] = v, by values -/
abbrev DTSet := D → D → D → GP → (GP → Prop) → Prop
def rSet : DTSet := fun o i v G Q => match o with
  | .ref a => (match G a with
    | some (.lst xs) => (match i with
      | .int k => (match ixN xs.length k with
        | some j => Q (gup G a (.lst (xs.set j v)))
        | none => False)
      | _ => False)
    | some (.dic kvs) => (match keyD i with
      | some k => kvs.length < sizeLine ∧ Q (gup G a (.dic (dput kvs k v)))
      | none => False)
    | _ => False)
  | _ => False
def gSb (to ti : DTE) : DTG := fun v σ G Q => to σ G fun o G1 => ti σ G1 fun i G2 => rSet o i v G2 fun G3 => Q σ G3
section
variable {X : Cx} {pos p : Pos}
theorem dg_name {i : Nat} {x : Str} (hN : X.N.Nodup) (hi : X.N[i]? = some x) (hx : Loc X.env.scope x) (hf : X.fn x = true ∨ X.env.scope.names.lookup x = some .local := by first | exact .inl rfl | exact .inr rfl | assumption) : DG X (.Name x pos) (gNm i) := by
  refine PG.imp (pg_name hN hi hx hf) ?_
  rintro v σh H Qh ⟨d, σ, G, Q, dv, sl, rp, t, af⟩
  exact af _ _ _ _ .refl (sl.set dv i) rp t
theorem dgs_nil : DGs X [] gsNil := by
  refine PGs.imp pgs_nil ?_
  rintro vs σh H Qh ⟨ds, σ, G, Q, dvs, sl, rp, ⟨e, t⟩, af⟩
  subst e
  exact ⟨dvs.zero, af _ _ _ _ .refl sl rp t⟩
theorem dgs_cons {e : Expr} {es : List Expr} {t : DTG} {u : DTGs} (h1 : DG X e t) (h2 : DGs X es u)
    (hs : (assignEach (e :: es) X.env).map (·.2) = assign e X.env :: (assignEach es X.env).map (·.2) := by rfl) : DGs X (e :: es) (gsCons t u) := by
  refine PGs.imp (pgs_cons h1 h2 hs) ?_
  rintro vs σh H Qh ⟨ds, σ, G, Q, dvs, sl, rp, t, af⟩
  cases dvs with
  | nil => exact t.elim
  | cons dv dvs =>
    refine ⟨_, _, rfl, _, σ, G, _, dv, sl, rp, t, fun σ1 σh1 G1 H1 f1 sl1 rp1 t1 => ?_⟩
    exact ⟨_, σ1, G1, Q, dvs.mono (f1.tk rp), sl1, rp1, t1, af.after f1⟩
theorem dg_tup {es : List Expr} {k : Nat} {t : DTGs} {n : Nat} (hc : X.calm = true) (h : DGs X es t)
    (hn : (assignEach es X.env).length = n := by rfl) (hst : (assignEach es X.env).findIdx? (·.1) = none := by rfl) : DG X (.Tuple es k pos) (gTp n t) := by
  refine PG.imp (pg_tup hc h hn hst) ?_
  rintro v σh H Qh ⟨d, σ, G, Q, dv, sl, rp, t, af⟩
  unfold gTp at t
  split at t
  · cases dv with
    | tup h hs => exact ⟨_, _, rfl, h, hs.length.symm.trans t.1, _, σ, G, Q, hs, sl, rp, t.2, af⟩
  · exact t.elim
def lSet (K : PySem.W.Frag) : TSet := fun o i v H Qh => ∃ d e z G Q, Den K H d o ∧ Den K H e i ∧ Den K H z v ∧ Rep K H G ∧ rSet d e z G Q ∧ ∀ G' H', Kp H G H' G' → Rep K H' G' → Q G' → Qh H'
theorem pset (hu : X.A.units + 1 < cLine) : PSet X (lSet X.K) := by
  intro pins s σ H o i v ov iv u Qh I ro ri rv ⟨d, e, z, G, Q, dd, de, dz, rp, t, af⟩
  unfold rSet at t
  split at t
  · cases dd
    rename_i a
    split at t
    · rename_i xs eg
      cases rp _ _ eg with
      | lst h hs =>
      split at t
      · cases de
        split at t
        · rename_i k j ej
          rw [hs.length] at ej
          exact set_list pins s σ H _ _ _ ov iv u Qh I ro ri rv ⟨_, _, _, j, rfl, rfl, h, ej, af _ _ (Kp.put eg) (rp.put eg fun tk => .lst upd_same ((hs.set dz j).mono tk)) t⟩
        · exact t.elim
      · exact t.elim
    · rename_i kvs eg
      cases rp _ _ eg with
      | dic h hs =>
      split at t
      · rename_i k ek
        obtain rfl := keyD_den de ek
        cases ro
        refine d_setItem hu I (DPut.k (v := v) h (by rw [← hs.length]; exact t.1)) ri rv fun s' I' => ⟨_, I', ?_⟩
        exact af _ _ (Kp.put eg) (rp.put eg fun tk => .dic upd_same ((hs.put dz).mono tk)) t.2
      · exact t.elim
    · exact t.elim
  · exact t.elim
theorem dg_sub {o i : Expr} {to ti : DTE} (hu : X.A.units + 1 < cLine) (ho : DE X o to) (hi : DE X i ti)
    (ha : ∀ v, assign (.Subscript o i pos) X.env v = (do
      let ov ← holding [v] (eval o X.env)
      let iv ← holding [v, ov] (eval i X.env)
      standAt pos
      holding [v, ov, iv] (setItem ov iv v)
      release [v, ov, iv] []) := by intro _; rfl) : DG X (.Subscript o i pos) (gSb to ti) := by
  refine PG.imp (pg_sub ho hi (pset hu) ha) ?_
  rintro v σh H Qh ⟨d, σ, G, Q, dv, sl, rp, t, af⟩
  refine ⟨σ, G, _, sl, rp, t, fun o ov G1 H1 f1 do1 rp1 t1 => ?_⟩
  refine ⟨σ, G1, _, sl.mono (f1.tk rp), rp1, t1, fun i iv G2 H2 f2 di2 rp2 t2 => ?_⟩
  refine ⟨o, i, d, G2, _, do1.mono (f2.tk rp1), di2, (dv.mono (f1.tk rp)).mono (f2.tk rp1), rp2, t2, fun G3 H3 f3 rp3 t3 => ?_⟩
  exact af _ _ _ _ (f1.trans (f2.trans f3)) (((sl.mono (f1.tk rp)).mono (f2.tk rp1)).mono (f3.tk rp2)) rp3 t3

/-! ### statements -/
variable {st : Stmt} {rest : List Stmt} {t u : DTS} {e : Expr} {te : DTE}
def sNext : DTS := fun E σ G => E.nx σ G
def sSeq (t u : DTS) : DTS := fun E σ G => t { E with nx := u E } σ G
def sBreak : DTS := fun E σ G => E.bk σ G
def sCont : DTS := fun E σ G => E.ct σ G
def sDrop (te : DTE) : DTS := fun E σ G => te σ G fun _ G1 => E.nx σ G1
def sRet (te : DTE) : DTS := fun E σ G => te σ G E.rt
def sRetN : DTS := fun E _ G => E.rt .non G
def sIf (c : DTT) (t u : DTS) : DTS := fun E σ G => c σ G fun b G1 => if b = true then t E σ G1 else u E σ G1
def sAsg (te : DTE) (g : DTG) : DTS := fun E σ G => te σ G fun x G1 => g x σ G1 E.nx
def sNever : DTS := fun _ _ _ => False
theorem dss_nil : DSs X [] sNext := by
  refine PSs.imp pss_nil ?_
  rintro Eh σh H ⟨σ, G, E, sl, rp, t, af⟩
  exact af.nx _ _ _ _ .refl sl rp t
theorem dss_cons (h1 : DSt X st t) (h2 : DSs X rest u) : DSs X (st :: rest) (sSeq t u) := by
  refine PSs.imp (pss_cons h1 h2) ?_
  rintro Eh σh H ⟨σ, G, E, sl, rp, t, af⟩
  exact ⟨σ, G, _, sl, rp, t, ⟨fun σ1 σh1 G1 H1 f1 sl1 rp1 t1 => ⟨σ1, G1, E, sl1, rp1, t1, af.after f1⟩, af.rt, af.bk, af.ct⟩⟩
theorem dss_one (h1 : DSt X st t) : DSs X [st] t := pss_one h1
theorem ds_pass : DSt X (.Pass pos) sNext := by
  refine PS.imp ps_pass ?_
  rintro Eh σh H ⟨σ, G, E, sl, rp, t, af⟩
  exact af.nx _ _ _ _ .refl sl rp t
theorem ds_break : DSt X (.Break pos) sBreak := by
  refine PS.imp ps_break ?_
  rintro Eh σh H ⟨σ, G, E, sl, rp, t, af⟩
  exact af.bk _ _ _ _ .refl sl rp t
theorem ds_continue : DSt X (.Continue pos) sCont := by
  refine PS.imp ps_continue ?_
  rintro Eh σh H ⟨σ, G, E, sl, rp, t, af⟩
  exact af.ct _ _ _ _ .refl sl rp t
theorem ds_never : DSt X st sNever := by
  refine PS.imp ps_never ?_
  rintro Eh σh H ⟨σ, G, E, sl, rp, t, af⟩
  exact t
theorem ds_expr (he : DE X e te) (hs : swapsWith e none pos.line X.env = pure false := by rfl) : DSt X (.Expr e pos) (sDrop te) := by
  refine PS.imp (ps_expr he hs) ?_
  rintro Eh σh H ⟨σ, G, E, sl, rp, t, af⟩
  exact ⟨σ, G, _, sl, rp, t, fun d v G1 H1 f1 dv rp1 t1 => af.nx _ _ _ _ f1 (sl.mono (f1.tk rp)) rp1 t1⟩
theorem ds_ret (he : DE X e te) : DSt X (.Return (some e) pos) (sRet te) := by
  refine PS.imp (ps_ret he) ?_
  rintro Eh σh H ⟨σ, G, E, sl, rp, t, af⟩
  exact ⟨σ, G, _, sl, rp, t, af.rt⟩
theorem ds_retN : DSt X (.Return none pos) sRetN := by
  refine PS.imp ps_retN ?_
  rintro Eh σh H ⟨σ, G, E, sl, rp, t, af⟩
  exact af.rt _ _ _ _ .refl .non rp t
theorem ds_if {c : Expr} {a b : List Stmt} {tc : DTT} (hc : DT X c tc) (ha : DSs X a t) (hb : DSs X b u) : DSt X (.If c a b pos) (sIf tc t u) := by
  refine PS.imp (ps_if hc ha hb) ?_
  rintro Eh σh H ⟨σ, G, E, sl, rp, t, af⟩
  refine ⟨σ, G, _, sl, rp, t, fun k G1 H1 f1 rp1 t1 => ?_⟩
  cases k with
  | true => exact iteT ⟨σ, G1, E, sl.mono (f1.tk rp), rp1, t1, af.after f1⟩
  | false => exact iteF ⟨σ, G1, E, sl.mono (f1.tk rp), rp1, t1, af.after f1⟩
theorem l_asg {g : DTG} {gh : TG} (hg : ∀ v σh H Qh, lG X.K g v σh H Qh → gh v σh H Qh) {Eh : Ends} {σh : L2.St} {H : Hp} (h : lS X.K (sAsg te g) Eh σh H) : tAsg (lE X.K te) gh Eh σh H := by
  obtain ⟨σ, G, E, sl, rp, t, af⟩ := h
  exact ⟨σ, G, _, sl, rp, t, fun d v G1 H1 f1 dv rp1 t1 => hg _ _ _ _ ⟨d, σ, G1, _, dv, sl.mono (f1.tk rp), rp1, t1, af.nx.after f1⟩⟩
theorem ds_asg {tg : Expr} {g : DTG} (he : DE X e te) (hg : DG X tg g) (hs : swapsWithSole [tg] e pos.line X.env = pure false := by rfl) (hw : swappedStores [tg] e X.env = pure none := by rfl)
    (h1 : (assignEach [tg] X.env).map (·.2) = [assign tg X.env] := by rfl) : DSt X (.Assign [tg] e pos) (sAsg te g) :=
  PS.imp (ps_asg he hg hs hw h1) fun _ _ _ h => l_asg (fun _ _ _ _ h => h) h
theorem ds_set {i : Nat} {x : Str} {pos' : Pos} (hN : X.N.Nodup) (hi : X.N[i]? = some x) (hx : Loc X.env.scope x) (he : DE X e te) (hs : swapsWith e (some (.Name x pos')) pos.line X.env = pure false := by rfl) (hf : X.fn x = true ∨ X.env.scope.names.lookup x = some .local := by first | exact .inl rfl | exact .inr rfl | assumption) :
    DSt X (.Assign [.Name x pos'] e pos) (sAsg te (gNm i)) :=
  PS.imp (ps_set hN hi hx he hs hf) fun _ _ _ h => l_asg (gh := gName i) (fun v σh H Qh ⟨d, σ, G, Q, dv, sl, rp, t, af⟩ => af _ _ _ _ .refl (sl.set dv i) rp t) h
/-- x op= e at a name -/
def sAug (i : Nat) (r : DR2) (te : DTE) : DTS := fun E σ G => match σ[i]? with
  | some (some x) => te σ G fun y G1 => r x y G1 fun z G2 => E.nx (σ.set i (some z)) G2
  | _ => False
theorem ds_aug {i : Nat} {x : Str} {op : Operator} {r : DR2} {pos' : Pos} (hN : X.N.Nodup) (hi : X.N[i]? = some x) (hx : Loc X.env.scope x) (ho : DOp X (inplaceOp op) r) (he : DE X e te) (hf : X.fn x = true ∨ X.env.scope.names.lookup x = some .local := by first | exact .inl rfl | exact .inr rfl | assumption) :
    DSt X (.AugAssign (.Name x pos') op e pos) (sAug i r te) := by
  refine PS.imp (ps_aug hN hi hx he (ti := lR2 X.K r) (fun pins s σ H x y v u Q I rx ry h => ho pins s σ H x y v u Q I rx ry h) hf) ?_
  rintro Eh σh H ⟨σ, G, E, sl, rp, t, af⟩
  unfold sAug at t
  split at t
  · rename_i d ed
    obtain ⟨v, ev, dv⟩ := sl.2 _ _ ed
    refine ⟨v, ev, σ, G, _, sl, rp, t, fun y w G1 H1 f1 dy rp1 t1 => ?_⟩
    refine ⟨d, y, G1, _, dv.mono (f1.tk rp), dy, rp1, t1, fun z zv G2 H2 f2 dz rp2 t2 => ?_⟩
    exact af.nx _ _ _ _ (f1.trans f2) (((sl.mono (f1.tk rp)).mono (f2.tk rp1)).set dz i) rp2 t2
  · exact t.elim
theorem dp_add : DOp X (inplaceOp .Add) (rInt (fun _ _ => True) fun i j => .int (i + j)) := do_int (gv := fun i j => .int (i + j)) (fun pins s σ H x y v u Q I rx ry ⟨i, j, e1, e2, _, q⟩ => iop_add pins s σ H x y v u Q I rx ry ⟨i, j, e1, e2, q⟩) fun _ _ _ => .int
theorem dp_sub : DOp X (inplaceOp .Sub) (rInt (fun _ _ => True) fun i j => .int (i - j)) := do_int (gv := fun i j => .int (i - j)) (fun pins s σ H x y v u Q I rx ry ⟨i, j, e1, e2, _, q⟩ => iop_sub pins s σ H x y v u Q I rx ry ⟨i, j, e1, e2, q⟩) fun _ _ _ => .int

/-! ### while -/
def sWhile (c : DTT) (tb : DTS) : DTS := fun E σ G => ∃ W : Nat → DS → GP → Prop, (∃ m, W m σ G) ∧ ∀ m σ G, W m σ G →
  c σ G fun b G1 => if b = true then tb { E with nx := fun σ' G' => ∃ m', m' < m ∧ W m' σ' G', ct := fun σ' G' => ∃ m', m' < m ∧ W m' σ' G', bk := E.nx } σ G1 else E.nx σ G1
theorem ds_while {c : Expr} {body : List Stmt} {tc : DTT} {tb : DTS} (hp : PassesOwn (model X.prog X.w) X.A X.env X.xe) (hc : DT X c tc) (hb : DSs X body tb) : DSt X (.While c body [] pos) (sWhile tc tb) := by
  refine PS.imp (ps_while hp hc hb) ?_
  rintro Eh σh H ⟨σ, G, E, sl, rp, ⟨W, ⟨m0, w0⟩, turn⟩, af⟩
  refine ⟨fun m σh' H' => ∃ σ' G', Sl X.K H' σ' σh' ∧ Rep X.K H' G' ∧ Kp H G H' G' ∧ W m σ' G', ⟨m0, σ, G, sl, rp, .refl, w0⟩, ?_⟩
  rintro m σh1 H1 ⟨σ1, G1, sl1, rp1, k1, w1⟩
  refine ⟨σ1, G1, _, sl1, rp1, turn m σ1 G1 w1, fun b G2 H2 f2 rp2 t2 => ?_⟩
  cases b with
  | false => exact iteF (af.nx _ _ _ _ (k1.trans f2) (sl1.mono (f2.tk rp1)) rp2 t2)
  | true =>
    refine iteT ⟨fun σh' H' => ∃ m', m' < m ∧ ∃ σ' G', Sl X.K H' σ' σh' ∧ Rep X.K H' G' ∧ Kp H G H' G' ∧ W m' σ' G', fun _ _ h => h, ?_⟩
    have back : AftS X.K H2 G2 (fun σ' G' => ∃ m', m' < m ∧ W m' σ' G') (fun σh' H' => ∃ m', m' < m ∧ ∃ σ' G', Sl X.K H' σ' σh' ∧ Rep X.K H' G' ∧ Kp H G H' G' ∧ W m' σ' G') :=
      fun σ3 σh3 G3 H3 f3 sl3 rp3 ⟨m', hm, w3⟩ => ⟨m', hm, σ3, G3, sl3, rp3, (k1.trans f2).trans f3, w3⟩
    exact ⟨σ1, G2, _, sl1.mono (f2.tk rp1), rp2, t2, ⟨back, af.rt.after (k1.trans f2), af.nx.after (k1.trans f2), back⟩⟩
/-- by an invariant and a measure -/
theorem while_inv {c : DTT} {tb : DTS} {E : DEnds} {σ : DS} {G : GP} (W : Nat → DS → GP → Prop) (m : Nat) (h0 : W m σ G) (h : ∀ m σ G, W m σ G →
    c σ G fun b G1 => if b = true then tb { E with nx := fun σ' G' => ∃ m', m' < m ∧ W m' σ' G', ct := fun σ' G' => ∃ m', m' < m ∧ W m' σ' G', bk := E.nx } σ G1 else E.nx σ G1) : sWhile c tb E σ G := ⟨W, ⟨m, h0⟩, h⟩

/-! ### for -/
structure Src (K : PySem.W.Frag) (J : It) (xs : List D) (st : GP → Prop) (H1 : Hp) : Prop where
  go : ∀ i H G, TK K H1 H → Rep K H G → st G → i < xs.length → J.go i H
  yld : ∀ i H G x H' d, TK K H1 H → Rep K H G → st G → J.yld i H x H' → xs[i]? = some d → Kp H G H' G ∧ Rep K H' G ∧ Den K H' d x
  stop : ∀ i H G, TK K H1 H → Rep K H G → st G → xs.length ≤ i → J.stop i H
abbrev DTI := DS → GP → (List D → (GP → Prop) → GP → Prop) → Prop
def AftI (K : PySem.W.Frag) (H : Hp) (G : GP) (Q : List D → (GP → Prop) → GP → Prop) (R : It → Hp → Prop) : Prop :=
  ∀ xs sb G' H' J, Kp H G H' G' → Rep K H' G' → Src K J xs sb H' → Q xs sb G' → R J H'
def lI (K : PySem.W.Frag) (t : DTI) : TI := fun σh H R => ∃ σ G Q, Sl K H σ σh ∧ Rep K H G ∧ t σ G Q ∧ AftI K H G Q R
abbrev DI (X : Cx) (tg e : Expr) (t : DTI) : Prop := PI X tg e (lI X.K t)
def forL (sb : GP → Prop) (g : DTG) (tb : DTS) (E : DEnds) : List D → DS → GP → Prop
  | [], σ, G => sb G ∧ E.nx σ G
  | x :: xs, σ, G => sb G ∧ g x σ G fun σ2 G2 => tb { E with nx := forL sb g tb E xs, ct := forL sb g tb E xs, bk := E.nx } σ2 G2
theorem forL_sb {sb : GP → Prop} {g : DTG} {tb : DTS} {E : DEnds} {xs : List D} {σ : DS} {G : GP} (h : forL sb g tb E xs σ G) : sb G := by cases xs <;> exact h.1
def sFor (wi : DTI) (g : DTG) (tb : DTS) : DTS := fun E σ G => wi σ G fun xs sb G1 => forL sb g tb E xs σ G1
theorem ds_for {tg iter : Expr} {body : List Stmt} {wi : DTI} {g : DTG} {tb : DTS} (hp : PassesOwn (model X.prog X.w) X.A X.env X.xe) (hc : X.calm = true) (hi : DI X tg iter wi) (hg : DG X tg g) (hb : DSs X body tb)
    (hs : ∀ x, foldedSetIterable iter X.env x = pure x := by intro _; rfl) : DSt X (.For tg iter body [] pos) (sFor wi g tb) := by
  refine PS.imp (ps_for hp hc hi hg hb hs) ?_
  rintro Eh σh H ⟨σ, G, E, sl, rp, t, af⟩
  refine ⟨σ, G, _, sl, rp, t, fun xs sb G1 H1 J f1 rp1 src t1 => ?_⟩
  refine ⟨fun i m σh' H' => ∃ σ' G', Sl X.K H' σ' σh' ∧ Rep X.K H' G' ∧ Kp H1 G1 H' G' ∧ m + i = xs.length ∧ forL sb g tb E (xs.drop i) σ' G', ⟨xs.length, σ, G1, sl.mono (f1.tk rp), rp1, .refl, by simp, t1⟩, ?_⟩
  rintro i m σh2 H2 ⟨σ2, G2, sl2, rp2, k2, hm, t2⟩
  have sb2 := forL_sb t2
  by_cases hi : i < xs.length
  · refine .inr ⟨src.go i H2 G2 (k2.tk rp1) rp2 sb2 hi, fun σh' H' => ∃ m', m' < m ∧ ∃ σ' G', Sl X.K H' σ' σh' ∧ Rep X.K H' G' ∧ Kp H1 G1 H' G' ∧ m' + (i + 1) = xs.length ∧ forL sb g tb E (xs.drop (i + 1)) σ' G', fun _ _ h => h, fun x H3 y => ?_⟩
    obtain ⟨k3, rp3, dx⟩ := src.yld i H2 G2 x H3 xs[i] (k2.tk rp1) rp2 sb2 y (List.getElem?_eq_getElem hi)
    rw [List.drop_eq_getElem_cons hi] at t2
    refine ⟨xs[i], σ2, G2, _, dx, sl2.mono (k3.tk rp2), rp3, t2.2, fun σ4 σh4 G4 H4 f4 sl4 rp4 t4 => ?_⟩
    have back : AftS X.K H4 G4 (forL sb g tb E (xs.drop (i + 1))) (fun σh' H' => ∃ m', m' < m ∧ ∃ σ' G', Sl X.K H' σ' σh' ∧ Rep X.K H' G' ∧ Kp H1 G1 H' G' ∧ m' + (i + 1) = xs.length ∧ forL sb g tb E (xs.drop (i + 1)) σ' G') :=
      fun σ5 σh5 G5 H5 f5 sl5 rp5 t5 => ⟨m - 1, by omega, σ5, G5, sl5, rp5, k2.trans (k3.trans (f4.trans f5)), by omega, t5⟩
    have kk := f1.trans (k2.trans (k3.trans f4))
    exact ⟨σ4, G4, _, sl4, rp4, t4, ⟨back, af.rt.after kk, af.nx.after kk, back⟩⟩
  · rw [List.drop_eq_nil_of_le (by omega)] at t2
    exact .inl ⟨src.stop i H2 G2 (k2.tk rp1) rp2 sb2 (by omega), af.nx _ _ _ _ (f1.trans k2) sl2 rp2 t2.2⟩

/-! ### what is walked -/
/-- a list, a tuple or a text -/
theorem pi_seq {tg l : Expr} {tl : TE} (hl : PE X l tl) : PI X tg l (fun σ H R => tl σ H fun x H1 => (∃ a, x = .ref a ∧ (((∃ xs, SqL X.K H1 a xs) ∧ R (Itl X.K a) H1) ∨ ((∃ xs, SqT X.K H1 a xs) ∧ R (Itt X.K a) H1))) ∨ ∃ z, x = .str z ∧ R (Its z) H1) := by
  refine ⟨fun pins s σ H R I h => ?_⟩
  refine thn (hl.run pins s σ H _ I h) fun v s1 ⟨x, H1, I1, r1, q1⟩ => ?_
  rcases q1 with ⟨a, e, q⟩ | ⟨z, e, q⟩
  · subst e
    cases r1
    rcases q with ⟨⟨xs, hq⟩, q⟩ | ⟨⟨xs, hq⟩, q⟩
    · obtain ⟨its, rv, p, hz⟩ := I1.list hq
      refine wpAny_pyIter_list p.isList ?_
      refine ⟨s1.heap.objs.size, [s1.heap.objs.size], _, _, H1, rfl, I1.kept (t' := s1.toks) fun b o e => Heap.get?_push_of_some _ e, turn_list a _, ⟨_, Heap.get?_push_size _ rfl, rfl, rfl⟩, fun b hb => ?_, q⟩
      have e : b = s1.heap.objs.size := by simpa using hb
      subst e
      exact I1.fpOk (Nat.le_refl _) (I1.hok.fresh (Nat.le_refl _))
    · obtain ⟨its, rv, p, hz⟩ := I1.tuple hq
      refine wpAny_pyIter_tuple (show s1.heap.IsTuple a its.toArray from p) ?_
      refine ⟨s1.heap.objs.size, [s1.heap.objs.size], _, _, H1, rfl, I1.kept (t' := s1.toks) fun b o e => Heap.get?_push_of_some _ e, turn_tuple a _, ⟨_, Heap.get?_push_size _ rfl, rfl, rfl⟩, fun b hb => ?_, q⟩
      have e : b = s1.heap.objs.size := by simpa using hb
      subst e
      exact I1.fpOk (Nat.le_refl _) (I1.hok.fresh (Nat.le_refl _))
  · subst e
    obtain ⟨t, rfl⟩ := r1
    cases ha : z.cps.all (· < 128)
    · exact wpAny_pyIter_wide ha (pi_one (tk := s1.toks) I1 _ (turn_str _ z t "str_iterator" (.inr rfl)) ⟨_, Heap.get?_push_size _ rfl, rfl, rfl⟩ q)
    · exact wpAny_pyIter_ascii ha (pi_one (tk := s1.toks) I1 _ (turn_str _ z t "str_ascii_iterator" (.inl rfl)) ⟨_, Heap.get?_push_size _ rfl, rfl, rfl⟩ q)
end
def sTrue : GP → Prop := fun _ => True
section
variable {K : PySem.W.Frag} {H : Hp}
theorem src_tup' {a : Addr} {xs : List D} {vs : List V} (h : SqT K H a vs) (hs : Dens K H xs vs) : Src K (Itt K a) xs sTrue H := by
  refine ⟨fun i H' G tk rp _ hi => ?_, fun i H' G x H2 d tk rp _ y e => ?_, fun i H' G tk rp _ hi => ?_⟩
  · refine ⟨vs, vs[i]'(by rw [← hs.length]; exact hi), tk _ _ h, by simp⟩
  · obtain ⟨rfl, y⟩ := y
    obtain ⟨v, ev, dv⟩ := hs.get e
    have := y vs (tk _ _ h)
    rw [ev] at this; cases this
    exact ⟨.refl, rp, dv.mono tk⟩
  · exact ⟨vs, tk _ _ h, by rw [← hs.length]; exact hi⟩
theorem src_lst {a : Addr} {xs : List D} : Src K (Itl K a) xs (fun G => LstAt G a xs) H := by
  refine ⟨fun i H' G tk rp sb hi => ?_, fun i H' G x H2 d tk rp sb y e => ?_, fun i H' G tk rp sb hi => ?_⟩
  · obtain ⟨vs, h, hs⟩ := sb.seq rp
    exact ⟨vs, vs[i]'(by rw [← hs.length]; exact hi), h, by simp⟩
  · obtain ⟨vs, h, hs⟩ := sb.seq rp
    obtain ⟨rfl, y⟩ := y
    obtain ⟨v, ev, dv⟩ := hs.get e
    have := y vs h
    rw [ev] at this; cases this
    exact ⟨.refl, rp, dv⟩
  · obtain ⟨vs, h, hs⟩ := sb.seq rp
    exact ⟨vs, h, by rw [← hs.length]; exact hi⟩
def strDs (z : Str) : List D := z.cps.toList.map fun c => D.str ⟨#[c]⟩
theorem src_str {z : Str} : Src K (Its z) (strDs z) sTrue H := by
  refine ⟨fun i H' G tk rp sb hi => ?_, fun i H' G x H2 d tk rp sb y e => ?_, fun i H' G tk rp sb hi => ?_⟩
  · show i < z.cps.size
    simpa [strDs] using hi
  · obtain ⟨rfl, c, ec, rfl⟩ := y
    have : strDs z = z.cps.toList.map fun c => D.str ⟨#[c]⟩ := rfl
    rw [this, List.getElem?_map] at e
    have e2 : z.cps.toList[i]? = some c := by simpa using ec
    rw [e2] at e
    cases e
    exact ⟨.refl, rp, .str⟩
  · show z.cps.size ≤ i
    simpa [strDs] using hi
def rngDs (lo : Int) (n : Nat) : List D := (List.range n).map fun i => D.int (lo + (i : Nat))
theorem src_rng {lo : Int} {n : Nat} : Src K (Itr lo n) (rngDs lo n) sTrue H := by
  refine ⟨fun i H' G tk rp sb hi => ?_, fun i H' G x H2 d tk rp sb y e => ?_, fun i H' G tk rp sb hi => ?_⟩
  · show i < n
    simpa [rngDs] using hi
  · obtain ⟨rfl, rfl⟩ := y
    simp only [rngDs, List.getElem?_map, Option.map_eq_some_iff] at e
    obtain ⟨j, ej, rfl⟩ := e
    obtain ⟨_, rfl⟩ := List.getElem?_eq_some_iff.mp ej
    rw [List.getElem_range]
    exact ⟨.refl, rp, .int⟩
  · show n ≤ i
    simpa [rngDs] using hi
end
def iAny (te : DTE) : DTI := fun σ G Q => te σ G fun x G1 => match x with
  | .tup xs => Q xs sTrue G1
  | .str z => Q (strDs z) sTrue G1
  | .ref a => (match G1 a with
    | some (.lst xs) => Q xs (fun G => LstAt G a xs) G1
    | some (.cst xs) => Q xs (fun G => LstAt G a xs) G1
    | _ => False)
  | _ => False
/-- range(n) -/
def iRg1 (te : DTE) : DTI := fun σ G Q => te σ G fun x G1 => match x with
  | .int j => (-(2 ^ 62) ≤ j ∧ j < 2 ^ 62) ∧ Q (rngDs 0 j.toNat) sTrue G1
  | _ => False
def iRg2 (ta tb : DTE) : DTI := fun σ G Q => ta σ G fun x G1 => tb σ G1 fun y G2 => match x, y with
  | .int i, .int j => (-(2 ^ 62) ≤ i ∧ i < 2 ^ 62 ∧ -(2 ^ 62) ≤ j ∧ j < 2 ^ 62) ∧ Q (rngDs i (j - i).toNat) sTrue G2
  | _, _ => False
section
variable {X : Cx} {pos p : Pos} {tg a b e : Expr} {te ta tb : DTE}
theorem di_any (he : DE X e te) : DI X tg e (iAny te) := by
  refine PI.imp (pi_seq he) ?_
  rintro σh H R ⟨σ, G, Q, sl, rp, t, af⟩
  refine ⟨σ, G, _, sl, rp, t, fun d v G1 H1 f1 dv rp1 t1 => ?_⟩
  cases dv with
  | tup h hs => exact .inl ⟨_, rfl, .inr ⟨⟨_, h⟩, af _ _ _ _ _ f1 rp1 (src_tup' h hs) t1⟩⟩
  | str => exact .inr ⟨_, rfl, af _ _ _ _ _ f1 rp1 src_str t1⟩
  | ref =>
    simp only at t1
    split at t1
    · rename_i xs eg
      have L : LstAt G1 _ xs := .inl eg
      obtain ⟨vs, h, hs⟩ := L.seq rp1
      exact .inl ⟨_, rfl, .inl ⟨⟨_, h⟩, af _ _ _ _ _ f1 rp1 src_lst t1⟩⟩
    · rename_i xs eg
      have L : LstAt G1 _ xs := .inr eg
      obtain ⟨vs, h, hs⟩ := L.seq rp1
      exact .inl ⟨_, rfl, .inl ⟨⟨_, h⟩, af _ _ _ _ _ f1 rp1 src_lst t1⟩⟩
    · exact t1.elim
  | non => exact t1.elim
  | bl => exact t1.elim
  | int => exact t1.elim
  | ty => exact t1.elim
theorem di_range1 (hg : Gl X "range") (hm : X.mg "range" = none) (ha : DE X a ta) (hs : starEach [a] X.env = [(false, eval a X.env)] := by rfl) : DI X tg (.Call (.Name "range" p) [a] [] pos) (iRg1 ta) := by
  refine PI.imp (pi_range1 hg hm (pa_cons ha pa_nil hs) hs) ?_
  rintro σh H R ⟨σ, G, Q, sl, rp, t, af⟩
  refine ⟨σ, G, _, sl, rp, t, fun d v G1 H1 f1 dv rp1 t1 => ?_⟩
  split at t1
  · cases dv
    exact ⟨_, rfl, t1.1.1, t1.1.2, af _ _ _ _ _ f1 rp1 src_rng t1.2⟩
  · exact t1.elim
theorem di_range2 (hg : Gl X "range") (hm : X.mg "range" = none) (ha : DE X a ta) (hb : DE X b tb) (hs : starEach [a, b] X.env = [(false, eval a X.env), (false, eval b X.env)] := by rfl) (hs2 : starEach [b] X.env = [(false, eval b X.env)] := by rfl) : DI X tg (.Call (.Name "range" p) [a, b] [] pos) (iRg2 ta tb) := by
  refine PI.imp (pi_range2 hg hm (pa_cons ha (pa_cons hb pa_nil hs2) (by rw [hs, hs2])) hs hs2) ?_
  rintro σh H R ⟨σ, G, Q, sl, rp, t, af⟩
  refine ⟨σ, G, _, sl, rp, t, fun d v G1 H1 f1 dv rp1 t1 => ?_⟩
  refine ⟨σ, G1, _, sl.mono (f1.tk rp), rp1, t1, fun e w G2 H2 f2 dw rp2 t2 => ?_⟩
  split at t2
  · cases dv; cases dw
    exact ⟨_, _, rfl, t2.1, af _ _ _ _ _ (f1.trans f2) rp2 src_rng t2.2⟩
  · exact t2.elim
end
end Dn

namespace Dn
open PySem PySem.Spec PyProof.Rows L2

/-! ### the targets of a comprehension: a name, or some names -/
inductive CT where
  | one (i : Nat)
  | many (is : List Nat)
def setMany : List Nat → List D → DS → Option DS
  | [], [], σ => some σ
  | i :: is, x :: xs, σ => setMany is xs (σ.set i (some x))
  | _, _, _ => none
def CT.put : CT → D → DS → Option DS
  | .one i, d, σ => some (σ.set i (some d))
  | .many is, .tup xs, σ => setMany is xs σ
  | .many _, _, _ => none
def gMany : List Nat → TGs
  | [] => gNil
  | i :: is => gCons (gName i) (gMany is)
def CT.tg (K : PySem.W.Frag) : CT → TG
  | .one i => gName i
  | .many is => gTup K is.length (gMany is)
def CT.ids : CT → List Nat
  | .one i => [i]
  | .many is => is
theorem wipe_get (σ : L2.St) (j : Nat) : ∀ vs : List Nat, (wipe σ vs)[j]? = if j ∈ vs then (σ[j]?).map (fun _ => none) else σ[j]?
  | [] => by simp [wipe]
  | v :: vs => by
    unfold wipe
    rw [List.getElem?_set, wipe_get σ j vs, wipe_length]
    by_cases h : v = j
    · subst h
      simp only [if_true, List.mem_cons, true_or]
      by_cases hl : v < σ.length
      · simp [hl]
      · simp [hl]
    · have h' : ¬ j = v := fun e => h e.symm
      simp [h, h']
theorem wipe_set {σ : L2.St} {i : Nat} {x : Option V} {vs : List Nat} (h : i ∈ vs) : wipe (σ.set i x) vs = wipe σ vs := by
  apply List.ext_getElem?
  intro j
  rw [wipe_get, wipe_get]
  by_cases hj : j ∈ vs
  · rw [if_pos hj, if_pos hj, List.getElem?_set]
    by_cases e : i = j
    · subst e
      by_cases hl : i < σ.length
      · simp [hl]
      · simp [hl]
    · simp [e]
  · rw [if_neg hj, if_neg hj, List.getElem?_set_ne (fun (e : i = j) => hj (e ▸ h))]
theorem wipe_wipe {σ : L2.St} {vs : List Nat} : wipe (wipe σ vs) vs = wipe σ vs := by
  apply List.ext_getElem?
  intro j
  rw [wipe_get, wipe_get]
  by_cases hj : j ∈ vs
  · rw [if_pos hj, if_pos hj, Option.map_map]; rfl
  · rw [if_neg hj, if_neg hj]
def dwipe (σ : DS) : List Nat → DS
  | [] => σ
  | v :: vs => (dwipe σ vs).set v none
theorem Sl.wipe {K : PySem.W.Frag} {H : Hp} {σ : DS} {σh : L2.St} (s : Sl K H σ σh) : ∀ vs : List Nat, Sl K H (dwipe σ vs) (L2.wipe σh vs)
  | [] => s
  | v :: vs => (Sl.wipe s vs).unset v none
theorem gmany_of {K : PySem.W.Frag} {H : Hp} {ws : List Nat} {Qh : L2.St → Hp → Prop} : ∀ {is : List Nat} {xs : List D} {vs : List V} {σ σ2 : DS} {σh : L2.St}, setMany is xs σ = some σ2 → Dens K H xs vs → Sl K H σ σh → (∀ i ∈ is, i ∈ ws) →
    (∀ σh2, Sl K H σ2 σh2 → L2.wipe σh2 ws = L2.wipe σh ws → Qh σh2 H) → gMany is vs σh H Qh ∧ vs.length = is.length
  | [], [], _, σ, σ2, σh, e, .nil, sl, _, q => by
    simp only [setMany, Option.some.injEq] at e
    subst e
    exact ⟨⟨rfl, q σh sl rfl⟩, rfl⟩
  | i :: is, x :: xs, _, σ, σ2, σh, e, .cons dv dvs, sl, hi, q => by
    simp only [setMany] at e
    have := gmany_of (Qh := Qh) e dvs (sl.set dv i) (fun j hj => hi j (List.mem_cons_of_mem _ hj)) fun σh2 s2 w2 => q σh2 s2 (by rw [w2, wipe_set (hi i List.mem_cons_self)])
    exact ⟨⟨_, _, rfl, this.1⟩, by rw [List.length_cons, List.length_cons, this.2]⟩
  | [], _ :: _, _, _, _, _, e, _, _, _, _ => by simp [setMany] at e
  | _ :: _, [], _, _, _, _, e, _, _, _, _ => by simp [setMany] at e
theorem ct_of {K : PySem.W.Frag} {H : Hp} {ct : CT} {d : D} {v : V} {σ σ2 : DS} {σh : L2.St} {ws : List Nat} {Qh : L2.St → Hp → Prop} (e : ct.put d σ = some σ2) (dv : Den K H d v) (sl : Sl K H σ σh) (hi : ∀ i ∈ ct.ids, i ∈ ws)
    (q : ∀ σh2, Sl K H σ2 σh2 → L2.wipe σh2 ws = L2.wipe σh ws → Qh σh2 H) : ct.tg K v σh H Qh := by
  cases ct with
  | one i =>
    simp only [CT.put, Option.some.injEq] at e
    subst e
    exact q _ (sl.set dv i) (wipe_set (hi i (by simp [CT.ids])))
  | many is =>
    cases dv with
    | tup h hs =>
      simp only [CT.put] at e
      have := gmany_of (Qh := Qh) e hs sl hi q
      exact ⟨_, _, rfl, h, this.2, this.1⟩
    | _ => simp [CT.put] at e
abbrev CTg (X : Cx) (tg : Expr) (ct : CT) : Prop := PG X tg (ct.tg X.K)
section
variable {X : Cx} {pos : Pos}
theorem ct_one {i : Nat} {x : Str} (hN : X.N.Nodup) (hi : X.N[i]? = some x) (hx : Loc X.env.scope x) (hf : X.fn x = true ∨ X.env.scope.names.lookup x = some .local := by first | exact .inl rfl | exact .inr rfl | assumption) : CTg X (.Name x pos) (.one i) := pg_name hN hi hx hf
theorem ct_many {es : List Expr} {k : Nat} {is : List Nat} (hc : X.calm = true) (h : PGs X es (gMany is))
    (hn : (assignEach es X.env).length = is.length := by rfl) (hst : (assignEach es X.env).findIdx? (·.1) = none := by rfl) : CTg X (.Tuple es k pos) (.many is) := pg_tup hc h hn hst
theorem ct_nil : PGs X [] (gMany []) := pgs_nil
theorem ct_cons {e : Expr} {es : List Expr} {i : Nat} {is : List Nat} (h : CTg X e (.one i)) (h2 : PGs X es (gMany is)) (hs : (assignEach (e :: es) X.env).map (·.2) = assign e X.env :: (assignEach es X.env).map (·.2) := by rfl) : PGs X (e :: es) (gMany (i :: is)) := pgs_cons h h2 hs
end

/-! ### list comprehensions -/
def lcL (sb : GP → Prop) (ct : CT) (tt : DTT) (te : DTE) (σ : DS) (Q : List D → GP → Prop) : List D → List D → GP → Prop
  | [], acc, G => sb G ∧ Q acc G
  | x :: xs, acc, G => sb G ∧ match ct.put x σ with
    | some σ2 => tt σ2 G fun b G3 => if b = true then te σ2 G3 fun y G4 => acc.length < sizeLine ∧ lcL sb ct tt te σ Q xs (acc ++ [y]) G4 else lcL sb ct tt te σ Q xs acc G3
    | none => False
theorem lcL_sb {sb : GP → Prop} {ct : CT} {tt : DTT} {te : DTE} {σ : DS} {Q : List D → GP → Prop} {xs acc : List D} {G : GP} (h : lcL sb ct tt te σ Q xs acc G) : sb G := by cases xs <;> exact h.1
def eLc (wi : DTI) (ct : CT) (tt : DTT) (te : DTE) (vs : List Nat) : DTE := fun σ G Q => wi σ G fun xs sb G1 => lcL sb ct tt te (dwipe σ vs) (fun ys G2 => ∀ p, G2 p = none → Q (.ref p) (gup G2 p (.lst ys))) xs [] G1
def bYes : DTT := fun _ G Q => Q true G
theorem Rep.hput {K : PySem.W.Frag} {H : Hp} {G : GP} (r : Rep K H G) {p : Addr} {u o : HO} (hp : H p = some u) (h1 : ∀ ws, u ≠ .tup ws) (h2 : ∀ ob ws, u ≠ .frz ob (.tup ws)) (g : G p = none) : Rep K (upd H p o) G := fun a w e => by
  have ne : a ≠ p := fun z => by subst z; rw [g] at e; cases e
  exact (r a w e).mono (tk_put hp h1 h2) (upd_ne ne)
section
variable {X : Cx} {pos : Pos}
theorem l_lc {wi : DTI} {ct : CT} {tt : DTT} {te : DTE} {vs : List Nat} (hi : ∀ i ∈ ct.ids, i ∈ vs) {σh : L2.St} {H : Hp} {Qh : VK} (h : lE X.K (eLc wi ct tt te vs) σh H Qh) : tLc (lI X.K wi) (ct.tg X.K) (lT X.K tt) (lE X.K te) vs σh H Qh := by
  obtain ⟨σ, G, Q, sl, rp, t, af⟩ := h
  refine ⟨σ, G, _, sl, rp, t, fun xs sb G1 H1 J f1 rp1 src t1 D hD => ?_⟩
  have gD : G1 D = none := rp1.free hD
  refine ⟨fun i m H' => ∃ G' acc accV, Rep X.K H' G' ∧ Kp H1 G1 H' G' ∧ TK X.K H1 H' ∧ H' D = some (.lst accV) ∧ G' D = none ∧ Dens X.K H' acc accV ∧ m + i = xs.length ∧
    lcL sb ct tt te (dwipe σ vs) (fun ys G2 => ∀ p, G2 p = none → Q (.ref p) (gup G2 p (.lst ys))) (xs.drop i) acc G', ⟨xs.length, G1, [], [], rp1.hid hD, Kp.hid hD, tk_new hD, upd_same, gD, .nil, by simp, t1⟩, ?_⟩
  rintro i m H2 ⟨G2, acc, accV, rp2, k2, tk2, hD2, gD2, dac, hm, t2⟩
  have sb2 := lcL_sb t2
  by_cases hlt : i < xs.length
  · refine .inr ⟨src.go i H2 G2 tk2 rp2 sb2 hlt, fun H' => ∃ m', m' < m ∧ ∃ G' acc accV, Rep X.K H' G' ∧ Kp H1 G1 H' G' ∧ TK X.K H1 H' ∧ H' D = some (.lst accV) ∧ G' D = none ∧ Dens X.K H' acc accV ∧ m' + (i + 1) = xs.length ∧
      lcL sb ct tt te (dwipe σ vs) (fun ys G2 => ∀ p, G2 p = none → Q (.ref p) (gup G2 p (.lst ys))) (xs.drop (i + 1)) acc G', fun _ h => h, fun x H3 y => ?_⟩
    obtain ⟨k3, rp3, dx⟩ := src.yld i H2 G2 x H3 xs[i] tk2 rp2 sb2 y (List.getElem?_eq_getElem hlt)
    have tk3 := k3.tk rp2
    obtain ⟨hD3, gD3⟩ := k3 D _ hD2 gD2
    rw [List.drop_eq_getElem_cons hlt] at t2
    obtain ⟨_, t2⟩ := t2
    split at t2
    · rename_i σ2 eput
      have sl3 : Sl X.K H3 (dwipe σ vs) (L2.wipe σh vs) := (((sl.mono (f1.tk rp)).wipe vs).mono tk2).mono tk3
      refine ct_of eput dx sl3 hi fun σh2 s2 w2 => ?_
      refine ⟨by rw [w2, wipe_wipe], σ2, G2, _, s2, rp3, t2, fun b G4 H4 f4 rp4 t4 => ?_⟩
      have tk4 := f4.tk rp3
      obtain ⟨hD4, gD4⟩ := f4 D _ hD3 gD3
      cases b with
      | false =>
        refine iteF ⟨m - 1, by omega, G4, acc, accV, rp4, k2.trans (k3.trans f4), tk2.trans (tk3.trans tk4), hD4, gD4, (dac.mono tk3).mono tk4, by omega, t4⟩
      | true =>
        refine iteT ⟨σ2, G4, _, s2.mono tk4, rp4, t4, fun y yv G5 H5 f5 dy rp5 t5 => ?_⟩
        have tk5 := f5.tk rp4
        obtain ⟨hD5, gD5⟩ := f5 D _ hD4 gD4
        have dac5 := ((dac.mono tk3).mono tk4).mono tk5
        have tkp : TK X.K H5 (upd H5 D (.lst (accV ++ [yv]))) := tk_put hD5 (by intro _ z; cases z) (by intro _ _ z; cases z)
        refine ⟨accV, hD5, by rw [← dac5.length]; exact t5.1, m - 1, by omega, G5, acc ++ [y], accV ++ [yv], rp5.hput hD5 (by intro _ z; cases z) (by intro _ _ z; cases z) gD5, fun a o ha ga => ?_, tk2.trans (tk3.trans (tk4.trans (tk5.trans tkp))), upd_same, gD5, (dac5.append (.cons dy .nil)).mono tkp, by omega, t5.2⟩
        have ne := ne_of_none ha hD
        obtain ⟨q1, q2⟩ := (k2.trans (k3.trans (f4.trans f5))) a o ha ga
        exact ⟨by rw [upd_ne ne]; exact q1, q2⟩
    · exact t2.elim
  · rw [List.drop_eq_nil_of_le (by omega)] at t2
    refine .inl ⟨src.stop i H2 G2 tk2 rp2 sb2 (by omega), ?_⟩
    refine af (.ref D) _ (gup G2 D (.lst acc)) H2 (fun a o ha ga => ?_) .ref (fun a o e => ?_) (t2.2 D gD2)
    · obtain ⟨q1, q2⟩ := f1 a o ha ga
      have ne := ne_of_none q1 hD
      obtain ⟨q3, q4⟩ := k2 a o q1 q2
      exact ⟨q3, by rw [gup_ne ne]; exact q4⟩
    · by_cases ha : a = D
      · subst ha; rw [gup_same] at e; cases e; exact .lst hD2 dac
      · rw [gup_ne ha] at e; exact rp2 a o e
variable {elt tg iter : Expr} {ifs : List Expr} {scope : Scope} {own : List (Str × Nat)} {wi : DTI} {ct : CT} {tt : DTT} {te : DTE}
abbrev DTs (X : Cx) (ifs : List Expr) (t : DTT) : Prop := PTs X ifs (lT X.K t)
theorem PTs.imp {e : List Expr} {t t' : TT} (h : PTs X e t) (i : ∀ σ H Q, t' σ H Q → t σ H Q) : PTs X e t' := ⟨fun pins s σ H Q I q => h.run pins s σ H Q I (i σ H Q q)⟩
theorem dts_nil : DTs X [] bYes := by
  refine PTs.imp pts_nil ?_
  rintro σh H Qh ⟨σ, G, Q, sl, rp, t, af⟩
  exact af _ _ _ .refl rp t
theorem dts_one {c : Expr} {t : DTT} (h : DT X c t) : DTs X [c] t := pts_one h
theorem de_lc (hc : X.calm = true) (hN : X.N.Nodup) (hi : DI X tg iter wi) (ok : BlkOk X.N X.env.scope scope own)
    (hg : ∀ (s : Shared) (H : Hp) (C : Addr) (cl : List (Str × Addr)) (fp : List Addr), CTg (X.blk s H scope (compEnvC scope cl C X.env) fp) tg ct) (ht : ∀ (s : Shared) (H : Hp) (C : Addr) (cl : List (Str × Addr)) (fp : List Addr), DTs (X.blk s H scope (compEnvC scope cl C X.env) fp) ifs tt)
    (he : ∀ (s : Shared) (H : Hp) (C : Addr) (cl : List (Str × Addr)) (fp : List Addr), DE (X.blk s H scope (compEnvC scope cl C X.env) fp) elt te) (hv : ∀ i ∈ ct.ids, i ∈ own.map (·.2) := by decide) (hs : ∀ x, foldedSetIterable iter X.env x = pure x := by intro _; rfl) :
    DE X (.ListComp elt [⟨tg, iter, ifs, 0⟩] scope pos) (eLc wi ct tt te (own.map (·.2))) :=
  PE.imp (pe_lc (te := lE X.K te) (tt := lT X.K tt) (g := ct.tg X.K) hc hN hi ok hg ht he hs) fun _ _ _ h => l_lc hv h
theorem ds_setLc {i : Nat} {y : Str} {py spos : Pos} (hc : X.calm = true) (hN : X.N.Nodup) (hy : X.N[i]? = some y) (hyl : X.env.scope.names.lookup y = some .local)
    (hsw : swapsWith (.ListComp elt [⟨tg, iter, ifs, 0⟩] scope pos) (some (.Name y py)) spos.line X.env = pure true) (hi : DI X tg iter wi) (ok : BlkOk X.N X.env.scope scope own)
    (hg : ∀ (s : Shared) (H : Hp) (C : Addr) (cl : List (Str × Addr)) (fp : List Addr), CTg (X.blk s H scope (compEnvC scope cl C X.env) fp) tg ct) (ht : ∀ (s : Shared) (H : Hp) (C : Addr) (cl : List (Str × Addr)) (fp : List Addr), DTs (X.blk s H scope (compEnvC scope cl C X.env) fp) ifs tt)
    (he : ∀ (s : Shared) (H : Hp) (C : Addr) (cl : List (Str × Addr)) (fp : List Addr), DE (X.blk s H scope (compEnvC scope cl C X.env) fp) elt te) (hv : ∀ i ∈ ct.ids, i ∈ own.map (·.2) := by decide) (hs : ∀ x, foldedSetIterable iter X.env x = pure x := by intro _; rfl) :
    DSt X (.Assign [.Name y py] (.ListComp elt [⟨tg, iter, ifs, 0⟩] scope pos) spos) (sAsg (eLc wi ct tt te (own.map (·.2))) (gNm i)) := by
  refine PS.imp (ps_setLc (te := lE X.K te) (tt := lT X.K tt) (g := ct.tg X.K) hc hN hy hyl hsw hi ok hg ht he hs) ?_
  rintro Eh σh H ⟨σ, G, E, sl, rp, t, af⟩
  exact l_lc hv ⟨σ, G, _, sl, rp, t, fun d v G1 H1 f1 dv rp1 t1 => af.nx _ _ _ _ f1 ((sl.mono (f1.tk rp)).set dv i) rp1 t1⟩
end

/-! ### dict comprehensions -/
def dcL (sb : GP → Prop) (ct : CT) (tt : DTT) (tk tv : DTE) (σ : DS) (Q : List (Key × D) → GP → Prop) : List D → List (Key × D) → GP → Prop
  | [], acc, G => sb G ∧ Q acc G
  | x :: xs, acc, G => sb G ∧ match ct.put x σ with
    | some σ2 => tt σ2 G fun b G3 => if b = true then tk σ2 G3 fun k G4 => tv σ2 G4 fun y G5 => (match keyD k with
      | some kk => acc.length < sizeLine ∧ dcL sb ct tt tk tv σ Q xs (dput acc kk y) G5
      | none => False) else dcL sb ct tt tk tv σ Q xs acc G3
    | none => False
theorem dcL_sb {sb : GP → Prop} {ct : CT} {tt : DTT} {tk tv : DTE} {σ : DS} {Q : List (Key × D) → GP → Prop} {xs : List D} {acc : List (Key × D)} {G : GP} (h : dcL sb ct tt tk tv σ Q xs acc G) : sb G := by cases xs <;> exact h.1
def eDc (wi : DTI) (ct : CT) (tt : DTT) (tk tv : DTE) (vs : List Nat) : DTE := fun σ G Q => wi σ G fun xs sb G1 => dcL sb ct tt tk tv (dwipe σ vs) (fun ys G2 => ∀ p, G2 p = none → Q (.ref p) (gup G2 p (.dic ys))) xs [] G1
section
variable {X : Cx} {pos : Pos}
theorem l_dc {wi : DTI} {ct : CT} {tt : DTT} {tk tv : DTE} {vs : List Nat} (hi : ∀ i ∈ ct.ids, i ∈ vs) {σh : L2.St} {H : Hp} {Qh : VK} (h : lE X.K (eDc wi ct tt tk tv vs) σh H Qh) : tDc (lI X.K wi) (ct.tg X.K) (lT X.K tt) (lE X.K tk) (lE X.K tv) vs σh H Qh := by
  obtain ⟨σ, G, Q, sl, rp, t, af⟩ := h
  refine ⟨σ, G, _, sl, rp, t, fun xs sb G1 H1 J f1 rp1 src t1 D hD => ?_⟩
  have gD : G1 D = none := rp1.free hD
  refine ⟨fun i m H' => ∃ G' acc accV, Rep X.K H' G' ∧ Kp H1 G1 H' G' ∧ TK X.K H1 H' ∧ H' D = some (.dK accV) ∧ G' D = none ∧ KDens X.K H' acc accV ∧ m + i = xs.length ∧
    dcL sb ct tt tk tv (dwipe σ vs) (fun ys G2 => ∀ p, G2 p = none → Q (.ref p) (gup G2 p (.dic ys))) (xs.drop i) acc G', ⟨xs.length, G1, [], [], rp1.hid hD, Kp.hid hD, tk_new hD, upd_same, gD, .nil, by simp, t1⟩, ?_⟩
  rintro i m H2 ⟨G2, acc, accV, rp2, k2, tk2, hD2, gD2, dac, hm, t2⟩
  have sb2 := dcL_sb t2
  by_cases hlt : i < xs.length
  · refine .inr ⟨src.go i H2 G2 tk2 rp2 sb2 hlt, fun H' => ∃ m', m' < m ∧ ∃ G' acc accV, Rep X.K H' G' ∧ Kp H1 G1 H' G' ∧ TK X.K H1 H' ∧ H' D = some (.dK accV) ∧ G' D = none ∧ KDens X.K H' acc accV ∧ m' + (i + 1) = xs.length ∧
      dcL sb ct tt tk tv (dwipe σ vs) (fun ys G2 => ∀ p, G2 p = none → Q (.ref p) (gup G2 p (.dic ys))) (xs.drop (i + 1)) acc G', fun _ h => h, fun x H3 y => ?_⟩
    obtain ⟨k3, rp3, dx⟩ := src.yld i H2 G2 x H3 xs[i] tk2 rp2 sb2 y (List.getElem?_eq_getElem hlt)
    have tk3 := k3.tk rp2
    obtain ⟨hD3, gD3⟩ := k3 D _ hD2 gD2
    rw [List.drop_eq_getElem_cons hlt] at t2
    obtain ⟨_, t2⟩ := t2
    split at t2
    · rename_i σ2 eput
      have sl3 : Sl X.K H3 (dwipe σ vs) (L2.wipe σh vs) := (((sl.mono (f1.tk rp)).wipe vs).mono tk2).mono tk3
      refine ct_of eput dx sl3 hi fun σh2 s2 w2 => ?_
      refine ⟨by rw [w2, wipe_wipe], σ2, G2, _, s2, rp3, t2, fun b G4 H4 f4 rp4 t4 => ?_⟩
      have tk4 := f4.tk rp3
      obtain ⟨hD4, gD4⟩ := f4 D _ hD3 gD3
      cases b with
      | false =>
        refine iteF ⟨m - 1, by omega, G4, acc, accV, rp4, k2.trans (k3.trans f4), tk2.trans (tk3.trans tk4), hD4, gD4, (dac.mono tk3).mono tk4, by omega, t4⟩
      | true =>
        refine iteT ⟨σ2, G4, _, s2.mono tk4, rp4, t4, fun kd kv G5 H5 f5 dk rp5 t5 => ?_⟩
        have tk5 := f5.tk rp4
        obtain ⟨hD5, gD5⟩ := f5 D _ hD4 gD4
        refine ⟨σ2, G5, _, (s2.mono tk4).mono tk5, rp5, t5, fun y yv G6 H6 f6 dy rp6 t6 => ?_⟩
        have tk6 := f6.tk rp5
        obtain ⟨hD6, gD6⟩ := f6 D _ hD5 gD5
        split at t6
        · rename_i kk ek
          have dac6 := (((dac.mono tk3).mono tk4).mono tk5).mono tk6
          have tkp : TK X.K H6 (upd H6 D (.dK (putK accV kk yv))) := tk_put hD6 (by intro _ z; cases z) (by intro _ _ z; cases z)
          refine ⟨accV, kk, keyD_den dk ek, hD6, by rw [← dac6.length]; exact t6.1, m - 1, by omega, G6, dput acc kk y, putK accV kk yv, rp6.hput hD6 (by intro _ z; cases z) (by intro _ _ z; cases z) gD6, fun a o ha ga => ?_, tk2.trans (tk3.trans (tk4.trans (tk5.trans (tk6.trans tkp)))), upd_same, gD6, (dac6.put dy).mono tkp, by omega, t6.2⟩
          have ne := ne_of_none ha hD
          obtain ⟨q1, q2⟩ := (k2.trans (k3.trans (f4.trans (f5.trans f6)))) a o ha ga
          exact ⟨by rw [upd_ne ne]; exact q1, q2⟩
        · exact t6.elim
    · exact t2.elim
  · rw [List.drop_eq_nil_of_le (by omega)] at t2
    refine .inl ⟨src.stop i H2 G2 tk2 rp2 sb2 (by omega), ?_⟩
    refine af (.ref D) _ (gup G2 D (.dic acc)) H2 (fun a o ha ga => ?_) .ref (fun a o e => ?_) (t2.2 D gD2)
    · obtain ⟨q1, q2⟩ := f1 a o ha ga
      have ne := ne_of_none q1 hD
      obtain ⟨q3, q4⟩ := k2 a o q1 q2
      exact ⟨q3, by rw [gup_ne ne]; exact q4⟩
    · by_cases ha : a = D
      · subst ha; rw [gup_same] at e; cases e; exact .dic hD2 dac
      · rw [gup_ne ha] at e; exact rp2 a o e
variable {kx vx tg iter : Expr} {ifs : List Expr} {scope : Scope} {own : List (Str × Nat)} {wi : DTI} {ct : CT} {tt : DTT} {tk tv : DTE}
theorem de_dc (hc : X.calm = true) (hN : X.N.Nodup) (hi : DI X tg iter wi) (ok : BlkOk X.N X.env.scope scope own)
    (hg : ∀ (s : Shared) (H : Hp) (C : Addr) (cl : List (Str × Addr)) (fp : List Addr), CTg (X.blk s H scope (compEnvC scope cl C X.env) fp) tg ct) (ht : ∀ (s : Shared) (H : Hp) (C : Addr) (cl : List (Str × Addr)) (fp : List Addr), DTs (X.blk s H scope (compEnvC scope cl C X.env) fp) ifs tt)
    (hk : ∀ (s : Shared) (H : Hp) (C : Addr) (cl : List (Str × Addr)) (fp : List Addr), DE (X.blk s H scope (compEnvC scope cl C X.env) fp) kx tk)
    (he : ∀ (s : Shared) (H : Hp) (C : Addr) (cl : List (Str × Addr)) (fp : List Addr), DE (X.blk s H scope (compEnvC scope cl C X.env) fp) vx tv) (hv : ∀ i ∈ ct.ids, i ∈ own.map (·.2) := by decide) (hs : ∀ x, foldedSetIterable iter X.env x = pure x := by intro _; rfl) :
    DE X (.DictComp kx vx [⟨tg, iter, ifs, 0⟩] scope pos) (eDc wi ct tt tk tv (own.map (·.2))) :=
  PE.imp (pe_dc (tk := lE X.K tk) (tv := lE X.K tv) (tt := lT X.K tt) (g := ct.tg X.K) hc hN hi ok hg ht hk he hs) fun _ _ _ h => l_dc hv h
theorem sw_trueD {gs : List Comprehension} {pos py : Pos} {y : Str} {l : Nat} {env : Env} (hk : env.scope.kind = .function) (hy : env.scope.names.lookup y = some .local) (hl : (py.line == pos.line) = true)
    (ha : (scope.names.any fun (n, k) => n == y && (k == .local || k == .cell)) = false) : swapsWith (.DictComp kx vx gs scope pos) (some (.Name y py)) l env = pure true := by
  have ky : env.kindOf y = some .local := hy
  have hb : env.blockKind = .function := by unfold Env.blockKind; rw [hk]; rfl
  unfold swapsWith
  simp only [hb, ky, ha, Expr.pos, hl]
  rfl
/-- name = {..} on one line, the name a local -/
theorem ps_setDc {i : Nat} {y : Str} {py spos : Pos} {wi : TI} {g : TG} {tt : TT} {tk tv : TE} (hc : X.calm = true) (hN : X.N.Nodup) (hy : X.N[i]? = some y) (hyl : X.env.scope.names.lookup y = some .local)
    (hsw : swapsWith (.DictComp kx vx [⟨tg, iter, ifs, 0⟩] scope pos) (some (.Name y py)) spos.line X.env = pure true) (hi : PI X tg iter wi) (ok : BlkOk X.N X.env.scope scope own)
    (hg : ∀ (s : Shared) (H : Hp) (C : Addr) (cl : List (Str × Addr)) (fp : List Addr), PG (X.blk s H scope (compEnvC scope cl C X.env) fp) tg g) (ht : ∀ (s : Shared) (H : Hp) (C : Addr) (cl : List (Str × Addr)) (fp : List Addr), PTs (X.blk s H scope (compEnvC scope cl C X.env) fp) ifs tt)
    (hk : ∀ (s : Shared) (H : Hp) (C : Addr) (cl : List (Str × Addr)) (fp : List Addr), PE (X.blk s H scope (compEnvC scope cl C X.env) fp) kx tk)
    (he : ∀ (s : Shared) (H : Hp) (C : Addr) (cl : List (Str × Addr)) (fp : List Addr), PE (X.blk s H scope (compEnvC scope cl C X.env) fp) vx tv) (hs : ∀ x, foldedSetIterable iter X.env x = pure x := by intro _; rfl) :
    PS X (.Assign [.Name y py] (.DictComp kx vx [⟨tg, iter, ifs, 0⟩] scope pos) spos) (tAsg (tDc wi g tt tk tv (own.map (·.2))) (gName i)) := by
  refine ⟨fun pins s σ H D I h => ?_⟩
  rw [exec_Assign_Name_used _ _ _ _ hsw]
  refine wpAny_bind (wpAny_standAt (wpAny_bind ?_))
  show wpAny _ X.A (do let _ ← comprehension (.DictComp kx vx [⟨tg, iter, ifs, 0⟩] scope pos) scope X.env (firstIterPos [⟨tg, iter, ifs, 0⟩] pos) newDict false (eval iter X.env) (some (assign (.Name y py) X.env))) _ _ s
  have h : tDc wi g tt tk tv (own.map (·.2)) σ H (fun x H1 => gName i x σ H1 D.nx) := h
  refine wpAny_bind (thn (dc_core (Qf := fun _ s' => SP X pins D .next s') hc hN I hi ok hg ht hk he hs h fun L C s' m H' I' q hn f => ?_) fun _ s' hq => wpAny_pure (wpAny_pure hq))
  show wpAny _ _ (assign (.Name y py) X.env (.ref L)) _ _ _
  refine wpAny_assign_Name (store_ok2 (v := V.ref L) I' hN hy (.inl hyl) rfl (fun s2 I2 ⟨a, sb, ha⟩ => ?_) (.inr hyl))
  obtain ⟨f0, f1, f2, f3, f4, f5⟩ := f
  have haC : C ≠ a := by
    rcases ha with z | z
    · rw [z]; exact f1
    · exact fun e => f4 y a z e.symm
  refine ⟨m, hn.sameBut sb haC, fun h3 sb3 => ?_⟩
  exact ⟨_, H', I2.turned (t' := s2.toks) (fun b o hb e => (sb3.2 b hb).trans e) f0 f1 f3 f4 f5, q⟩
theorem ds_setDc {i : Nat} {y : Str} {py spos : Pos} (hc : X.calm = true) (hN : X.N.Nodup) (hy : X.N[i]? = some y) (hyl : X.env.scope.names.lookup y = some .local)
    (hsw : swapsWith (.DictComp kx vx [⟨tg, iter, ifs, 0⟩] scope pos) (some (.Name y py)) spos.line X.env = pure true) (hi : DI X tg iter wi) (ok : BlkOk X.N X.env.scope scope own)
    (hg : ∀ (s : Shared) (H : Hp) (C : Addr) (cl : List (Str × Addr)) (fp : List Addr), CTg (X.blk s H scope (compEnvC scope cl C X.env) fp) tg ct) (ht : ∀ (s : Shared) (H : Hp) (C : Addr) (cl : List (Str × Addr)) (fp : List Addr), DTs (X.blk s H scope (compEnvC scope cl C X.env) fp) ifs tt)
    (hk : ∀ (s : Shared) (H : Hp) (C : Addr) (cl : List (Str × Addr)) (fp : List Addr), DE (X.blk s H scope (compEnvC scope cl C X.env) fp) kx tk)
    (he : ∀ (s : Shared) (H : Hp) (C : Addr) (cl : List (Str × Addr)) (fp : List Addr), DE (X.blk s H scope (compEnvC scope cl C X.env) fp) vx tv) (hv : ∀ i ∈ ct.ids, i ∈ own.map (·.2) := by decide) (hs : ∀ x, foldedSetIterable iter X.env x = pure x := by intro _; rfl) :
    DSt X (.Assign [.Name y py] (.DictComp kx vx [⟨tg, iter, ifs, 0⟩] scope pos) spos) (sAsg (eDc wi ct tt tk tv (own.map (·.2))) (gNm i)) := by
  refine PS.imp (ps_setDc (tk := lE X.K tk) (tv := lE X.K tv) (tt := lT X.K tt) (g := ct.tg X.K) hc hN hy hyl hsw hi ok hg ht hk he hs) ?_
  rintro Eh σh H ⟨σ, G, E, sl, rp, t, af⟩
  exact l_dc hv ⟨σ, G, _, sl, rp, t, fun d v G1 H1 f1 dv rp1 t1 => af.nx _ _ _ _ f1 ((sl.mono (f1.tk rp)).set dv i) rp1 t1⟩
end

/-! ### defs -/
/-- a def's promise over pure data: arguments, heap, what follows -/
abbrev DSp := List D → GP → DVK → Prop
def lSp (K : PySem.W.Frag) (sp : DSp) : Sp := fun vs H Qh _ => ∃ ds G Q, Dens K H ds vs ∧ Rep K H G ∧ sp ds G Q ∧ Aft K H G Q Qh
/-- the def of that name keeps the promise -/
structure Fn (P : Program) (w : World) (K : PySem.W.Frag) (mg : Str → Option Value) (base : Heap) (k : Nat) (x : Str) (ps : List Str) (sp : DSp) : Prop where
  ex : ∃ (f : Addr) (fd : FuncData), FnOk P w K mg base CX0 k f fd ps (lSp K sp) ∧ mg x = some (.ref f) ∧ PySem.W.keepIn K (.ref f) = true ∧ Binds K fd ps []
theorem Fn.mono {P : Program} {w : World} {K : PySem.W.Frag} {mg : Str → Option Value} {base : Heap} {j k : Nat} {x : Str} {ps : List Str} {sp : DSp} (F : Fn P w K mg base j x ps sp) (h : j ≤ k) : Fn P w K mg base k x ps sp :=
  let ⟨f, fd, a, b, c, d⟩ := F.ex; ⟨f, fd, a.mono h, b, c, d⟩
theorem Fn.imp {P : Program} {w : World} {K : PySem.W.Frag} {mg : Str → Option Value} {base : Heap} {k : Nat} {x : Str} {ps : List Str} {sp sp' : DSp} (F : Fn P w K mg base k x ps sp) (h : ∀ ds G Q, sp' ds G Q → sp ds G Q) : Fn P w K mg base k x ps sp' :=
  let ⟨f, fd, a, b, c, d⟩ := F.ex; ⟨f, fd, a.imp fun vs H Q E ⟨ds, G, Qd, h1, h2, h3, h4⟩ => ⟨ds, G, Qd, h1, h2, h _ _ _ h3, h4⟩, b, c, d⟩
section
variable {X : Cx} {pos p : Pos} {e : Expr} {es : List Expr} {t : DTA} {x : Str}
theorem de_call {k : Nat} {ps : List Str} {sp : DSp} (F : Fn X.prog X.w X.K X.mg X.base k x ps sp) (hr : Room k X.A) (hg : Gl X x) (ha : DA X (e :: es) t)
    (hd : (x == ("__debug__" : Str)) = false := by decide) (hs : starEach (e :: es) X.env = (false, eval e X.env) :: starEach es X.env := by rfl) (hpl : (backTo pos (starEach es X.env)).any (·.1) = false := by rfl) : DE X (.Call (.Name x p) (e :: es) [] pos) (eCa sp t) := by
  obtain ⟨f, fd, a, b, c, d⟩ := F.ex
  refine PE.imp (pe_call a hr hg b c d .nil pass0 ha (hdb := hd) (he := hs) (hpl := hpl)) ?_
  rintro σh H Qh ⟨σ, G, Q, sl, rp, t, af⟩
  refine ⟨σ, G, _, sl, rp, t, fun ds vs G1 H1 f1 dvs rp1 t1 => ⟨ds, G1, Q, by rw [List.append_nil]; exact dvs, rp1, t1, af.after f1⟩⟩
/-- the slots at a def's entry -/
def dstart (N : List Str) (ds : List D) : DS := ds.map some ++ List.replicate (N.length - ds.length) none
theorem fn_ok {P : Program} {w : World} {K : PySem.W.Frag} {mg : Str → Option Value} {base : Heap} {x qual : Str} {st : Stmt} {f : Addr} {fd : FuncData} {N ps : List Str} {k : Nat} {sp : DSp} (F : L2.Fun K x qual st f fd) (S : FnScope N ps (defScope st))
    (len : ∀ ds G Q, sp ds G Q → ds.length = ps.length) (rd : DTS)
    (der : ∀ (cdv : Value) (A : Around) (outer : List Env) (s : Shared) (H : Hp) (E : XK), Room k (A.deeper (envOfC qual (defScope st) s.heap.objs.size f cdv)) → DSs (cxOf CX0 P w K mg base N qual (defScope st) f cdv A outer s H E).nox (defBody st) rd)
    (sem : ∀ ds G Q, sp ds G Q → rd { nx := fun _ G' => Q .non G', rt := Q } (dstart N ds) G) : FnOk P w K mg base CX0 (k + 1) f fd ps (lSp K sp) := by
  refine F.ok S (fun vs H Q E ⟨ds, G, Qd, h1, h2, h3, h4⟩ => by rw [← h1.length]; exact len _ _ _ h3) fun cdv A outer s H vs Q E hr ⟨ds, G, Qd, h1, h2, h3, h4⟩ => ?_
  refine ⟨_, der cdv A outer s H E hr, dstart N ds, G, _, ?_, h2, sem _ _ _ h3, ⟨fun σ σh G' H' f' sl rp q => h4 .non .non G' H' f' .non rp q, h4, fun _ _ _ _ _ _ _ q => q.elim, fun _ _ _ _ _ _ _ q => q.elim⟩⟩
  exact Sl.start h1 N.length
end
end Dn

namespace Dn
open PySem PySem.Spec PyProof.Rows L2
theorem boot_len_ : bootBuiltins "len" = some (.builtin "len") := by decide +kernel
theorem boot_sorted_ : bootBuiltins "sorted" = some (.builtin "sorted") := by decide +kernel
theorem boot_sum_ : bootBuiltins "sum" = some (.builtin "sum") := by decide +kernel
theorem boot_all_ : bootBuiltins "all" = some (.builtin "all") := by decide +kernel
theorem boot_any_ : bootBuiltins "any" = some (.builtin "any") := by decide +kernel
theorem boot_min_ : bootBuiltins "min" = some (.builtin "min") := by decide +kernel
theorem boot_max_ : bootBuiltins "max" = some (.builtin "max") := by decide +kernel
theorem boot_int_ : bootBuiltins "int" = some (.type "int") := by decide +kernel
theorem boot_str_ : bootBuiltins "str" = some (.type "str") := by decide +kernel
theorem boot_tuple_ : bootBuiltins "tuple" = some (.type "tuple") := by decide +kernel
theorem boot_list_ : bootBuiltins "list" = some (.type "list") := by decide +kernel
end Dn

namespace Dn
open PySem PySem.Spec PyProof.Rows L2

/-! ### stepping: a statement alone, and one ahead of others -/
section
variable {E : DEnds} {σ : DS} {G : GP} {t u v : DTS} {te : DTE} {c : DTT} {i : Nat} {g : DTG}
theorem sSeq_i (h : t { E with nx := u E } σ G) : sSeq t u E σ G := h
theorem sSet_i (h : ∀ k : DVK, (∀ d G1, E.nx (σ.set i (some d)) G1 → k d G1) → te σ G k) : sAsg te (gNm i) E σ G := h _ fun _ _ h => h
theorem qSet_i (h : ∀ k : DVK, (∀ d G1, u E (σ.set i (some d)) G1 → k d G1) → te σ G k) : sSeq (sAsg te (gNm i)) u E σ G := h _ fun _ _ h => h
theorem sAsg_i (h : ∀ k : DVK, (∀ d G1, g d σ G1 E.nx → k d G1) → te σ G k) : sAsg te g E σ G := h _ fun _ _ h => h
theorem qAsg_i (h : ∀ k : DVK, (∀ d G1, g d σ G1 (u E) → k d G1) → te σ G k) : sSeq (sAsg te g) u E σ G := h _ fun _ _ h => h
theorem sIf_i (h : ∀ k : Bool → GP → Prop, (∀ G1, t E σ G1 → k true G1) → (∀ G1, u E σ G1 → k false G1) → c σ G k) : sIf c t u E σ G :=
  h _ (fun _ h => by rw [if_pos rfl]; exact h) fun _ h => by rw [if_neg (by decide)]; exact h
theorem qIf_i (h : ∀ k : Bool → GP → Prop, (∀ G1, t { E with nx := v E } σ G1 → k true G1) → (∀ G1, u { E with nx := v E } σ G1 → k false G1) → c σ G k) : sSeq (sIf c t u) v E σ G := sIf_i (E := { E with nx := v E }) h
/-- if c: t, the rest behind it -/
theorem qWhen_i (h : ∀ k : Bool → GP → Prop, (∀ G1, t { E with nx := v E } σ G1 → k true G1) → (∀ G1, v E σ G1 → k false G1) → c σ G k) : sSeq (sIf c t sNext) v E σ G := qIf_i h
theorem sRet_i (h : te σ G E.rt) : sRet te E σ G := h
theorem sDrop_i (h : ∀ k : DVK, (∀ d G1, E.nx σ G1 → k d G1) → te σ G k) : sDrop te E σ G := h _ fun _ _ h => h
theorem qDrop_i (h : ∀ k : DVK, (∀ d G1, u E σ G1 → k d G1) → te σ G k) : sSeq (sDrop te) u E σ G := h _ fun _ _ h => h
theorem sFor_i {wi : DTI} (h : ∀ k : List D → (GP → Prop) → GP → Prop, (∀ xs sb G1, forL sb g t E xs σ G1 → k xs sb G1) → wi σ G k) : sFor wi g t E σ G := h _ fun _ _ _ h => h
theorem qFor_i {wi : DTI} (h : ∀ k : List D → (GP → Prop) → GP → Prop, (∀ xs sb G1, forL sb g t { E with nx := u E } xs σ G1 → k xs sb G1) → wi σ G k) : sSeq (sFor wi g t) u E σ G := h _ fun _ _ _ h => h
theorem qAug_i {r : DR2} {x : D} (e : σ[i]? = some (some x)) (h : ∀ k : DVK, (∀ d G1, u E (σ.set i (some d)) G1 → k d G1) → te σ G fun y G1 => r x y G1 k) : sSeq (sAug i r te) u E σ G := by
  show sAug i r te { E with nx := u E } σ G
  unfold sAug
  rw [e]
  exact h _ fun _ _ h => h
theorem sAug_i {r : DR2} {x : D} (e : σ[i]? = some (some x)) (h : ∀ k : DVK, (∀ d G1, E.nx (σ.set i (some d)) G1 → k d G1) → te σ G fun y G1 => r x y G1 k) : sAug i r te E σ G := by
  unfold sAug
  rw [e]
  exact h _ fun _ _ h => h
theorem k_dec {k : Bool → GP → Prop} {p : Prop} [Decidable p] {G : GP} (h1 : p → k true G) (h2 : ¬ p → k false G) : k (decide p) G := by
  by_cases h : p
  · rw [decide_eq_true h]; exact h1 h
  · rw [decide_eq_false h]; exact h2 h
end
theorem atI_0 {α : Type} {xs : List α} : atI xs 0 = xs[0]? := by
  cases xs with
  | nil => rfl
  | cons x xs => exact atI_nat (j := 0) rfl
theorem atI_of_nat {α : Type} {xs : List α} {j : Nat} : atI xs (j : Int) = xs[j]? := by
  cases e : xs[j]? with
  | some v => exact atI_nat e
  | none =>
    have h : xs.length ≤ j := List.getElem?_eq_none_iff.mp e
    unfold atI ixN
    rw [if_pos (by omega), if_neg (by omega)]
    rfl
theorem atI_1 {α : Type} {xs : List α} : atI xs 1 = xs[1]? := atI_of_nat (j := 1)
theorem atI_2 {α : Type} {xs : List α} : atI xs 2 = xs[2]? := atI_of_nat (j := 2)
theorem atI_3 {α : Type} {xs : List α} : atI xs 3 = xs[3]? := atI_of_nat (j := 3)
theorem atI_4 {α : Type} {xs : List α} : atI xs 4 = xs[4]? := atI_of_nat (j := 4)
theorem ixN_nat {n j : Nat} (h : j < n) : ixN n (j : Int) = some j := by unfold ixN; rw [if_pos (by omega), if_pos (by omega)]; simp
theorem ixN_0 {n : Nat} : ixN (n + 1) 0 = some 0 := ixN_nat (j := 0) (by omega)
theorem ixN_1 {n : Nat} : ixN (n + 2) 1 = some 1 := ixN_nat (j := 1) (by omega)
theorem ixN_2 {n : Nat} : ixN (n + 3) 2 = some 2 := ixN_nat (j := 2) (by omega)
theorem ixN_3 {n : Nat} : ixN (n + 4) 3 = some 3 := ixN_nat (j := 3) (by omega)
theorem gup_get {G : GP} {a b : Addr} {o : DO} : gup G a o b = if b = a then some o else G b := rfl
theorem gup_gup {G : GP} {a : Addr} {o u : DO} : gup (gup G a o) a u = gup G a u := by funext b; unfold gup; split <;> rfl
theorem toNat_inj : ∀ {a b : List Char}, a.map Char.toNat = b.map Char.toNat → a = b
  | [], [], _ => rfl
  | [], _ :: _, h => by simp at h
  | _ :: _, [], h => by simp at h
  | x :: xs, y :: ys, h => by
    simp only [List.map_cons, List.cons.injEq] at h
    rw [toNat_inj h.2, Char.toNat_inj.mp h.1]
theorem ofString_inj {a b : String} : (Str.ofString a = Str.ofString b) = (a = b) := by
  refine propext ⟨fun e => ?_, fun e => by rw [e]⟩
  rw [Str.ofString_eq_toList, Str.ofString_eq_toList] at e
  have := congrArg (fun s : Str => s.cps.toList) e
  simp only [] at this
  exact String.toList_injective (toNat_inj this)
end Dn


/-! ### list(reversed(x)), at the library's level -/
namespace RT
open PySem PySem.Spec PyProof.Rows
theorem nolen_rt : typeLookup (.type "reversed") "__len__" = pure none := by rw [typeLookup_type, builtinLookup_eq_fast]; kernel_rfl
theorem hint_rt : typeLookup (.type "reversed") "__length_hint__" = pure (some (.builtin "reversed.__length_hint__")) := by rw [typeLookup_type, builtinLookup_eq_fast]; kernel_rfl
theorem slot_rt_hint : Slot "reversed" "__length_hint__" "reversed.__length_hint__" :=
  .of (owner := "reversed") (n := "__length_hint__") (by rw [typeLookup_type, builtinLookup_eq_fast]; kernel_rfl) (by decide +kernel) (by decide +kernel) (by decide +kernel)
    (by first | exact .inl (by decide +kernel) | exact .inr (by decide +kernel)) (by rw [isSubtype_type]; kernel_rfl)
theorem entry_rt_hint : entryFor table "reversed.__length_hint__" = some Builtin.«reversed.__length_hint__» := entryFor_of_tree (by kernel_rfl)
theorem args_rt_hint (a : Value) : argsOk "reversed.__length_hint__" ⟨[a], []⟩ := by
  unfold argsOk; rw [signature?_of (id := "reversed.__length_hint__") (n := ['_', '_', 't', 'n', 'i', 'h', '_', 'h', 't', 'g', 'n', 'e', 'l', '_', '_']) (o := ['d', 'e', 's', 'r', 'e', 'v', 'e', 'r']) (by kernel_rfl) owner_rt]; kernel_rfl
section
variable {prog : Program} {w : World} {A : Around} {E : Value → Shared → Prop} {s : Shared}
theorem walks_rt (hh : A.handled = none) (I t : Addr) (hne : t ≠ I) (items : Array Value) (hsz : items.size ≤ sizeLine) :
    Walks prog w A I [I, t] [I] items.size (fun i v => items[items.size - 1 - i]? = some v) (fun i h => i ≤ items.size ∧ IsRt h I t ((items.size : Int) - 1 - (i : Int)) ∧ IsTup h t items) where
  sub := fun b hb => by simp at hb; simp [hb]
  frame := fun _ _ _ x hk => ⟨x.1, x.2.1.at fun o e => hk I (by simp) o e, let ⟨o, ho, r⟩ := x.2.2; ⟨o, hk t (by simp) o ho, r⟩⟩
  item := fun i s Q E hi x hQ => by
    have e : (items.size : Int) - 1 - (i : Int) = ((items.size - 1 - i : Nat) : Int) := by omega
    have hit := x.2.1
    rw [e] at hit
    have hx : items[items.size - 1 - i]? = some (items[items.size - 1 - i]'(by omega)) := Array.getElem?_eq_getElem (by omega)
    refine next_rt_item hit x.2.2 hx hsz fun h' hit' hs' => ?_
    have e2 : ((items.size - 1 - i : Nat) : Int) - 1 = (items.size : Int) - 1 - ((i + 1 : Nat) : Int) := by omega
    rw [e2] at hit'
    exact hQ _ h' (s.toks + 1) hx ⟨hi, hit', let ⟨o, ho, r⟩ := x.2.2; ⟨o, (hs'.2 t hne).trans ho, r⟩⟩ fun b o hb eo => hs'.extBut b o (fun h => hb (by simp [h])) eo
  done := fun s Q E x hQ => by
    have e : (items.size : Int) - 1 - (items.size : Int) = -1 := by omega
    have hit := x.2.1
    rw [e] at hit
    exact next_rt_end hh hit fun h' he' => hQ h' s.toks fun b o hb eo => he' b o (fun h => hb (by simp [h])) eo
  self := fun _ _ _ _ x hQ => iter_rt x.2.1 hQ
/-- the length's hint of reversed(tuple) -/
theorem hint_is {I t : Addr} {items : Array Value} {Q : Bool → Shared → Prop} (hit : IsRt s.heap I t ((items.size : Int) - 1)) (ht : IsTup s.heap t items) (hsz : items.size ≤ sizeLine)
    (h : ∀ b tk, Q b { s with toks := tk }) : wpAny (model prog w) A (Builtin.List.listLengthHint (.ref I)) Q E s := by
  obtain ⟨o, ho, hc, hd⟩ := id hit
  rw [sizeLine_eq] at hsz
  unfold Builtin.List.listLengthHint
  refine wpAny_bind (wpAny_specialOf hit.typeIs nolen_rt ?_)
  show wpAny _ A (specialOf (Value.ref I) (Str.ofString "__length_hint__") >>= _) _ _ _
  refine wpAny_bind (wpAny_specialOf hit.typeIs hint_rt ?_)
  generalize hid : ("reversed.__length_hint__" : String) = id0
  wp_delta
  rw [show splitId id0 = some ("reversed", "__length_hint__") from by subst hid; decide +kernel]
  subst hid
  refine wpAny_bind (wpAny_isInstance (b := true) hit.typeIs (by rw [isSubtype_type]; kernel_rfl) ?_)
  refine wpAny_ite_split (fun hab => absurd hab (by decide)) (fun _ => ?_)
  refine wpAny_ite_split (fun hab => absurd hab (by decide +kernel)) (fun _ => ?_)
  refine wpAny_bind (wpAny_rule ?_)
  refine wpAny_bind (wpAny_of_eq (slot_rt_hint.bind _) ?_)
  dsimp only
  have hh' : items.size ≤ sizeLine := by rw [sizeLine_eq]; exact hsz
  refine wpAny_bind (wpAny_attempt (wpAny_call_entry slot_rt_hint hit.typeIs entry_rt_hint ?_ (args_rt_hint _)))
  unfold Builtin.«reversed.__length_hint__»
  refine wpAny_bind (wpAny_of_eq (a := Value.ref I) rfl ?_)
  try dsimp only
  refine wpAny_bind (wpAny_field ho hd (x := .ref t) rfl ?_)
  try dsimp only
  rw [if_neg (by simp)]
  refine wpAny_bind (len_tuple ht (by omega) ?_)
  refine wpAny_bind (wpAny_of_eq (a := some ((items.size : Nat) : Int)) rfl ?_)
  try dsimp only
  refine wpAny_bind (wpAny_field (s := { s with toks := _ }) ho hd (x := rawInt ((items.size : Int) - 1)) rfl ?_)
  show wpAny _ _ (if ((items.size : Nat) : Int) < (items.size : Int) - 1 + 1 then _ else _) _ _ _
  rw [if_neg (by omega)]
  have e1 : (items.size : Int) - 1 + 1 = (items.size : Int) := by omega
  rw [e1]
  unfold retInt
  refine wpAny_bind (wpAny_mkInt ?_)
  refine wpAny_pure ⟨_, rfl, ?_⟩
  dsimp only
  have ha : ∀ (i : Int) (tk : Tok), asInt? (.int i tk) = pure (some i) := fun _ _ => rfl
  rw [ha]
  rw [pure_bind]
  dsimp only
  have f1 : Builtin.List.listFitsIndex (items.size : Int) = true := fitsIndex_of (by omega) (by omega)
  have f2 : Builtin.List.listTooLong ((items.size : Int)).toNat = false := by rw [Int.toNat_natCast]; exact L2.notLongL hh'
  rw [if_neg (by rw [f1]; decide), if_neg (by omega), if_neg (by rw [f2]; decide)]
  exact wpAny_pure (h _ _)
end
/-- what list(..) asks of an iterator at I over the thing at t -/
structure KdlSelf (prog : Program) (w : World) (T : String) (I t : Addr) (n : Nat) (P : Nat → Value → Prop) (OK : Heap → Prop) : Prop where
  type : ∀ s : Shared, OK s.heap → s.TypeIs (.ref I) T
  keep : ∀ h h' : Heap, OK h → (∀ b, b = I ∨ b = t → ∀ o, h.get? b = some o → h'.get? b = some o) → OK h'
  there : ∀ h : Heap, OK h → I < h.objs.size ∧ t < h.objs.size
  notList : (Value.type T == Value.type "list") = false
  notTuple : (Value.type T == Value.type "tuple") = false
  hint : ∀ (A : Around) (E : Value → Shared → Prop) (s : Shared) (Q : Bool → Shared → Prop), OK s.heap → (∀ b tk, Q b { s with toks := tk }) → wpAny (model prog w) A (Builtin.List.listLengthHint (.ref I)) Q E s
  iter : ∀ (A : Around) (E : Value → Shared → Prop) (s : Shared) (Q : Value → Shared → Prop), OK s.heap → Q (.ref I) s → wpAny (model prog w) A (pyIter (.ref I)) Q E s
  walks : ∀ A : Around, A.handled = none → ∃ St : Nat → Heap → Prop, Walks prog w A I [I, t] [I] n P St ∧ ∀ h, OK h → St 0 h
section
variable {prog : Program} {w : World} {A : Around} {E : Value → Shared → Prop} {s : Shared} {T : String} {n : Nat} {P : Nat → Value → Prop} {OK : Heap → Prop}
theorem code_list_init {I t : Addr} {R : Result → Shared → Prop} (hh : A.handled = none) (Z : KdlSelf prog w T I t n P OK) (ok : OK s.heap) (hn : n ≤ sizeLine)
    (S : Addr) (hSI : S ≠ I) (hSt : S ≠ t) (hS : s.heap.get? S = some { cls := .type "list", data := .seq #[] })
    (hR : ∀ h' tk acc' c', (∀ b o, b ≠ S → b ≠ I → s.heap.get? b = some o → h'.get? b = some o) → h'.get? S = some { cls := .type "list", dict := none, data := .seq acc' c', slots := #[] } → ItemsOf P acc' n → R (.ok (.ret .none)) { s with heap := h', toks := tk }) :
    wpAny (model prog w) A.in1 (Builtin.«list.__init__» ⟨[.ref S, .ref I], []⟩)
      (fun fin s' => match fin with | .done f => R (.ok f) s' | .again c' => c'.quiet = true ∧ codeAny (model prog w) A c' R s') (fun e s' => R (.error e) s') s := by
  have hSf : S ∉ [I, t] := by simp only [List.mem_cons, List.not_mem_nil, or_false, not_or]; exact ⟨hSI, hSt⟩
  show wpAny _ _ (do let old ← Builtin.List.listItems (.ref S); Builtin.List.listUpdate (.ref S) (fun _ => #[]); letGo old.toList.reverse; Builtin.List.listExtendWith (.ref S) (.ref I) .none) _ _ s
  refine wpAny_bind ?_
  unfold Builtin.List.listItems
  refine wpAny_bind (wpAny_seqItems hS rfl (wpAny_pure ?_))
  show wpAny _ _ (updateSeq S (fun _ => #[]) >>= fun _ => letGo (#[] : Array Value).toList.reverse >>= fun _ => Builtin.List.listExtendWith (.ref S) (.ref I) .none) _ _ s
  refine wpAny_bind (wpAny_updateSeq hS rfl ?_)
  have hS2 := Heap.get?_update_self (Obj.mapSeq (fun _ => (#[] : Array Value))) hS rfl
  have oth : ∀ b o, b ≠ S → s.heap.get? b = some o → (s.heap.update S (Obj.mapSeq (fun _ => (#[] : Array Value)))).get? b = some o :=
    fun b o hb e => (Heap.get?_update_other _ _ (Ne.symm hb)).trans e
  refine wpAny_bind (wpAny_letGo ?_)
  generalize hh2 : s.heap.update S (Obj.mapSeq (fun _ => (#[] : Array Value))) = h2 at hS2 oth
  have neS : ∀ b, b = I ∨ b = t → b ≠ S := fun b hb => by
    rcases hb with e | e
    · rw [e]; exact Ne.symm hSI
    · rw [e]; exact Ne.symm hSt
  have ok2 : OK h2 := Z.keep _ _ ok fun b hb o e => oth b o (neS b hb) e
  obtain ⟨St, W, st0⟩ := Z.walks A.in1 hh
  have key : ∀ (h : Heap) (c₁ tk : Nat), OK h → (∀ b o, b ≠ S → h2.get? b = some o → h.get? b = some o) →
      h.get? S = some { cls := .type "list", data := .seq #[] c₁ } → codeAny (model prog w) A (.builtin "list.extend.loop" ⟨[.ref S, .ref I, .none], []⟩) R { s with heap := h, toks := tk } := by
    intro h c₁ tk ok1 hk hS1
    refine codeAny_extend_loopS W.toS hn S hSf .none n 0 _ #[] c₁ rfl (Nat.zero_le _) (st0 _ ok1) hS1 (ItemsOf.nil _) fun s' acc' c' hm hS' hacc => ?_
    rw [Moved.eq_with hm]
    refine hR s'.heap s'.toks acc' c' (fun b o hb hbI e => hm.heap b o (fun hmem => ?_) (hk b o hb (oth b o hb e))) hS' hacc
    rcases List.mem_cons.mp hmem with e' | hmem
    · exact hb e'
    · exact hbI (List.mem_singleton.mp hmem)
  unfold Builtin.List.listExtendWith
  refine wpAny_bind (wpAny_typeOf (T := T) (s := { s with heap := h2 }) (Z.type { s with heap := h2 } ok2) ?_)
  have h1 : Builtin.List.listSameRef (.ref S) (.ref I) = false := by simp [Builtin.List.listSameRef, hSI]
  simp only [h1, Z.notList, Z.notTuple, Bool.or_false, Bool.false_eq_true, if_false]
  refine wpAny_bind (Z.iter _ _ { s with heap := h2 } _ ok2 ?_)
  refine wpAny_bind (wpAny_holding (Z.hint _ _ { s with heap := h2 } _ ok2 fun b tk => ?_))
  refine wpAny_ite_split (fun _ => ?_) (fun _ => wpAny_pure ⟨plainId_quiet PySem.F.plain_extend_loop _, key _ _ _ ok2 (fun b o _ e => e) hS2⟩)
  refine wpAny_bind (wpAny_rule ?_)
  refine wpAny_bind ?_
  show wpAny _ _ (updateSeq S (·.push .none) >>= fun _ => updateSeq S (·.pop)) _ _ _
  refine wpAny_bind (wpAny_updateSeq (s := { s with heap := h2, toks := tk }) hS2 rfl ?_)
  have hS3 := Heap.get?_update_self (Obj.mapSeq (·.push Value.none)) hS2 rfl
  refine wpAny_updateSeq (hz := by seq_fits) hS3 rfl ?_
  have hS4 := Heap.get?_update_self (Obj.mapSeq (·.pop)) hS3 rfl
  have oth2 : ∀ b o, b ≠ S → h2.get? b = some o → ((h2.update S (Obj.mapSeq (·.push Value.none))).update S (Obj.mapSeq (·.pop))).get? b = some o :=
    fun b o hb e => (Heap.get?_update_other _ _ (Ne.symm hb)).trans ((Heap.get?_update_other _ _ (Ne.symm hb)).trans e)
  exact wpAny_pure ⟨plainId_quiet PySem.F.plain_extend_loop _, key _ _ _ (Z.keep _ _ ok2 fun b hb o e => oth2 b o (neS b hb) e) oth2 hS4⟩
/-- list(it) -/
theorem call_list_self {I t : Addr} {Q : Value → Shared → Prop} (hh : A.handled = none) (Z : KdlSelf prog w T I t n P OK) (ok : OK s.heap) (hn : n ≤ sizeLine)
    (hQ : ∀ h' tk acc' c', (∀ b o, b ≠ I → s.heap.get? b = some o → h'.get? b = some o) → h'.get? s.heap.objs.size = some { cls := .type "list", dict := none, data := .seq acc' c', slots := #[] } → ItemsOf P acc' n → Q (.ref s.heap.objs.size) { s with heap := h', toks := tk }) :
    wpAny (model prog w) A (call (.type "list") [.ref I]) Q E s := by
  refine callType_codes (Q₁ := fun obj s₁ => obj = .ref s.heap.objs.size ∧ s₁ = { s with heap := s.heap.push { cls := .type "list", data := .seq #[] } }) PySem.F.called_list (PySem.F.typeCall_list_1 _) PySem.F.entry_list_init
    (code_list_new _ ⟨rfl, rfl⟩) fun obj s₁ h₁ => ?_
  obtain ⟨rfl, rfl⟩ := h₁
  have hS : (s.heap.push { cls := .type "list", data := .seq #[] }).get? s.heap.objs.size = some { cls := .type "list", data := .seq #[] } := Heap.get?_push_size _ rfl
  have hlt := Z.there _ ok
  have k0 : ∀ b o, s.heap.get? b = some o → (s.heap.push { cls := .type "list", data := .seq #[] }).get? b = some o := fun b o e => Heap.get?_push_of_some _ e
  refine ⟨⟨_, hS, rfl⟩, PySem.F.args_list_init_2 _ _, code_list_init (A := A.in1) (s := { s with heap := s.heap.push { cls := .type "list", data := .seq #[] } }) hh Z (Z.keep _ _ ok fun b _ o e => k0 b o e) hn _ (Nat.ne_of_gt hlt.1) (Nat.ne_of_gt hlt.2) hS fun h' tk acc' c' hk hS' hacc => ?_⟩
  exact ⟨rfl, hQ h' tk acc' c' (fun b o hbI e => hk b o (Nat.ne_of_lt (Heap.lt_size e)) hbI (k0 b o e)) hS' hacc⟩
theorem self_rt {I t : Addr} {items : Array Value} (hne : t ≠ I) (hn : items.size ≤ sizeLine) :
    KdlSelf prog w "reversed" I t items.size (fun i v => items[items.size - 1 - i]? = some v) (fun h => IsRt h I t ((items.size : Int) - 1) ∧ IsTup h t items) where
  type := fun s h => h.1.typeIs
  keep := fun h h' x k => ⟨x.1.at fun o e => k I (.inl rfl) o e, let ⟨o, ho, r⟩ := x.2; ⟨o, k t (.inr rfl) o ho, r⟩⟩
  there := fun h x => ⟨let ⟨_, e, _⟩ := x.1; Heap.lt_size e, let ⟨_, e, _⟩ := x.2; Heap.lt_size e⟩
  notList := by decide
  notTuple := by decide
  hint := fun A E s Q x h => hint_is x.1 x.2 hn h
  iter := fun A E s Q x h => iter_rt x.1 h
  walks := fun A hh => ⟨_, walks_rt hh I t hne items hn, fun h x => ⟨Nat.zero_le _, by simpa using x.1, x.2⟩⟩
theorem self_rl {I l : Addr} {items : Array Value} (hne : l ≠ I) :
    KdlSelf prog w "list_reverseiterator" I l items.size (fun i v => items[items.size - 1 - i]? = some v) (fun h => h.IsRevIter I l ((items.size : Int) - 1) ∧ h.IsList l items) where
  type := fun s h => h.1.typeIs
  keep := fun h h' x k => ⟨x.1.at fun o e => k I (.inl rfl) o e, x.2.at fun o e => k l (.inr rfl) o e⟩
  there := fun h x => ⟨let ⟨_, e, _⟩ := x.1; Heap.lt_size e, let ⟨_, e, _⟩ := x.2; Heap.lt_size e⟩
  notList := by decide
  notTuple := by decide
  hint := fun A E s Q x h => by
    have hT := Heap.IsRevIter.typeIs (s := s) x.1
    unfold Builtin.List.listLengthHint
    refine wpAny_bind (wpAny_specialOf hT nolen_lri ?_)
    show wpAny _ A (specialOf (Value.ref I) (Str.ofString "__length_hint__") >>= _) _ _ _
    refine wpAny_bind (wpAny_specialOf hT hint_lri ?_)
    generalize hid : ("list_reverseiterator.__length_hint__" : String) = id0
    wp_delta
    rw [show splitId id0 = some ("list_reverseiterator", "__length_hint__") from by subst hid; decide +kernel]
    subst hid
    refine wpAny_bind (wpAny_isInstance (b := true) hT (by rw [isSubtype_type]; kernel_rfl) ?_)
    exact wpAny_pure (h false s.toks)
  iter := fun A E s Q x h => wpAny_pyIter_revIter x.1 h
  walks := fun A hh => ⟨_, Walks.listRev hh I l hne items, fun h x => ⟨Nat.zero_le _, by simpa using x.1, x.2⟩⟩
end
end RT

namespace Dn
open PySem PySem.Spec PyProof.Rows L2 RT
def tLstRev (K : PySem.W.Frag) (te : TE) : TE := fun σ H Q => te σ H fun v H1 => ∃ (a : Addr) (xs : List V), v = .ref a ∧ (SqL K H1 a xs ∨ SqT K H1 a xs) ∧ ∀ q, H1 q = none → Q (.ref q) (upd H1 q (.lst xs.reverse))
section
variable {X : Cx}
theorem pe_listRev {e : Expr} {te : TE} {p p2 pos pos2 : Pos} (hc : X.calm = true) (hg : Gl X "list") (hm : X.mg "list" = none) (hg2 : Gl X "reversed") (hm2 : X.mg "reversed" = none) (he : PE X e te)
    (hs : starEach [e] X.env = (false, eval e X.env) :: starEach [] X.env := by rfl)
    (hs2 : starEach [.Call (.Name "reversed" p2) [e] [] pos2] X.env = (false, eval (.Call (.Name "reversed" p2) [e] [] pos2) X.env) :: starEach [] X.env := by rfl) :
    PE X (.Call (.Name "list" p) [.Call (.Name "reversed" p2) [e] [] pos2] [] pos) (tLstRev X.K te) := by
  refine ⟨fun pins s σ H Q I h => ?_⟩
  refine Call_ (ld_blt I hg hm PyProof.Rows.boot_list (PyProof.Rows.callWith_type1 (args_cons (Call_ (ld_blt I hg2 hm2 PyProof.Rows.boot_reversed (PyProof.Rows.callWith_type1 (args_cons (thn (he.run pins s σ H _ I h) fun u s1 ⟨v, H1, I1, r1, q1⟩ => args_nil ?_) hs) hs rfl))) hs2) hs2 rfl))
  obtain ⟨a, xs, ev, hq, q⟩ := q1
  subst ev
  obtain rfl : u = Value.ref a := r1
  have fin : ∀ (its : List Value) (ob : Obj) (tk0 : Nat), Vals xs its → xs.length ≤ sizeLine → ∀ h' tk acc' c', (∀ b o, b ≠ s1.heap.objs.size → (s1.heap.push ob).get? b = some o → h'.get? b = some o) →
      h'.get? (s1.heap.push ob).objs.size = some { cls := .type "list", dict := none, data := .seq acc' c', slots := #[] } → ItemsOf (fun i v => its.toArray[its.toArray.size - 1 - i]? = some v) acc' its.toArray.size →
      EP X pins σ Q (.ref (s1.heap.push ob).objs.size) { s1 with heap := h', toks := tk } := fun its ob tk0 rv hz h' tk acc' c' hk hS hacc => by
    have k0 : ∀ b o, s1.heap.get? b = some o → h'.get? b = some o := fun b o e => hk b o (Nat.ne_of_lt (Heap.lt_size e)) (Heap.get?_push_of_some _ e)
    have hle : s1.heap.objs.size ≤ (s1.heap.push ob).objs.size := by rw [Heap.size_push]; exact Nat.le_succ _
    refine ⟨.ref _, upd H1 (s1.heap.push ob).objs.size (.lst xs.reverse), I1.laid (t' := tk) k0 hle (show ObjOk X.prog X.w _ _ _ (.lst xs.reverse) from ⟨by rw [List.length_reverse]; exact hz, acc'.toList, c', vals_rev rv hacc, ?_⟩), rfl, q _ (I1.hok.fresh hle)⟩
    rw [Array.toArray_toList]; exact hS
  rcases hq with hq | hq
  · obtain ⟨its, rv, p', hz⟩ := I1.list hq
    have hl := p'.isList
    have hne : a ≠ s1.heap.objs.size := Nat.ne_of_lt p'.lt
    have hsz : its.toArray.size ≤ sizeLine := by rw [List.size_toArray, ← rv.length]; exact hz
    refine call_reversed_list p'.isList (args_nil ?_)
    exact call_list_self (s := { s1 with heap := s1.heap.push (revObj a ((its.toArray.size : Int) - 1)) }) (I1.ok.hd hc) (self_rl hne) ⟨⟨_, Heap.get?_push_size _ rfl, rfl, rfl⟩, hl.push _⟩ hsz (fin its _ 0 rv hz)
  · obtain ⟨its, rv, p', hz⟩ := I1.tuple hq
    have hn := line63
    have hne : a ≠ s1.heap.objs.size := by obtain ⟨_, e, _⟩ := id p'; exact Nat.ne_of_lt (Heap.lt_size e)
    have hsz : its.toArray.size ≤ sizeLine := by rw [List.size_toArray, ← rv.length]; exact hz
    refine call_reversed_tup p' (fun A E Q k => len_tuple p' (by omega) k) (args_nil ?_)
    exact call_list_self (s := { s1 with heap := s1.heap.push (rtObj a ((its.toArray.size : Int) - 1)), toks := s1.toks + 1 + 1 }) (I1.ok.hd hc) (self_rt hne hsz) ⟨⟨_, Heap.get?_push_size _ rfl, rfl, rfl⟩, let ⟨o, ho, r⟩ := p'; ⟨o, Heap.get?_push_of_some _ ho, r⟩⟩ hsz (fin its _ 0 rv hz)
def eLstRev (te : DTE) : DTE := fun σ G Q => te σ G fun x G1 => match x with
  | .tup xs => ∀ p, G1 p = none → Q (.ref p) (gup G1 p (.lst xs.reverse))
  | .ref a => (match G1 a with
    | some (.lst xs) => ∀ p, G1 p = none → Q (.ref p) (gup G1 p (.lst xs.reverse))
    | some (.cst xs) => ∀ p, G1 p = none → Q (.ref p) (gup G1 p (.lst xs.reverse))
    | _ => False)
  | _ => False
theorem de_listRev {e : Expr} {te : DTE} {p p2 pos pos2 : Pos} (hc : X.calm = true) (hg : Gl X "list") (hm : X.mg "list" = none) (hg2 : Gl X "reversed") (hm2 : X.mg "reversed" = none) (he : DE X e te)
    (hs : starEach [e] X.env = (false, eval e X.env) :: starEach [] X.env := by rfl)
    (hs2 : starEach [.Call (.Name "reversed" p2) [e] [] pos2] X.env = (false, eval (.Call (.Name "reversed" p2) [e] [] pos2) X.env) :: starEach [] X.env := by rfl) :
    DE X (.Call (.Name "list" p) [.Call (.Name "reversed" p2) [e] [] pos2] [] pos) (eLstRev te) := by
  refine PE.imp (pe_listRev hc hg hm hg2 hm2 he hs hs2) ?_
  rintro σh H Qh ⟨σ, G, Q, sl, rp, t, af⟩
  refine ⟨σ, G, _, sl, rp, t, fun d v G1 H1 f1 dv rp1 t1 => ?_⟩
  cases dv with
  | tup h hs => exact ⟨_, _, rfl, .inr h, fun q hq => af _ _ _ _ (f1.trans (Kp.new hq)) .ref (rp1.new hq (.lst upd_same (hs.reverse.mono (tk_new hq)))) (t1 q (rp1.free hq))⟩
  | ref =>
    simp only at t1
    split at t1
    · rename_i xs eg
      cases rp1 _ _ eg with
      | lst h hs => exact ⟨_, _, rfl, .inl (.of h), fun q hq => af _ _ _ _ (f1.trans (Kp.new hq)) .ref (rp1.new hq (.lst upd_same (hs.reverse.mono (tk_new hq)))) (t1 q (rp1.free hq))⟩
    · rename_i xs eg
      cases rp1 _ _ eg with
      | cst h _ _ _ hs => exact ⟨_, _, rfl, .inl h, fun q hq => af _ _ _ _ (f1.trans (Kp.new hq)) .ref (rp1.new hq (.lst upd_same (hs.reverse.mono (tk_new hq)))) (t1 q (rp1.free hq))⟩
    · exact t1.elim
  | str => exact t1.elim
  | non => exact t1.elim
  | bl => exact t1.elim
  | int => exact t1.elim
  | ty => exact t1.elim
end
end Dn


namespace L2
open PySem PySem.Spec PyProof.Rows
theorem filt_from {α : Type} (a : Nat) (sel : Nat → Bool) : ∀ (xs : List α) (i : Nat), (∀ k, i ≤ k → k < i + xs.length → sel k = decide (a ≤ k)) →
    ((xs.zipIdx i).filterMap fun (p : α × Nat) => if sel p.2 = true then none else some p.1) = xs.take (a - i)
  | [], i, _ => by simp
  | x :: xs, i, h => by
    rw [List.zipIdx_cons, List.filterMap_cons]
    have h0 := h i (Nat.le_refl _) (by simp)
    have ih := filt_from a sel xs (i + 1) fun k h1 h2 => h k (by omega) (by simp only [List.length_cons]; omega)
    by_cases c : a ≤ i
    · simp only [h0, c, decide_true, if_true]
      rw [ih, show a - i = 0 by omega, show a - (i + 1) = 0 by omega]
      simp
    · simp only [h0, c, decide_false, Bool.false_eq_true, if_false]
      rw [ih, show a - i = (a - (i + 1)) + 1 by omega, List.take_succ_cons]
theorem bounds_from {a n : Nat} (hac : a ≤ n) : sliceBounds (some (a : Int)) none none n = ((a : Int), (n : Int), 1) := by
  simp only [sliceBounds, Option.getD_none]
  have h1 : ¬ ((a : Int) < 0) := by omega
  simp only [h1, if_false, show (1 : Int) > 0 by decide, if_true]
  congr 1
  omega
section
variable {prog : Program} {w : World} {A : Around} {E : Value → Shared → Prop} {s : Shared}
set_option maxRecDepth 100000 in
/-- list.__delitem__ with a slice from a place on -/
theorem delItem_from {l sl : Addr} {items : Array Value} {n : Nat} {vl vu : Value} {a : Nat} {Q : Unit → Shared → Prop}
    (e : s.heap.get? l = some { cls := .type "list", data := .seq items n })
    (hs : s.heap.IsSliceOf sl vl vu .none) (pl : IsPart vl (some (a : Int))) (pu : IsPart vu none) (hac : a ≤ items.size) (hz : items.size ≤ sizeLine)
    (h : ∀ f : Array Value → Array Value, f items = (items.toList.take a).toArray → Q () { s with heap := s.heap.update l (Obj.mapSeq f) }) :
    wpAny (model prog w) A (delItem (.ref l) (.ref sl)) Q E s := by
  have hl : s.heap.IsList l items := PySem.IsL.isList e
  obtain ⟨os, hos, hcs, hds⟩ := id hs
  have hTs : s.TypeIs (.ref sl) "slice" := ⟨os, hos, hcs⟩
  have hstep : ¬ ((rawPart none == rawInt 0) = true) := Bool.false_ne_true
  refine wpAny_delItem_slot hl.typeIs (by decide) PySem.F.slot_list_delitem (wpAny_call_entry PySem.F.slot_list_delitem hl.typeIs PySem.F.entry_list_delitem ?_ (PySem.F.args_list_delitem_2 _ _))
  show wpAny _ _ (Builtin.List.listSubscript? (.ref sl) >>= _) _ _ s
  refine wpAny_bind ?_
  unfold Builtin.List.listSubscript?
  refine wpAny_bind (wpAny_specialOf hTs slice_no_index ?_)
  simp only [Option.isNone_none, if_true]
  refine wpAny_pure ?_
  show wpAny _ _ (typeOf (.ref sl) >>= _) _ _ s
  refine wpAny_bind (wpAny_typeOf hTs ?_)
  first
    | rw [if_neg (by decide)]
    | refine PySem.W.KFB.if_not (by decide) ?_
  rw [listSliceParts_eq]
  refine wpAny_bind (wpAny_bind (wpAny_field hos hds (x := .none) rfl (wpAny_bind (wpAny_listPart .none ?_))))
  rw [if_neg hstep]
  refine wpAny_bind (wpAny_field hos hds (x := vl) rfl (wpAny_bind (wpAny_listPart pl ?_)))
  refine wpAny_bind (wpAny_field hos hds (x := vu) rfl (wpAny_bind (wpAny_listPart pu (wpAny_pure ?_))))
  unfold Builtin.List.listItems
  refine wpAny_bind (wpAny_bind (wpAny_seqItems e rfl (wpAny_pure ?_)))
  refine wpAny_bind (wpAny_of_eq ((sliceIndices_raw (some (a : Int)) none none items.size (by simp)).trans (congrArg (pure : Int × Int × Int → Sem (Int × Int × Int)) (bounds_from hac))) ?_)
  refine wpAny_bind (wpAny_rule ?_)
  refine wpAny_bind ?_
  unfold Builtin.List.listUpdate
  have key : ∀ sel : Nat → Bool, (∀ k, sel k = (decide ((a : Int) ≤ (k : Int)) && decide ((k : Int) < ((items.size : Nat) : Int)) && (((k : Int) - (a : Int)) % 1 == 0))) →
      (items.toList.zipIdx.filterMap fun (p : Value × Nat) => if sel p.2 = true then none else some p.1) = items.toList.take a := fun sel hsel => by
    have := filt_from a sel items.toList 0 fun k _ h2 => by
      rw [hsel k]
      have e1 : ((k : Int) - (a : Int)) % 1 = 0 := Int.emod_one _
      have e2 : k < items.size := by simpa using h2
      rw [e1]
      by_cases c : a ≤ k
      · simp [c, e2]
      · simp [c]
    simpa using this
  refine wpAny_updateSeq (hz := hz) (_hz' := ?_) e rfl ?_
  · refine wpAny_bind (wpAny_letGo ?_)
    exact wpAny_pure ⟨.none, rfl, h _ (congrArg List.toArray (key _ fun k => rfl))⟩
  · refine Nat.le_trans (Nat.le_of_eq (congrArg Array.size (congrArg List.toArray (key _ fun k => rfl)))) ?_
    simp only [List.size_toArray, List.length_take, Array.length_toList]
    omega
end
end L2

namespace L2
open PySem PySem.Spec PyProof.Rows
section
variable {X : Cx}
/-- del xs[a:] -/
def tDelFrom (to : TE) (tl : TO) : TS := fun D σ H => to σ H fun x H1 => tl σ H1 fun y H2 => ∃ (l : Addr) (xs : List V) (a : Nat), x = .ref l ∧ y = some (a : Int) ∧ H2 l = some (.lst xs) ∧ a ≤ xs.length ∧ D.nx σ (upd H2 l (.lst (xs.take a)))
theorem ps_delFrom {o : Expr} {lo : Option Expr} {to : TE} {tl : TO} {tpos pos p2 : Pos} (ho : PE X o to) (hl : PO X lo tl) : PS X (.Delete [.Subscript o (.Slice lo none none p2) tpos] pos) (tDelFrom to tl) := by
  refine ⟨fun pins s σ H D I h => ?_⟩
  refine wpAny_Delete (wpAny_deleteEach_cons (wpAny_delete_Subscript (thn (ho.run pins s σ H _ I h) fun u s1 ⟨x, H1, I1, rx, q1⟩ => ?_)))
  refine wpAny_Slice (thn (hl.run pins s1 σ H1 _ I1 q1) fun vl s2 ⟨lo', H2, I2, pl, l, xs, a, ex, ey, hH, hle, q2⟩ => ?_)
  subst ex ey
  obtain rfl : u = Value.ref l := rx
  rw [evalPart_none]
  refine wpAny_pure (wpAny_pure ?_)
  have I4 : Inv X pins σ H2 { s2 with heap := s2.heap.push { cls := .type "slice", data := .fields #[vl, .none, .none] } } := I2.kept (t' := s2.toks) fun b ob q => Heap.get?_push_of_some _ q
  obtain ⟨z, its, n, r, hlen, e⟩ := I4.lstM hH
  refine delItem_from (a := a) e (Heap.IsSliceOf.new ..) pl .none (by rw [List.size_toArray]; omega) (by rw [List.size_toArray]; omega) fun f hf => ?_
  refine wpAny_deleteEach_nil ⟨σ, _, I4.lset (ys := xs.take a) (its' := its.take a) (t' := s2.toks) hH e hf (r.take a) (by rw [List.length_take]; omega), q2⟩
end
end L2

namespace Dn
open PySem PySem.Spec PyProof.Rows L2
section
variable {X : Cx} {pos tpos p2 : Pos} {o lo e a b : Expr} {to tl ta tb te : DTE}
def sDelFrom (to tl : DTE) : DTS := fun E σ G => to σ G fun x G1 => oSome tl σ G1 fun y G2 => match x, y with
  | .ref l, some i => (match G2 l with
    | some (.lst xs) => 0 ≤ i ∧ i ≤ (xs.length : Int) ∧ E.nx σ (gup G2 l (.lst (xs.take i.toNat)))
    | _ => False)
  | _, _ => False
theorem ds_delFrom (ho : DE X o to) (hl : DE X lo tl) : DSt X (.Delete [.Subscript o (.Slice (some lo) none none p2) tpos] pos) (sDelFrom to tl) := by
  refine PS.imp (ps_delFrom ho (dpo_some hl)) ?_
  rintro Eh σh H ⟨σ, G, E, sl, rp, t, af⟩
  refine ⟨σ, G, _, sl, rp, t, fun d v G1 H1 f1 dv rp1 t1 => ?_⟩
  refine ⟨σ, G1, _, sl.mono (f1.tk rp), rp1, t1, fun y G2 H2 f2 rp2 t2 => ?_⟩
  split at t2
  · rename_i l j
    cases dv
    split at t2
    · rename_i xs eg
      obtain ⟨h0, h1, q⟩ := t2
      cases rp2 _ _ eg with
      | lst h hs =>
      have sl2 := (sl.mono (f1.tk rp)).mono (f2.tk rp1)
      refine ⟨l, _, j.toNat, rfl, by rw [Int.toNat_of_nonneg h0], h, by rw [← hs.length]; omega, ?_⟩
      exact af.nx _ _ _ _ (f1.trans (f2.trans (Kp.put eg))) (sl2.mono (tk_put h (by intro _ z; cases z) (by intro _ _ z; cases z))) (rp2.put eg fun tk => .lst upd_same ((hs.take _).mono tk)) q
    · exact t2.elim
  · exact t2.elim

/-! ### {} -/
def eDNew : DTE := fun _ G Q => ∀ p, G p = none → Q (.ref p) (gup G p (.dic []))
theorem de_dnew : DE X (.Dict [] [] pos) eDNew := by
  refine PE.imp pe_dnewK ?_
  rintro σh H Qh ⟨σ, G, Q, sl, rp, t, af⟩
  exact fun p hp => af _ _ _ _ (Kp.new hp) .ref (rp.new hp (.dic upd_same .nil)) (t p (rp.free hp))

/-! ### x in y -/
def flatD : D → Bool
  | .non => true
  | .bl _ => true
  | .int _ => true
  | .str _ => true
  | _ => false
def eqFl : D → D → Bool
  | .non, .non => true
  | .bl a, .bl b => a == b
  | .bl a, .int b => (if a then 1 else 0) == b
  | .int a, .bl b => a == (if b then 1 else 0)
  | .int a, .int b => a == b
  | .str a, .str b => a == b
  | _, _ => false
def inD (x : D) (xs : List D) : Bool := xs.any fun y => eqFl y x
theorem flat_den {K : PySem.W.Frag} {H : Hp} {d : D} {v : V} (h : Den K H d v) (f : flatD d = true) : flatV v = true := by
  cases h <;> first | rfl | (simp [flatD] at f)
theorem eqFl_den {K : PySem.W.Frag} {H : Hp} {d e : D} {v w : V} (h : Den K H d v) (g : Den K H e w) (f : flatD d = true) (f2 : flatD e = true) : eqV v w = eqFl d e := by
  cases h <;> cases g <;> first | rfl | (simp [flatD] at f f2)
theorem flats_den {K : PySem.W.Frag} {H : Hp} : ∀ {ds : List D} {vs : List V}, Dens K H ds vs → ds.all flatD = true → vs.all flatV = true
  | _, _, .nil, _ => rfl
  | _, _, .cons h hs, f => by
    simp only [List.all_cons, Bool.and_eq_true] at f ⊢
    exact ⟨flat_den h f.1, flats_den hs f.2⟩
theorem in_den {K : PySem.W.Frag} {H : Hp} {x : D} {w : V} (g : Den K H x w) (f2 : flatD x = true) : ∀ {ds : List D} {vs : List V}, Dens K H ds vs → ds.all flatD = true → inV w vs = inD x ds
  | _, _, .nil, _ => rfl
  | _, _, .cons h hs, f => by
    simp only [List.all_cons, Bool.and_eq_true] at f
    have := in_den g f2 hs f.2
    simp only [inV, inD, List.any_cons] at this ⊢
    rw [eqFl_den h g f.1 f2, this]
def rInSeq (k : Bool) (x : D) (ys : List D) (G : GP) (Q : DVK) : Prop :=
  (flatD x = true ∧ ys.all flatD = true ∧ Q (.bl (inD x ys == k)) G)
def rIn (k : Bool) : DR2 := fun x y G Q => match y with
  | .tup ys => rInSeq k x ys G Q
  | .ref a => (match G a with
    | some (.lst ys) => rInSeq k x ys G Q
    | some (.cst ys) => rInSeq k x ys G Q
    | some (.dic kvs) => (match keyD x with
      | some kk => Q (.bl ((dval kvs kk).isSome == k)) G
      | none => False)
    | _ => False)
  | .str z => (match x with
    | .str w => Q (.bl ((!(Builtin.Str.occurrences z w 0 z.length 1).isEmpty) == k)) G
    | _ => False)
  | _ => False
theorem val_some {K : PySem.W.Frag} {H : Hp} {ds : List (Key × D)} {vs : List (Key × V)} (h : KDens K H ds vs) (k : Key) : (valV vs k).isSome = (dval ds k).isSome := by
  obtain ⟨i1, i2⟩ := h.val k
  cases q : dval ds k with
  | none => rw [i2 q]; rfl
  | some d => obtain ⟨v, e, _⟩ := i1 d q; rw [e]; rfl
theorem op_in_dic (hu : X.A.units + 1 < cLine) : OpR X (compareOp .In) (fun x y H Q => ∃ a o, y = .ref a ∧ DGet H a x o ∧ Q (.bl o.isSome) H) := by
  intro pins s σ H x y v u Q I rx ry ⟨a, o, e, g, q⟩
  subst e
  cases ry
  exact d_in hu I g rx fun s' I' => ⟨.bl _, H, I', rfl, q⟩
theorem op_notin_dic (hu : X.A.units + 1 < cLine) : OpR X (compareOp .NotIn) (fun x y H Q => ∃ a o, y = .ref a ∧ DGet H a x o ∧ Q (.bl (!o.isSome)) H) := by
  intro pins s σ H x y v u Q I rx ry ⟨a, o, e, g, q⟩
  subst e
  cases ry
  exact d_notIn hu I g rx fun s' I' => ⟨.bl _, H, I', rfl, q⟩
theorem do_in (hu : X.A.units + 64 < cLine) : DOp X (compareOp .In) (rIn true) := by
  intro pins s σ H x y v u Qh I rx ry ⟨d, e, G, Q, dx, dy, rp, t, af⟩
  unfold rIn at t
  split at t
  · cases dy with
    | tup h hs =>
    obtain ⟨f1, f2, q⟩ := t
    rw [beq_t] at q
    exact op_in_seq pins s σ H _ _ v u Qh I rx ry ⟨_, _, rfl, .inr h, flat_den dx f1, flats_den hs f2, by rw [if_neg (by decide), in_den dx f1 hs f2]; exact af _ _ _ _ .refl .bl rp q⟩
  · cases dy
    split at t
    · rename_i ys eg
      obtain ⟨f1, f2, q⟩ := t
      rw [beq_t] at q
      cases rp _ _ eg with
      | lst h hs => exact op_in_seq pins s σ H _ _ v u Qh I rx ry ⟨_, _, rfl, .inl (.of h), flat_den dx f1, flats_den hs f2, by rw [if_neg (by decide), in_den dx f1 hs f2]; exact af _ _ _ _ .refl .bl rp q⟩
    · rename_i ys eg
      obtain ⟨f1, f2, q⟩ := t
      rw [beq_t] at q
      cases rp _ _ eg with
      | cst h _ _ _ hs => exact op_in_seq pins s σ H _ _ v u Qh I rx ry ⟨_, _, rfl, .inl h, flat_den dx f1, flats_den hs f2, by rw [if_neg (by decide), in_den dx f1 hs f2]; exact af _ _ _ _ .refl .bl rp q⟩
    · rename_i kvs eg
      cases rp _ _ eg with
      | dic h hs =>
      split at t
      · rename_i kk ek
        obtain rfl := keyD_den dx ek
        rw [beq_t] at t
        exact op_in_dic (by omega) pins s σ H _ _ v u Qh I rx ry ⟨_, _, rfl, DGet.k h, by rw [val_some hs]; exact af _ _ _ _ .refl .bl rp t⟩
      · exact t.elim
    · exact t.elim
  · cases dy
    split at t
    · cases dx
      rw [beq_t] at t
      exact op_in_str pins s σ H _ _ v u Qh I rx ry ⟨_, _, rfl, rfl, af _ _ _ _ .refl .bl rp t⟩
    · exact t.elim
  · exact t.elim
theorem do_notin (hu : X.A.units + 64 < cLine) : DOp X (compareOp .NotIn) (rIn false) := by
  intro pins s σ H x y v u Qh I rx ry ⟨d, e, G, Q, dx, dy, rp, t, af⟩
  unfold rIn at t
  split at t
  · cases dy with
    | tup h hs =>
    obtain ⟨f1, f2, q⟩ := t
    rw [beq_f] at q
    exact op_notIn_seq pins s σ H _ _ v u Qh I rx ry ⟨_, _, rfl, .inr h, flat_den dx f1, flats_den hs f2, by rw [if_pos rfl, in_den dx f1 hs f2]; exact af _ _ _ _ .refl .bl rp q⟩
  · cases dy
    split at t
    · rename_i ys eg
      obtain ⟨f1, f2, q⟩ := t
      rw [beq_f] at q
      cases rp _ _ eg with
      | lst h hs => exact op_notIn_seq pins s σ H _ _ v u Qh I rx ry ⟨_, _, rfl, .inl (.of h), flat_den dx f1, flats_den hs f2, by rw [if_pos rfl, in_den dx f1 hs f2]; exact af _ _ _ _ .refl .bl rp q⟩
    · rename_i ys eg
      obtain ⟨f1, f2, q⟩ := t
      rw [beq_f] at q
      cases rp _ _ eg with
      | cst h _ _ _ hs => exact op_notIn_seq pins s σ H _ _ v u Qh I rx ry ⟨_, _, rfl, .inl h, flat_den dx f1, flats_den hs f2, by rw [if_pos rfl, in_den dx f1 hs f2]; exact af _ _ _ _ .refl .bl rp q⟩
    · rename_i kvs eg
      cases rp _ _ eg with
      | dic h hs =>
      split at t
      · rename_i kk ek
        obtain rfl := keyD_den dx ek
        rw [beq_f] at t
        exact op_notin_dic (by omega) pins s σ H _ _ v u Qh I rx ry ⟨_, _, rfl, DGet.k h, by rw [val_some hs]; exact af _ _ _ _ .refl .bl rp t⟩
      · exact t.elim
    · exact t.elim
  · cases dy
    split at t
    · cases dx
      rw [beq_f] at t
      exact op_notin_str pins s σ H _ _ v u Qh I rx ry ⟨_, _, rfl, rfl, af _ _ _ _ .refl .bl rp t⟩
    · exact t.elim
  · exact t.elim

/-! ### x and y, x or y, not x as values -/
variable {rest : List Expr}
def eAndV (ta tb : DTE) : DTE := fun σ G Q => ta σ G fun x G1 => rTru x G1 fun k G2 => if k = true then tb σ G2 Q else Q x G2
def eOrV (ta tb : DTE) : DTE := fun σ G Q => ta σ G fun x G1 => rTru x G1 fun k G2 => if k = true then Q x G2 else tb σ G2 Q
def eTst (t : DTT) : DTE := fun σ G Q => t σ G fun b G1 => Q (.bl b) G1
theorem de_and1 (ha : DE X a ta) : DE X (.BoolOp .And [a] pos) ta := PE.imp (pe_one ha) fun _ _ _ h => h
theorem de_or1 (ha : DE X a ta) : DE X (.BoolOp .Or [a] pos) ta := PE.imp (pe_one ha) fun _ _ _ h => h
theorem de_andv (ha : DE X a ta) (hb : DE X (.BoolOp .And (b :: rest) pos) tb) : DE X (.BoolOp .And (a :: b :: rest) pos) (eAndV ta tb) := by
  refine PE.imp (pe_andT ha hb) ?_
  rintro σh H Qh ⟨σ, G, Q, sl, rp, t, af⟩
  refine ⟨σ, G, _, sl, rp, t, fun d v G1 H1 f1 dv rp1 t1 => ?_⟩
  refine tru_of (Qh := fun k H2 => if k = true then lE X.K tb σh H2 Qh else Qh v H2) rp1 dv t1 fun k G2 H2 f2 rp2 t2 => ?_
  cases k with
  | true => exact iteT ⟨σ, G2, Q, (sl.mono (f1.tk rp)).mono (f2.tk rp1), rp2, (by simpa using t2), af.after (f1.trans f2)⟩
  | false => exact iteF (af _ _ _ _ (f1.trans f2) (dv.mono (f2.tk rp1)) rp2 (by simpa using t2))
theorem de_orv (ha : DE X a ta) (hb : DE X (.BoolOp .Or (b :: rest) pos) tb) : DE X (.BoolOp .Or (a :: b :: rest) pos) (eOrV ta tb) := by
  refine PE.imp (pe_orT ha hb) ?_
  rintro σh H Qh ⟨σ, G, Q, sl, rp, t, af⟩
  refine ⟨σ, G, _, sl, rp, t, fun d v G1 H1 f1 dv rp1 t1 => ?_⟩
  refine tru_of (Qh := fun k H2 => if k = true then Qh v H2 else lE X.K tb σh H2 Qh) rp1 dv t1 fun k G2 H2 f2 rp2 t2 => ?_
  cases k with
  | false => exact iteF ⟨σ, G2, Q, (sl.mono (f1.tk rp)).mono (f2.tk rp1), rp2, (by simpa using t2), af.after (f1.trans f2)⟩
  | true => exact iteT (af _ _ _ _ (f1.trans f2) (dv.mono (f2.tk rp1)) rp2 (by simpa using t2))
/-- not x as a value -/
def eNotV (ta : DTE) : DTE := fun σ G Q => ta σ G fun x G1 => rTru x G1 fun k G2 => Q (.bl (!k)) G2
theorem de_notv (ha : DE X a ta) : DE X (.UnaryOp .Not a pos) (eNotV ta) := by
  refine PE.imp (pe_notT ha) ?_
  rintro σh H Qh ⟨σ, G, Q, sl, rp, t, af⟩
  refine ⟨σ, G, _, sl, rp, t, fun d v G1 H1 f1 dv rp1 t1 => ?_⟩
  exact tru_of (Qh := fun k H2 => Qh (.bl (!k)) H2) rp1 dv t1 fun k G2 H2 f2 rp2 t2 => af _ _ _ _ (f1.trans f2) .bl rp2 t2
end
end Dn

namespace Dn
open PySem PySem.Spec PyProof.Rows L2

/-! ### the script: a list that is the module's own or one that stands in the heap -/
def KLst (K : PySem.W.Frag) (a : Addr) (ns : List Int) : Prop := ∀ H, SqL K H a (ns.map V.int)
theorem src_k {K : PySem.W.Frag} {H : Hp} {a : Addr} {ns : List Int} (h : KLst K a ns) : Src K (Itl K a) (ns.map D.int) sTrue H := by
  refine ⟨fun i H' G tk rp sb hi => ?_, fun i H' G x H2 d tk rp sb y e => ?_, fun i H' G tk rp sb hi => ?_⟩
  · exact ⟨ns.map V.int, (ns.map V.int)[i]'(by rw [List.length_map] at hi ⊢; exact hi), h H', by simp⟩
  · obtain ⟨rfl, y⟩ := y
    have := y _ (h _)
    rw [List.getElem?_map] at this e
    cases q : ns[i]? with
    | none => rw [q] at e; cases e
    | some n =>
      rw [q] at e this
      cases e
      cases this
      exact ⟨.refl, rp, .int⟩
  · exact ⟨ns.map V.int, h H', by rw [List.length_map] at hi ⊢; exact hi⟩
def iScr (K : PySem.W.Frag) (te : DTE) : DTI := fun σ G Q => te σ G fun x G1 => match x with
  | .ref a => ∃ ns : List Int, (LstAt G1 a (ns.map D.int) ∧ Q (ns.map D.int) (fun G => LstAt G a (ns.map D.int)) G1) ∨ (KLst K a ns ∧ Q (ns.map D.int) sTrue G1)
  | _ => False
theorem di_scr {X : Cx} {tg e : Expr} {te : DTE} (he : DE X e te) : DI X tg e (iScr X.K te) := by
  refine PI.imp (pi_seq he) ?_
  rintro σh H R ⟨σ, G, Q, sl, rp, t, af⟩
  refine ⟨σ, G, _, sl, rp, t, fun d v G1 H1 f1 dv rp1 t1 => ?_⟩
  cases dv with
  | ref =>
    obtain ⟨ns, ⟨L, q⟩ | ⟨L, q⟩⟩ := t1
    · obtain ⟨vs, h, hs⟩ := L.seq rp1
      exact .inl ⟨_, rfl, .inl ⟨⟨_, h⟩, af _ _ _ _ _ f1 rp1 src_lst q⟩⟩
    · exact .inl ⟨_, rfl, .inl ⟨⟨_, L H1⟩, af _ _ _ _ _ f1 rp1 (src_k L) q⟩⟩
  | _ => exact t1.elim
/-- the law's promise: True for a script -/
def sp_lawK (K : PySem.W.Frag) : DSp := fun ds G Q => ∃ (sc : Addr) (xs : List Int), ds = [.ref sc] ∧ (LstAt G sc (xs.map D.int) ∨ KLst K sc xs) ∧ xs.length ≤ 63 ∧ ∀ G', Q (.bl true) G'
theorem sp_law_script {K : PySem.W.Frag} {H : Hp} {a : Addr} {ns : List Int} (hl : ns.length ≤ 63) (hO : Only H) (hS : SqL K H a (ns.map V.int)) : lSp K (sp_lawK K) [.ref a] H (fun v _ => v = .bl true) fun _ _ _ => False := by
  refine ⟨[.ref a], fun b => if b = a ∧ H a ≠ none then some (.cst (ns.map D.int)) else none, fun d _ => d = .bl true, .cons .ref .nil, ?_, ⟨a, ns, rfl, ?_, hl, fun _ => rfl⟩, ?_⟩
  · intro b o e
    simp only at e
    by_cases h : b = a ∧ H a ≠ none
    · rw [if_pos h] at e
      cases e
      obtain ⟨rfl, h2⟩ := h
      rcases hO b with z | ⟨o, xs, z⟩
      · exact absurd z h2
      · exact .cst hS z (by intro _ q; cases q) (by intro _ _ q; cases q) (den_ints _)
    · rw [if_neg h] at e; cases e
  · by_cases h : H a = none
    · refine .inr fun H' => ?_
      rcases hS with (q | ⟨o, q⟩) | q
      · rw [h] at q; cases q
      · rw [h] at q; cases q
      · exact .inr q
    · exact .inl (.inr (if_pos ⟨rfl, h⟩))
  · rintro d v G' H' _ dv _ rfl
    cases dv
    rfl

/-! ### defs at hand -/
/-- the def of that name, as the top has it -/
structure Df (K : PySem.W.Frag) (mg : Str → Option Value) (x : Str) (ps : List Str) (st : Stmt) : Prop where
  ex : ∃ (f : Addr) (fd : FuncData), L2.Fun K x x st f fd ∧ mg x = some (.ref f) ∧ Binds K fd ps []
theorem Df.fn {P : Program} {w : World} {K : PySem.W.Frag} {mg : Str → Option Value} {base : Heap} {x : Str} {st : Stmt} {N ps : List Str} {k : Nat} {sp : DSp} (F : Df K mg x ps st) (S : FnScope N ps (defScope st))
    (len : ∀ ds G Q, sp ds G Q → ds.length = ps.length) (rd : DTS)
    (der : ∀ (f : Addr) (cdv : Value) (A : Around) (outer : List Env) (s : Shared) (H : Hp) (E : XK), Room k (A.deeper (envOfC x (defScope st) s.heap.objs.size f cdv)) → DSs (cxOf CX0 P w K mg base N x (defScope st) f cdv A outer s H E).nox (defBody st) rd)
    (sem : ∀ ds G Q, sp ds G Q → rd { nx := fun _ G' => Q .non G', rt := Q } (dstart N ds) G) : Fn P w K mg base (k + 1) x ps sp := by
  obtain ⟨f, fd, h1, h2, h3⟩ := F.ex
  exact ⟨f, fd, fn_ok h1 S len rd (der f) sem, h2, h1.kp, h3⟩
def spNo : DSp := fun _ _ _ => False
theorem Df.no {P : Program} {w : World} {K : PySem.W.Frag} {mg : Str → Option Value} {base : Heap} {x : Str} {st : Stmt} {ps : List Str} (F : Df K mg x ps st) : Fn P w K mg base 0 x ps spNo := by
  obtain ⟨f, fd, h1, h2, h3⟩ := F.ex
  have no : ∀ vs H Q E, ¬ lSp K spNo vs H Q E := fun vs H Q E ⟨_, _, _, _, _, h, _⟩ => h
  exact ⟨f, fd, ⟨fun vs H Q E h => absurd h (no vs H Q E), fun A outer s H args us vs Q E _ _ _ _ h => absurd h (no vs H Q E)⟩, h2, h1.kp, h3⟩
end Dn

namespace Dn.My
open PySem PySem.Spec PyProof.Rows L2 Dn
def topS (i : Nat) : Stmt := PySem.Challenge.pw_passproven_k33_symbolic_terms.main.body.getD i (.Pass ⟨0, 0, 0, 0⟩)
abbrev s_integer : Stmt := topS 1
abbrev n_integer : List Str := ["n"]
abbrev p_integer : List Str := ["n"]
def rd_integer : DTS :=
  sRet (eTup (aCons (eC (.str "sum")) (aCons (eTup (aNil)) (aCons (eVar 0) (aNil)))))
abbrev s_added : Stmt := topS 2
abbrev n_added : List Str := ["one", "other", "sign", "multiples", "parts", "u", "multiple"]
abbrev p_added : List Str := ["one", "other", "sign"]
def rd_added : DTS :=
  sSeq (sAsg (eDc (iAny (eOp rIxd (eVar 0) (eC (.int 1)))) (.many [5, 6]) bYes (eVar 5) (eVar 6) [5, 6]) (gNm 3)) (sSeq (sFor (iAny (eOp rIxd (eVar 1) (eC (.int 1)))) (gTp 2 (gsCons (gNm 5) (gsCons (gNm 6) (gsNil)))) (sAsg (eOp rAdd (eGet2 (eVar 3) (eVar 5) (eC (.int 0))) (eOp (rInt CMul fun i j => .int (i * j)) (eVar 2) (eVar 6))) (gSb (eVar 3) (eVar 5)))) (sSeq (sAsg (eCa rTupOf (aCons (eLc (iAny (eCa rSorted (aCons (eVar 3) (aNil)))) (.one 5) (eTest (eOp (rEq false) (eOp rIxd (eVar 3) (eVar 5)) (eC (.int 0)))) (eTup (aCons (eVar 5) (aCons (eOp rIxd (eVar 3) (eVar 5)) (aNil)))) [5]) (aNil))) (gNm 4)) (sRet (eTup (aCons (eC (.str "sum")) (aCons (eVar 4) (aCons (eOp rAdd (eOp rIxd (eVar 0) (eC (.int 2))) (eOp (rInt CMul fun i j => .int (i * j)) (eVar 2) (eOp rIxd (eVar 1) (eC (.int 2))))) (aNil))))))))
abbrev s_built : Stmt := topS 3
abbrev n_built : List Str := ["made", "many", "inner", "entries", "head", "detail", "count", "k"]
abbrev p_built : List Str := ["made", "many"]
def rd_built : DTS :=
  sSeq (sAsg (eVar 1) (gTp 3 (gsCons (gNm 4) (gsCons (gNm 5) (gsCons (gNm 6) (gsNil)))))) (sSeq (sAsg (eSl (eVar 0) (oSome (eOp (rInt (fun _ _ => True) fun i j => .int (i - j)) (eCa rLen (aCons (eVar 0) (aNil))) (eVar 6))) (oNone)) (gNm 2)) (sSeq (sDelFrom (eVar 0) (eOp (rInt (fun _ _ => True) fun i j => .int (i - j)) (eCa rLen (aCons (eVar 0) (aNil))) (eVar 6))) (sSeq (sIf (eTest (eOp (rEq true) (eVar 4) (eC (.str "node")))) (sSeq (sDrop (eMtL rAppend (eVar 0) (aCons (eTup (aCons (eC (.str "node")) (aCons (eVar 5) (aCons (eCa rTupOf (aCons (eVar 2) (aNil))) (aNil))))) (aNil)))) (sRetN)) (sNext)) (sSeq (sAsg (eLc (iRg1 (eVar 6)) (.one 7) bYes (eTup (aCons (eTup (aCons (eC (.str "name")) (aCons (eOp rIxd (eVar 5) (eVar 7)) (aNil)))) (aCons (eOp rIxd (eVar 2) (eVar 7)) (aNil)))) [7]) (gNm 3)) (sDrop (eMtL rAppend (eVar 0) (aCons (eTup (aCons (eC (.str "map")) (aCons (eC .non) (aCons (eCa rTupOf (aCons (eVar 3) (aNil))) (aNil))))) (aNil))))))))
abbrev s_leaf : Stmt := topS 4
abbrev n_leaf : List Str := ["term", "unknowns"]
abbrev p_leaf : List Str := ["term", "unknowns"]
def rd_leaf (sp_integer : DSp) : DTS :=
  sSeq (sIf (eTest (eOp (rEq true) (eOp rIxd (eVar 0) (eC (.int 0))) (eC (.str "int")))) (sRet (eCa sp_integer (aCons (eOp rIxd (eVar 0) (eC (.int 1))) (aNil)))) (sNext)) (sSeq (sIf (eTest (eOp (rEq true) (eOp rIxd (eVar 0) (eC (.int 0))) (eC (.str "meta")))) (sRet (eOp rIxd (eVar 1) (eOp rIxd (eVar 0) (eC (.int 1))))) (sNext)) (sRet (eVar 0)))
abbrev s_symbolic : Stmt := topS 5
abbrev n_symbolic : List Str := ["term", "unknowns", "made", "waiting", "kind", "item", "part", "names", "word"]
abbrev p_symbolic : List Str := ["term", "unknowns"]
def rd_symbolic (sp_built sp_leaf : DSp) : DTS :=
  sSeq (sAsg (eLst (aNil)) (gNm 2)) (sSeq (sAsg (eLst (aCons (eTup (aCons (eC (.str "term")) (aCons (eVar 0) (aNil)))) (aNil))) (gNm 3)) (sSeq (sWhile (eTru (eVar 3)) (sSeq (sAsg (eMtL0 rPop (eVar 3)) (gTp 2 (gsCons (gNm 4) (gsCons (gNm 5) (gsNil))))) (sIf (eTest (eOp (rEq true) (eVar 4) (eC (.str "build")))) (sDrop (eCa sp_built (aCons (eVar 2) (aCons (eVar 5) (aNil))))) (sIf (eTest (eOp (rEq true) (eOp rIxd (eVar 5) (eC (.int 0))) (eC (.str "node")))) (sSeq (sDrop (eMtL rAppend (eVar 3) (aCons (eTup (aCons (eC (.str "build")) (aCons (eTup (aCons (eC (.str "node")) (aCons (eOp rIxd (eVar 5) (eC (.int 1))) (aCons (eCa rLen (aCons (eOp rIxd (eVar 5) (eC (.int 2))) (aNil))) (aNil))))) (aNil)))) (aNil)))) (sFor (iAny (eLstRev (eOp rIxd (eVar 5) (eC (.int 2))))) (gNm 6) (sDrop (eMtL rAppend (eVar 3) (aCons (eTup (aCons (eC (.str "term")) (aCons (eVar 6) (aNil)))) (aNil)))))) (sIf (eTest (eOp (rEq true) (eOp rIxd (eVar 5) (eC (.int 0))) (eC (.str "map")))) (sSeq (sAsg (eCa rTupOf (aCons (eLc (iAny (eOp rIxd (eVar 5) (eC (.int 1)))) (.many [8, 6]) bYes (eVar 8) [8, 6]) (aNil))) (gNm 7)) (sSeq (sDrop (eMtL rAppend (eVar 3) (aCons (eTup (aCons (eC (.str "build")) (aCons (eTup (aCons (eC (.str "map")) (aCons (eVar 7) (aCons (eCa rLen (aCons (eVar 7) (aNil))) (aNil))))) (aNil)))) (aNil)))) (sFor (iAny (eLstRev (eOp rIxd (eVar 5) (eC (.int 1))))) (gTp 2 (gsCons (gNm 8) (gsCons (gNm 6) (gsNil)))) (sDrop (eMtL rAppend (eVar 3) (aCons (eTup (aCons (eC (.str "term")) (aCons (eVar 6) (aNil)))) (aNil))))))) (sDrop (eMtL rAppend (eVar 2) (aCons (eCa sp_leaf (aCons (eVar 5) (aCons (eVar 1) (aNil)))) (aNil))))))))) (sRet (eOp rIxd (eVar 2) (eC (.int 0))))))
abbrev s_size : Stmt := topS 6
abbrev n_size : List Str := ["term", "many", "waiting", "item", "name", "part"]
abbrev p_size : List Str := ["term"]
def rd_size : DTS :=
  sSeq (sAsg (eC (.int 0)) (gNm 1)) (sSeq (sAsg (eLst (aCons (eVar 0) (aNil))) (gNm 2)) (sSeq (sWhile (eTru (eVar 2)) (sSeq (sAsg (eMtL0 rPop (eVar 2)) (gNm 3)) (sSeq (sAug 1 (rInt (fun _ _ => True) fun i j => .int (i + j)) (eC (.int 1))) (sIf (eTest (eOp (rEq true) (eOp rIxd (eVar 3) (eC (.int 0))) (eC (.str "node")))) (sDrop (eMtL rExtend (eVar 2) (aCons (eOp rIxd (eVar 3) (eC (.int 2))) (aNil)))) (sIf (eTest (eOp (rEq true) (eOp rIxd (eVar 3) (eC (.int 0))) (eC (.str "map")))) (sSeq (sAug 1 (rInt (fun _ _ => True) fun i j => .int (i + j)) (eCa rLen (aCons (eOp rIxd (eVar 3) (eC (.int 2))) (aNil)))) (sDrop (eMtL rExtend (eVar 2) (aCons (eLc (iAny (eOp rIxd (eVar 3) (eC (.int 2)))) (.many [4, 5]) bYes (eVar 5) [4, 5]) (aNil))))) (sNext)))))) (sRet (eVar 1))))
abbrev s_unknowns_in : Stmt := topS 7
abbrev n_unknowns_in : List Str := ["term", "found", "waiting", "item", "u", "multiple", "name", "part"]
abbrev p_unknowns_in : List Str := ["term"]
def rd_unknowns_in : DTS :=
  sSeq (sAsg (eDNew) (gNm 1)) (sSeq (sAsg (eLst (aCons (eVar 0) (aNil))) (gNm 2)) (sSeq (sWhile (eTru (eVar 2)) (sSeq (sAsg (eMtL0 rPop (eVar 2)) (gNm 3)) (sIf (eTest (eOp (rEq true) (eOp rIxd (eVar 3) (eC (.int 0))) (eC (.str "unknown")))) (sAsg (eC (.bl true)) (gSb (eVar 1) (eOp rIxd (eVar 3) (eC (.int 1))))) (sIf (eTest (eOp (rEq true) (eOp rIxd (eVar 3) (eC (.int 0))) (eC (.str "sum")))) (sFor (iAny (eOp rIxd (eVar 3) (eC (.int 1)))) (gTp 2 (gsCons (gNm 4) (gsCons (gNm 5) (gsNil)))) (sAsg (eC (.bl true)) (gSb (eVar 1) (eVar 4)))) (sIf (eTest (eOp (rEq true) (eOp rIxd (eVar 3) (eC (.int 0))) (eC (.str "node")))) (sDrop (eMtL rExtend (eVar 2) (aCons (eOp rIxd (eVar 3) (eC (.int 2))) (aNil)))) (sIf (eTest (eOp (rEq true) (eOp rIxd (eVar 3) (eC (.int 0))) (eC (.str "map")))) (sSeq (sIf (eTest (eOp (rIsN false) (eOp rIxd (eVar 3) (eC (.int 1))) (eC .non))) (sAsg (eC (.bl true)) (gSb (eVar 1) (eOp rIxd (eVar 3) (eC (.int 1))))) (sNext)) (sFor (iAny (eOp rIxd (eVar 3) (eC (.int 2)))) (gTp 2 (gsCons (gNm 6) (gsCons (gNm 7) (gsNil)))) (sSeq (sDrop (eMtL rAppend (eVar 2) (aCons (eVar 6) (aNil)))) (sDrop (eMtL rAppend (eVar 2) (aCons (eVar 7) (aNil))))))) (sNext))))))) (sRet (eCa rSorted (aCons (eVar 1) (aNil))))))
abbrev s_replaced : Stmt := topS 8
abbrev n_replaced : List Str := ["term", "way", "part", "above", "place", "node"]
abbrev p_replaced : List Str := ["term", "way", "part"]
def rd_replaced : DTS :=
  sSeq (sAsg (eLst (aNil)) (gNm 3)) (sSeq (sFor (iAny (eVar 1)) (gNm 4) (sSeq (sDrop (eMtL rAppend (eVar 3) (aCons (eTup (aCons (eVar 0) (aCons (eVar 4) (aNil)))) (aNil)))) (sAsg (eOp rIxd (eOp rIxd (eVar 0) (eC (.int 2))) (eVar 4)) (gNm 0)))) (sSeq (sFor (iAny (eLstRev (eVar 3))) (gTp 2 (gsCons (gNm 5) (gsCons (gNm 4) (gsNil)))) (sAsg (eTup (aCons (eC (.str "node")) (aCons (eOp rIxd (eVar 5) (eC (.int 1))) (aCons (eOp rAdd (eOp rAdd (eSl (eOp rIxd (eVar 5) (eC (.int 2))) (oNone) (oSome (eVar 4))) (eTup (aCons (eVar 2) (aNil)))) (eSl (eOp rIxd (eVar 5) (eC (.int 2))) (oSome (eOp rAdd (eVar 4) (eC (.int 1)))) (oNone))) (aNil))))) (gNm 2))) (sRet (eVar 2))))
abbrev s__law_pool : Stmt := topS 10
abbrev n__law_pool : List Str := ["script", "cell"]
abbrev p__law_pool : List Str := ["script"]
def rd__law_pool (K : PySem.W.Frag) : DTS :=
  sRet (eLst (aCons (eLc (iScr K (eVar 0)) (.one 1) bYes (eIf (eTest (eOp (rInt (fun _ _ => True) fun i j => .bl (decide (j ≤ i))) (eVar 1) (eC (.int 0)))) (eOp (rInt CMul fun i j => .int (i * j)) (eC (.int 2)) (eVar 1)) (eOp (rInt (fun _ _ => True) fun i j => .int (i - j)) (eOp (rInt CMul fun i j => .int (i * j)) (eUn rNeg (eC (.int 2))) (eVar 1)) (eC (.int 1)))) [1]) (aCons (eC (.int 0)) (aCons (eC (.int 0)) (aCons (eC (.int 17)) (aNil))))))
abbrev s__law_take : Stmt := topS 11
abbrev n__law_take : List Str := ["pool", "many", "cell", "mixed", "digit"]
abbrev p__law_take : List Str := ["pool", "many"]
def rd__law_take (sp__law_take : DSp) : DTS :=
  sSeq (sIf (eTest (eOp (rInt (fun _ _ => True) fun i j => .bl (decide (j < i))) (eOp rIxd (eVar 0) (eC (.int 2))) (eC (.int 0)))) (sSeq (sAsg (eOp (rInt (fun _ j => j ≠ 0) fun i j => .int (i.fmod j)) (eCa rIntOf (aCons (eOp rIxd (eVar 0) (eC (.int 2))) (aNil))) (eVar 1)) (gNm 4)) (sSeq (sAsg (eOp (rInt CDivN fun i j => .int (i.fdiv j)) (eOp rIxd (eVar 0) (eC (.int 2))) (eVar 1)) (gSb (eVar 0) (eC (.int 2)))) (sRet (eVar 4)))) (sNext)) (sSeq (sAsg (eC (.int 0)) (gNm 2)) (sSeq (sIf (eTest (eOp (rInt (fun _ _ => True) fun i j => .bl (decide (i < j))) (eOp rIxd (eVar 0) (eC (.int 1))) (eCa rLen (aCons (eOp rIxd (eVar 0) (eC (.int 0))) (aNil))))) (sAsg (eOp rIxd (eOp rIxd (eVar 0) (eC (.int 0))) (eOp rIxd (eVar 0) (eC (.int 1)))) (gNm 2)) (sNext)) (sSeq (sAsg (eOp rAdd (eOp rIxd (eVar 0) (eC (.int 1))) (eC (.int 1))) (gSb (eVar 0) (eC (.int 1)))) (sSeq (sIf (eTest (eOp (rInt (fun _ _ => True) fun i j => .bl (decide (j ≤ i))) (eVar 2) (eOp (rInt CPow fun i j => .int (i ^ j.toNat)) (eC (.int 10)) (eC (.int 18))))) (sSeq (sAsg (eOp (rInt CDivN fun i j => .int (i.fdiv j)) (eVar 2) (eC (.int 2))) (gSb (eVar 0) (eC (.int 2)))) (sRet (eCa sp__law_take (aCons (eVar 0) (aCons (eVar 1) (aNil)))))) (sNext)) (sSeq (sAsg (eOp (rInt (fun _ j => j ≠ 0) fun i j => .int (i.fmod j)) (eCa rIntOf (aCons (eOp rAdd (eOp rAdd (eOp (rInt CMul fun i j => .int (i * j)) (eOp rIxd (eVar 0) (eC (.int 3))) (eC (.int 48271))) (eOp (rInt CMul fun i j => .int (i * j)) (eVar 2) (eC (.int 69621)))) (eOp (rInt CMul fun i j => .int (i * j)) (eOp rIxd (eVar 0) (eC (.int 1))) (eC (.int 613)))) (aNil))) (eC (.int 2147483647))) (gSb (eVar 0) (eC (.int 3)))) (sSeq (sAsg (eOp (rInt (fun _ j => j ≠ 0) fun i j => .int (i.fmod j)) (eCa rIntOf (aCons (eOp rAdd (eOp rAdd (eOp (rInt CMul fun i j => .int (i * j)) (eOp rIxd (eVar 0) (eC (.int 3))) (eOp rIxd (eVar 0) (eC (.int 3)))) (eOp (rInt CMul fun i j => .int (i * j)) (eOp rIxd (eVar 0) (eC (.int 3))) (eC (.int 7919)))) (eC (.int 104729))) (aNil))) (eC (.int 1000000007))) (gNm 3)) (sRet (eOp (rInt (fun _ j => j ≠ 0) fun i j => .int (i.fmod j)) (eCa rIntOf (aCons (eOp (rInt CDivN fun i j => .int (i.fdiv j)) (eVar 3) (eC (.int 3))) (aNil))) (eVar 1)))))))))
abbrev s__law_whole : Stmt := topS 12
abbrev n__law_whole : List Str := ["pool"]
abbrev p__law_whole : List Str := ["pool"]
def rd__law_whole (sp__law_take : DSp) : DTS :=
  sSeq (sIf (eTest (eOp (rEq true) (eCa sp__law_take (aCons (eVar 0) (aCons (eC (.int 3)) (aNil)))) (eC (.int 0)))) (sRet (eOp (rInt (fun _ _ => True) fun i j => .int (i - j)) (eCa sp__law_take (aCons (eVar 0) (aCons (eC (.int 2000001)) (aNil)))) (eC (.int 1000000)))) (sNext)) (sRet (eOp (rInt (fun _ _ => True) fun i j => .int (i - j)) (eCa sp__law_take (aCons (eVar 0) (aCons (eC (.int 9)) (aNil)))) (eC (.int 4))))
abbrev s__law_sum : Stmt := topS 13
abbrev n__law_sum : List Str := ["pool", "parts", "u", "multiple"]
abbrev p__law_sum : List Str := ["pool"]
def rd__law_sum (sp__law_take sp__law_whole : DSp) : DTS :=
  sSeq (sAsg (eLst (aNil)) (gNm 1)) (sSeq (sFor (iRg1 (eCa sp__law_take (aCons (eVar 0) (aCons (eC (.int 4)) (aNil))))) (gNm 2) (sSeq (sAsg (eOp (rInt (fun _ _ => True) fun i j => .int (i - j)) (eCa sp__law_take (aCons (eVar 0) (aCons (eC (.int 7)) (aNil)))) (eC (.int 3))) (gNm 3)) (sIf (eTest (eOp (rEq false) (eVar 3) (eC (.int 0)))) (sDrop (eMtL rAppend (eVar 1) (aCons (eTup (aCons (eOp rAdd (eOp (rInt CMul fun i j => .int (i * j)) (eC (.int 10)) (eVar 2)) (eCa sp__law_take (aCons (eVar 0) (aCons (eC (.int 10)) (aNil))))) (aCons (eVar 3) (aNil)))) (aNil)))) (sNext)))) (sRet (eTup (aCons (eC (.str "sum")) (aCons (eCa rTupOf (aCons (eVar 1) (aNil))) (aCons (eCa sp__law_whole (aCons (eVar 0) (aNil))) (aNil)))))))
abbrev s__law_given : Stmt := topS 14
abbrev n__law_given : List Str := ["pool", "kind"]
abbrev p__law_given : List Str := ["pool"]
def rd__law_given (sp__law_take sp__law_sum : DSp) : DTS :=
  sSeq (sAsg (eCa sp__law_take (aCons (eVar 0) (aCons (eC (.int 4)) (aNil)))) (gNm 1)) (sSeq (sIf (eTest (eOp (rEq true) (eVar 1) (eC (.int 0)))) (sRet (eCa sp__law_sum (aCons (eVar 0) (aNil)))) (sNext)) (sSeq (sIf (eTest (eOp (rEq true) (eVar 1) (eC (.int 1)))) (sRet (eTup (aCons (eC (.str "name")) (aCons (eOp rAdd (eC (.str "n")) (eCa rStrOf (aCons (eCa sp__law_take (aCons (eVar 0) (aCons (eC (.int 30)) (aNil)))) (aNil)))) (aNil))))) (sNext)) (sSeq (sIf (eTest (eOp (rEq true) (eVar 1) (eC (.int 2)))) (sRet (eTup (aCons (eC (.str "addr")) (aCons (eCa sp__law_take (aCons (eVar 0) (aCons (eC (.int 50)) (aNil)))) (aNil))))) (sNext)) (sRet (eTup (aCons (eC (.str "unknown")) (aCons (eCa sp__law_take (aCons (eVar 0) (aCons (eC (.int 41)) (aNil)))) (aNil))))))))
abbrev s__law_term : Stmt := topS 15
abbrev n__law_term : List Str := ["pool", "words", "depth", "kind", "many", "names", "k", "name"]
abbrev p__law_term : List Str := ["pool", "words", "depth"]
def rd__law_term (sp__law_take sp__law_whole sp__law_term : DSp) : DTS :=
  sSeq (sAsg (eCa sp__law_take (aCons (eVar 0) (aCons (eC (.int 8)) (aNil)))) (gNm 3)) (sSeq (sIf (bOr (eTest (eOp (rInt (fun _ _ => True) fun i j => .bl (decide (i < j))) (eVar 3) (eC (.int 2)))) (eTest (eOp (rInt (fun _ _ => True) fun i j => .bl (decide (i < j))) (eVar 2) (eC (.int 1))))) (sRet (eOp rIxd (eTup (aCons (eTup (aCons (eC (.str "int")) (aCons (eCa sp__law_whole (aCons (eVar 0) (aNil))) (aNil)))) (aCons (eTup (aCons (eC (.str "name")) (aCons (eOp rAdd (eC (.str "k")) (eCa rStrOf (aCons (eCa sp__law_take (aCons (eVar 0) (aCons (eC (.int 9)) (aNil)))) (aNil)))) (aNil)))) (aNil)))) (eCa sp__law_take (aCons (eVar 0) (aCons (eC (.int 2)) (aNil)))))) (sNext)) (sSeq (sIf (eTest (eOp (rEq true) (eVar 3) (eC (.int 2)))) (sRet (eTup (aCons (eC (.str "addr")) (aCons (eCa sp__law_take (aCons (eVar 0) (aCons (eC (.int 12)) (aNil)))) (aNil))))) (sNext)) (sSeq (sIf (eTest (eOp (rInt (fun _ _ => True) fun i j => .bl (decide (i < j))) (eVar 3) (eC (.int 5)))) (sRet (eTup (aCons (eC (.str "meta")) (aCons (eOp rIxd (eVar 1) (eCa sp__law_take (aCons (eVar 0) (aCons (eCa rLen (aCons (eVar 1) (aNil))) (aNil))))) (aNil))))) (sNext)) (sSeq (sIf (eTest (eOp (rEq true) (eVar 3) (eC (.int 5)))) (sSeq (sAsg (eCa rSorted (aCons (eLc (iRg1 (eC (.int 10))) (.one 6) (eTest (eOp (rEq true) (eCa sp__law_take (aCons (eVar 0) (aCons (eC (.int 4)) (aNil)))) (eC (.int 0)))) (eOp rAdd (eC (.str "a")) (eCa rStrOf (aCons (eVar 6) (aNil)))) [6]) (aNil))) (gNm 5)) (sRet (eTup (aCons (eC (.str "map")) (aCons (eCa rTupOf (aCons (eLc (iAny (eVar 5)) (.one 7) bYes (eTup (aCons (eVar 7) (aCons (eCa sp__law_term (aCons (eVar 0) (aCons (eVar 1) (aCons (eOp (rInt (fun _ _ => True) fun i j => .int (i - j)) (eVar 2) (eC (.int 1))) (aNil))))) (aNil)))) [7]) (aNil))) (aNil)))))) (sNext)) (sSeq (sAsg (eCa sp__law_take (aCons (eVar 0) (aCons (eC (.int 4)) (aNil)))) (gNm 4)) (sRet (eTup (aCons (eC (.str "node")) (aCons (eOp rAdd (eC (.str "c")) (eCa rStrOf (aCons (eVar 4) (aNil)))) (aCons (eCa rTupOf (aCons (eLc (iRg1 (eVar 4)) (.one 6) bYes (eCa sp__law_term (aCons (eVar 0) (aCons (eVar 1) (aCons (eOp (rInt (fun _ _ => True) fun i j => .int (i - j)) (eVar 2) (eC (.int 1))) (aNil))))) [6]) (aNil))) (aNil)))))))))))
abbrev s__law_due : Stmt := topS 16
abbrev n__law_due : List Str := ["term", "table", "pair", "part"]
abbrev p__law_due : List Str := ["term", "table"]
def rd__law_due (sp__law_due : DSp) : DTS :=
  sSeq (sIf (eTest (eOp (rEq true) (eOp rIxd (eVar 0) (eC (.int 0))) (eC (.str "int")))) (sRet (eTup (aCons (eC (.str "sum")) (aCons (eTup (aNil)) (aCons (eOp rIxd (eVar 0) (eC (.int 1))) (aNil)))))) (sNext)) (sSeq (sIf (eTest (eOp (rEq true) (eOp rIxd (eVar 0) (eC (.int 0))) (eC (.str "meta")))) (sRet (eOp rIxd (eVar 1) (eOp rIxd (eVar 0) (eC (.int 1))))) (sNext)) (sSeq (sIf (eTest (eOp (rEq true) (eOp rIxd (eVar 0) (eC (.int 0))) (eC (.str "map")))) (sRet (eTup (aCons (eC (.str "map")) (aCons (eC .non) (aCons (eCa rTupOf (aCons (eLc (iAny (eOp rIxd (eVar 0) (eC (.int 1)))) (.one 2) bYes (eTup (aCons (eTup (aCons (eC (.str "name")) (aCons (eOp rIxd (eVar 2) (eC (.int 0))) (aNil)))) (aCons (eCa sp__law_due (aCons (eOp rIxd (eVar 2) (eC (.int 1))) (aCons (eVar 1) (aNil)))) (aNil)))) [2]) (aNil))) (aNil)))))) (sNext)) (sSeq (sIf (eTest (eOp (rEq true) (eOp rIxd (eVar 0) (eC (.int 0))) (eC (.str "node")))) (sRet (eTup (aCons (eC (.str "node")) (aCons (eOp rIxd (eVar 0) (eC (.int 1))) (aCons (eCa rTupOf (aCons (eLc (iAny (eOp rIxd (eVar 0) (eC (.int 2)))) (.one 3) bYes (eCa sp__law_due (aCons (eVar 3) (aCons (eVar 1) (aNil)))) [3]) (aNil))) (aNil)))))) (sNext)) (sRet (eVar 0)))))
abbrev s__law_size : Stmt := topS 17
abbrev n__law_size : List Str := ["term", "pair", "part"]
abbrev p__law_size : List Str := ["term"]
def rd__law_size (sp__law_size : DSp) : DTS :=
  sSeq (sIf (eTest (eOp (rEq true) (eOp rIxd (eVar 0) (eC (.int 0))) (eC (.str "map")))) (sRet (eOp rAdd (eC (.int 1)) (eCa rSum (aCons (eLc (iAny (eOp rIxd (eVar 0) (eC (.int 2)))) (.one 1) bYes (eOp rAdd (eC (.int 1)) (eCa sp__law_size (aCons (eOp rIxd (eVar 1) (eC (.int 1))) (aNil)))) [1]) (aNil))))) (sNext)) (sSeq (sIf (eTest (eOp (rEq true) (eOp rIxd (eVar 0) (eC (.int 0))) (eC (.str "node")))) (sRet (eOp rAdd (eC (.int 1)) (eCa rSum (aCons (eLc (iAny (eOp rIxd (eVar 0) (eC (.int 2)))) (.one 2) bYes (eCa sp__law_size (aCons (eVar 2) (aNil))) [2]) (aNil))))) (sNext)) (sRet (eC (.int 1))))
abbrev s__law_found : Stmt := topS 18
abbrev n__law_found : List Str := ["term", "found", "pair", "part"]
abbrev p__law_found : List Str := ["term"]
def rd__law_found (sp__law_found : DSp) : DTS :=
  sSeq (sIf (eTest (eOp (rEq true) (eOp rIxd (eVar 0) (eC (.int 0))) (eC (.str "unknown")))) (sRet (eLst (aCons (eOp rIxd (eVar 0) (eC (.int 1))) (aNil)))) (sNext)) (sSeq (sIf (eTest (eOp (rEq true) (eOp rIxd (eVar 0) (eC (.int 0))) (eC (.str "sum")))) (sRet (eLc (iAny (eOp rIxd (eVar 0) (eC (.int 1)))) (.one 2) bYes (eOp rIxd (eVar 2) (eC (.int 0))) [2])) (sNext)) (sSeq (sAsg (eLst (aNil)) (gNm 1)) (sSeq (sIf (eTest (eOp (rEq true) (eOp rIxd (eVar 0) (eC (.int 0))) (eC (.str "map")))) (sFor (iAny (eOp rIxd (eVar 0) (eC (.int 2)))) (gNm 2) (sAsg (eOp rAdd (eVar 1) (eCa sp__law_found (aCons (eOp rIxd (eVar 2) (eC (.int 1))) (aNil)))) (gNm 1))) (sNext)) (sSeq (sIf (eTest (eOp (rEq true) (eOp rIxd (eVar 0) (eC (.int 0))) (eC (.str "node")))) (sFor (iAny (eOp rIxd (eVar 0) (eC (.int 2)))) (gNm 3) (sAsg (eOp rAdd (eVar 1) (eCa sp__law_found (aCons (eVar 3) (aNil)))) (gNm 1))) (sNext)) (sRet (eVar 1))))))
abbrev s__law_ways : Stmt := topS 19
abbrev n__law_ways : List Str := ["term", "ways", "k", "way"]
abbrev p__law_ways : List Str := ["term"]
def rd__law_ways (sp__law_ways : DSp) : DTS :=
  sSeq (sAsg (eLst (aCons (eTup (aNil)) (aNil))) (gNm 1)) (sSeq (sIf (eTest (eOp (rEq true) (eOp rIxd (eVar 0) (eC (.int 0))) (eC (.str "node")))) (sFor (iRg1 (eCa rLen (aCons (eOp rIxd (eVar 0) (eC (.int 2))) (aNil)))) (gNm 2) (sAsg (eOp rAdd (eVar 1) (eLc (iAny (eCa sp__law_ways (aCons (eOp rIxd (eOp rIxd (eVar 0) (eC (.int 2))) (eVar 2)) (aNil)))) (.one 3) bYes (eOp rAdd (eTup (aCons (eVar 2) (aNil))) (eVar 3)) [3])) (gNm 1))) (sNext)) (sRet (eVar 1)))
abbrev s__law_put : Stmt := topS 20
abbrev n__law_put : List Str := ["term", "way", "part", "row"]
abbrev p__law_put : List Str := ["term", "way", "part"]
def rd__law_put (sp__law_put : DSp) : DTS :=
  sSeq (sIf (bNot (eTru (eVar 1))) (sRet (eVar 2)) (sNext)) (sSeq (sAsg (eCa rLstOf (aCons (eOp rIxd (eVar 0) (eC (.int 2))) (aNil))) (gNm 3)) (sSeq (sAsg (eCa sp__law_put (aCons (eOp rIxd (eVar 3) (eOp rIxd (eVar 1) (eC (.int 0)))) (aCons (eSl (eVar 1) (oSome (eC (.int 1))) (oNone)) (aCons (eVar 2) (aNil))))) (gSb (eVar 3) (eOp rIxd (eVar 1) (eC (.int 0))))) (sRet (eTup (aCons (eC (.str "node")) (aCons (eOp rIxd (eVar 0) (eC (.int 1))) (aCons (eCa rTupOf (aCons (eVar 3) (aNil))) (aNil))))))))
abbrev s__law_once : Stmt := topS 21
abbrev n__law_once : List Str := ["row", "found", "item"]
abbrev p__law_once : List Str := ["row"]
def rd__law_once : DTS :=
  sSeq (sAsg (eLst (aNil)) (gNm 1)) (sSeq (sFor (iAny (eCa rSorted (aCons (eVar 0) (aNil)))) (gNm 2) (sIf (eTest (eOp (rIn false) (eVar 2) (eVar 1))) (sDrop (eMtL rAppend (eVar 1) (aCons (eVar 2) (aNil)))) (sNext))) (sRet (eVar 1)))
abbrev s__law_added : Stmt := topS 22
abbrev n__law_added : List Str := ["one", "other", "sign", "total", "pair", "parts", "u"]
abbrev p__law_added : List Str := ["one", "other", "sign"]
def rd__law_added : DTS :=
  sSeq (sAsg (eDNew) (gNm 3)) (sSeq (sFor (iAny (eOp rIxd (eVar 0) (eC (.int 1)))) (gNm 4) (sAsg (eOp rIxd (eVar 4) (eC (.int 1))) (gSb (eVar 3) (eOp rIxd (eVar 4) (eC (.int 0)))))) (sSeq (sFor (iAny (eOp rIxd (eVar 1) (eC (.int 1)))) (gNm 4) (sAsg (eOp rAdd (eGet2 (eVar 3) (eOp rIxd (eVar 4) (eC (.int 0))) (eC (.int 0))) (eOp (rInt CMul fun i j => .int (i * j)) (eVar 2) (eOp rIxd (eVar 4) (eC (.int 1))))) (gSb (eVar 3) (eOp rIxd (eVar 4) (eC (.int 0)))))) (sSeq (sAsg (eLc (iAny (eCa rSorted (aCons (eVar 3) (aNil)))) (.one 6) bYes (eTup (aCons (eVar 6) (aCons (eOp rIxd (eVar 3) (eVar 6)) (aNil)))) [6]) (gNm 5)) (sRet (eTup (aCons (eC (.str "sum")) (aCons (eCa rTupOf (aCons (eLc (iAny (eVar 5)) (.one 4) (eTest (eOp (rEq false) (eOp rIxd (eVar 4) (eC (.int 1))) (eC (.int 0)))) (eVar 4) [4]) (aNil))) (aCons (eOp rAdd (eOp rIxd (eVar 0) (eC (.int 2))) (eOp (rInt CMul fun i j => .int (i * j)) (eVar 2) (eOp rIxd (eVar 1) (eC (.int 2))))) (aNil)))))))))
abbrev s_law : Stmt := topS 23
abbrev n_law : List Str := ["script", "pool", "words", "table", "word", "term", "due", "ways", "way", "part", "one", "other", "sign", "n", "k"]
abbrev p_law : List Str := ["script"]
def rd_law (sp__law_pool sp__law_take sp__law_given sp__law_term sp__law_due sp_size sp__law_size sp_symbolic sp_unknowns_in sp__law_once sp__law_found sp__law_ways sp_replaced sp__law_put sp__law_sum sp__law_whole sp_integer sp_added sp__law_added : DSp) : DTS :=
  sSeq (sAsg (eCa sp__law_pool (aCons (eVar 0) (aNil))) (gNm 1)) (sSeq (sAsg (eLc (iRg1 (eOp rAdd (eC (.int 1)) (eCa sp__law_take (aCons (eVar 1) (aCons (eC (.int 4)) (aNil)))))) (.one 14) bYes (eOp rAdd (eOp rAdd (eOp rAdd (eC (.str "x")) (eCa rStrOf (aCons (eCa sp__law_take (aCons (eVar 1) (aCons (eC (.int 100)) (aNil)))) (aNil)))) (eC (.str "_"))) (eCa rStrOf (aCons (eVar 14) (aNil)))) [14]) (gNm 2)) (sSeq (sAsg (eDNew) (gNm 3)) (sSeq (sFor (iAny (eVar 2)) (gNm 4) (sAsg (eCa sp__law_given (aCons (eVar 1) (aNil))) (gSb (eVar 3) (eVar 4)))) (sSeq (sAsg (eCa sp__law_term (aCons (eVar 1) (aCons (eVar 2) (aCons (eOp rAdd (eC (.int 1)) (eCa sp__law_take (aCons (eVar 1) (aCons (eC (.int 5)) (aNil))))) (aNil))))) (gNm 5)) (sSeq (sAsg (eCa sp__law_due (aCons (eVar 5) (aCons (eVar 3) (aNil)))) (gNm 6)) (sSeq (sIf (bOr (eTest (eOp (rEq false) (eCa sp_symbolic (aCons (eVar 5) (aCons (eVar 3) (aNil)))) (eVar 6))) (eTest (eOp (rEq false) (eCa sp_size (aCons (eVar 6) (aNil))) (eCa sp__law_size (aCons (eVar 6) (aNil)))))) (sRet (eC (.bl false))) (sNext)) (sSeq (sIf (eTest (eOp (rEq false) (eCa sp_unknowns_in (aCons (eVar 6) (aNil))) (eCa sp__law_once (aCons (eCa sp__law_found (aCons (eVar 6) (aNil))) (aNil))))) (sRet (eC (.bl false))) (sNext)) (sSeq (sAsg (eCa sp__law_ways (aCons (eVar 6) (aNil))) (gNm 7)) (sSeq (sAsg (eOp rIxd (eVar 7) (eCa sp__law_take (aCons (eVar 1) (aCons (eCa rLen (aCons (eVar 7) (aNil))) (aNil))))) (gNm 8)) (sSeq (sAsg (eCa sp__law_due (aCons (eCa sp__law_term (aCons (eVar 1) (aCons (eVar 2) (aCons (eC (.int 2)) (aNil))))) (aCons (eVar 3) (aNil)))) (gNm 9)) (sSeq (sIf (eTest (eOp (rEq false) (eCa sp_replaced (aCons (eVar 6) (aCons (eVar 8) (aCons (eVar 9) (aNil))))) (eCa sp__law_put (aCons (eVar 6) (aCons (eVar 8) (aCons (eVar 9) (aNil))))))) (sRet (eC (.bl false))) (sNext)) (sSeq (sAsg (eCa sp__law_sum (aCons (eVar 1) (aNil))) (gNm 10)) (sSeq (sAsg (eCa sp__law_sum (aCons (eVar 1) (aNil))) (gNm 11)) (sSeq (sAsg (eOp rIxd (eTup (aCons (eC (.int 1)) (aCons (eUn rNeg (eC (.int 1))) (aNil)))) (eCa sp__law_take (aCons (eVar 1) (aCons (eC (.int 2)) (aNil))))) (gNm 12)) (sSeq (sAsg (eCa sp__law_whole (aCons (eVar 1) (aNil))) (gNm 13)) (sRet (eAndV (eOp (rEq true) (eCa sp_added (aCons (eVar 10) (aCons (eVar 11) (aCons (eVar 12) (aNil))))) (eCa sp__law_added (aCons (eVar 10) (aCons (eVar 11) (aCons (eVar 12) (aNil)))))) (eOp (rEq true) (eCa sp_integer (aCons (eVar 13) (aNil))) (eTup (aCons (eC (.str "sum")) (aCons (eTup (aNil)) (aCons (eVar 13) (aNil)))))))))))))))))))))))
/-- what the text asks of the built-in names -/
structure Nb (mg : Str → Option Value) : Prop where
  n_tuple : mg "tuple" = none
  n_sorted : mg "sorted" = none
  n_len : mg "len" = none
  n_range : mg "range" = none
  n_list : mg "list" = none
  n_reversed : mg "reversed" = none
  n_int : mg "int" = none
  n_str : mg "str" = none
  n_sum : mg "sum" = none
section
variable {P : Program} {w : World} {K : PySem.W.Frag} {mg : Str → Option Value} {base : Heap}
theorem sc_integer : FnScope n_integer p_integer (defScope s_integer) := ⟨rfl, rfl, rfl, by decide +kernel, rfl, by decide +kernel, by decide +kernel⟩
theorem der_integer {k : Nat} (B : Nb mg) {f : Addr} (cdv : Value) (A : Around) (outer : List Env) (s : Shared) (H : Hp) (E : XK) (hr : Room k (A.deeper (envOfC "integer" (defScope s_integer) s.heap.objs.size f cdv))) :
    DSs (cxOf CX0 P w K mg base n_integer "integer" (defScope s_integer) f cdv A outer s H E).nox (defBody s_integer) (rd_integer) :=
  have nd := sc_integer.nd
  (dss_one (ds_ret (de_tup (da_cons de_str (da_cons (de_tup da_nil) (da_cons (de_var 0) da_nil))))))
theorem sc_added : FnScope n_added p_added (defScope s_added) := ⟨rfl, rfl, rfl, by decide +kernel, rfl, by decide +kernel, by decide +kernel⟩
theorem der_added {k : Nat} (B : Nb mg) {f : Addr} (cdv : Value) (A : Around) (outer : List Env) (s : Shared) (H : Hp) (E : XK) (hr : Room k (A.deeper (envOfC "added" (defScope s_added) s.heap.objs.size f cdv))) :
    DSs (cxOf CX0 P w K mg base n_added "added" (defScope s_added) f cdv A outer s H E).nox (defBody s_added) (rd_added) :=
  have nd := sc_added.nd
  (dss_cons (ds_set (i := 3) nd rfl (.inr rfl) (de_dc (own := [("u", 5), ("multiple", 6)]) (ct := (.many [5, 6])) rfl nd (di_any (de_ix (hu_of hr) (de_var 0) de_int)) (blkOk_by (own := [("u", 5), ("multiple", 6)]) (by kernel_rfl)) (fun _ _ _ _ _ => (ct_many rfl (ct_cons (ct_one (i := 5) nd rfl (.inl rfl)) (ct_cons (ct_one (i := 6) nd rfl (.inl rfl)) ct_nil)))) (fun _ _ _ _ _ => dts_nil) (fun _ _ _ _ _ => de_var 5) (fun _ _ _ _ _ => de_var 6)))
    (dss_cons (ds_for PassesOwn.never rfl (di_any (de_ix (hu_of hr) (de_var 1) de_int)) (dg_tup rfl (dgs_cons (dg_name (i := 5) nd rfl (.inl rfl)) (dgs_cons (dg_name (i := 6) nd rfl (.inl rfl)) dgs_nil))) (dss_one (ds_asg (de_op do_add (de_get2 (hu_of hr) (de_var 3) (de_var 5) de_int) (de_op do_mul (de_var 2) (de_var 6))) (dg_sub (hu_of hr) (de_var 3) (de_var 5)))))
    (dss_cons (ds_set (i := 4) nd rfl (.inl rfl) (de_callTy dc_tup rfl B.n_tuple boot_tuple_ (da_cons (de_lc (own := [("u", 5)]) (ct := (.one 5)) rfl nd (di_any (de_callB (dc_sorted rfl) rfl B.n_sorted boot_sorted_ (da_cons (de_var 3) da_nil))) (blkOk_by (own := [("u", 5)]) (by kernel_rfl)) (fun _ _ _ _ _ => (ct_one (i := 5) nd rfl (.inl rfl))) (fun _ _ _ _ _ => (dts_one (dt_cmp (do_ne hr.units) (de_ix (hu_of hr) (de_var 3) (de_var 5)) de_int))) (fun _ _ _ _ _ => (de_tup (da_cons (de_var 5) (da_cons (de_ix (hu_of hr) (de_var 3) (de_var 5)) da_nil))))) da_nil)))
    (dss_one (ds_ret (de_tup (da_cons de_str (da_cons (de_var 4) (da_cons (de_op do_add (de_ix (hu_of hr) (de_var 0) de_int) (de_op do_mul (de_var 2) (de_ix (hu_of hr) (de_var 1) de_int))) da_nil)))))))))
theorem sc_built : FnScope n_built p_built (defScope s_built) := ⟨rfl, rfl, rfl, by decide +kernel, rfl, by decide +kernel, by decide +kernel⟩
theorem der_built {k : Nat} (B : Nb mg) {f : Addr} (cdv : Value) (A : Around) (outer : List Env) (s : Shared) (H : Hp) (E : XK) (hr : Room k (A.deeper (envOfC "built" (defScope s_built) s.heap.objs.size f cdv))) :
    DSs (cxOf CX0 P w K mg base n_built "built" (defScope s_built) f cdv A outer s H E).nox (defBody s_built) (rd_built) :=
  have nd := sc_built.nd
  (dss_cons (ds_asg (de_var 1) (dg_tup rfl (dgs_cons (dg_name (i := 4) nd rfl (.inl rfl)) (dgs_cons (dg_name (i := 5) nd rfl (.inr rfl)) (dgs_cons (dg_name (i := 6) nd rfl (.inl rfl)) dgs_nil)))))
    (dss_cons (ds_set (i := 2) nd rfl (.inr rfl) (de_sl (de_var 0) (dpo_some (de_op do_sub (de_callB dc_len rfl B.n_len boot_len_ (da_cons (de_var 0) da_nil)) (de_var 6))) dpo_none))
    (dss_cons (ds_delFrom (de_var 0) (de_op do_sub (de_callB dc_len rfl B.n_len boot_len_ (da_cons (de_var 0) da_nil)) (de_var 6)))
    (dss_cons (ds_if (dt_cmp (do_eq hr.units) (de_var 4) de_str) (dss_cons (ds_expr (de_mtL PySem.F.slot_list_append PySem.F.type_list_append dm_append (de_var 0) (da_cons (de_tup (da_cons de_str (da_cons (de_var 5) (da_cons (de_callTy dc_tup rfl B.n_tuple boot_tuple_ (da_cons (de_var 2) da_nil)) da_nil)))) da_nil)))
    (dss_one ds_retN)) dss_nil)
    (dss_cons (ds_setLc (i := 3) (own := [("k", 7)]) (ct := (.one 7)) rfl nd rfl rfl (sw_true rfl rfl rfl (by decide +kernel)) (di_range1 rfl B.n_range (de_var 6)) (blkOk_by (own := [("k", 7)]) (by kernel_rfl)) (fun _ _ _ _ _ => (ct_one (i := 7) nd rfl (.inl rfl))) (fun _ _ _ _ _ => dts_nil) (fun _ _ _ _ _ => (de_tup (da_cons (de_tup (da_cons de_str (da_cons (de_ix (hu_of hr) (de_var 5) (de_var 7)) da_nil))) (da_cons (de_ix (hu_of hr) (de_var 2) (de_var 7)) da_nil)))))
    (dss_one (ds_expr (de_mtL PySem.F.slot_list_append PySem.F.type_list_append dm_append (de_var 0) (da_cons (de_tup (da_cons de_str (da_cons de_non (da_cons (de_callTy dc_tup rfl B.n_tuple boot_tuple_ (da_cons (de_var 3) da_nil)) da_nil)))) da_nil)))))))))
theorem sc_leaf : FnScope n_leaf p_leaf (defScope s_leaf) := ⟨rfl, rfl, rfl, by decide +kernel, rfl, by decide +kernel, by decide +kernel⟩
theorem der_leaf {k : Nat} (B : Nb mg) {k_integer : Nat} {sp_integer : DSp} (F_integer : Fn P w K mg base k_integer "integer" ["n"] sp_integer) (h_integer : k_integer ≤ k) {f : Addr} (cdv : Value) (A : Around) (outer : List Env) (s : Shared) (H : Hp) (E : XK) (hr : Room k (A.deeper (envOfC "leaf" (defScope s_leaf) s.heap.objs.size f cdv))) :
    DSs (cxOf CX0 P w K mg base n_leaf "leaf" (defScope s_leaf) f cdv A outer s H E).nox (defBody s_leaf) (rd_leaf sp_integer) :=
  have nd := sc_leaf.nd
  (dss_cons (ds_if (dt_cmp (do_eq hr.units) (de_ix (hu_of hr) (de_var 0) de_int) de_str) (dss_one (ds_ret (de_call F_integer (hr.mono h_integer) rfl (da_cons (de_ix (hu_of hr) (de_var 0) de_int) da_nil)))) dss_nil)
    (dss_cons (ds_if (dt_cmp (do_eq hr.units) (de_ix (hu_of hr) (de_var 0) de_int) de_str) (dss_one (ds_ret (de_ix (hu_of hr) (de_var 1) (de_ix (hu_of hr) (de_var 0) de_int)))) dss_nil)
    (dss_one (ds_ret (de_var 0)))))
theorem sc_symbolic : FnScope n_symbolic p_symbolic (defScope s_symbolic) := ⟨rfl, rfl, rfl, by decide +kernel, rfl, by decide +kernel, by decide +kernel⟩
theorem der_symbolic {k : Nat} (B : Nb mg) {k_built : Nat} {sp_built : DSp} (F_built : Fn P w K mg base k_built "built" ["made", "many"] sp_built) (h_built : k_built ≤ k) {k_leaf : Nat} {sp_leaf : DSp} (F_leaf : Fn P w K mg base k_leaf "leaf" ["term", "unknowns"] sp_leaf) (h_leaf : k_leaf ≤ k) {f : Addr} (cdv : Value) (A : Around) (outer : List Env) (s : Shared) (H : Hp) (E : XK) (hr : Room k (A.deeper (envOfC "symbolic" (defScope s_symbolic) s.heap.objs.size f cdv))) :
    DSs (cxOf CX0 P w K mg base n_symbolic "symbolic" (defScope s_symbolic) f cdv A outer s H E).nox (defBody s_symbolic) (rd_symbolic sp_built sp_leaf) :=
  have nd := sc_symbolic.nd
  (dss_cons (ds_set (i := 2) nd rfl (.inl rfl) (de_lst da_nil))
    (dss_cons (ds_set (i := 3) nd rfl (.inl rfl) (de_lst (da_cons (de_tup (da_cons de_str (da_cons (de_var 0) da_nil))) da_nil)))
    (dss_cons (ds_while PassesOwn.never (dt_tru (de_var 3)) (dss_cons (ds_asg (de_mtL0 PySem.F.slot_list_pop PySem.F.type_list_pop dm_pop (de_var 3)) (dg_tup rfl (dgs_cons (dg_name (i := 4) nd rfl (.inl rfl)) (dgs_cons (dg_name (i := 5) nd rfl (.inl rfl)) dgs_nil))))
    (dss_one (ds_if (dt_cmp (do_eq hr.units) (de_var 4) de_str) (dss_one (ds_expr (de_call F_built (hr.mono h_built) rfl (da_cons (de_var 2) (da_cons (de_var 5) da_nil))))) (dss_one (ds_if (dt_cmp (do_eq hr.units) (de_ix (hu_of hr) (de_var 5) de_int) de_str) (dss_cons (ds_expr (de_mtL PySem.F.slot_list_append PySem.F.type_list_append dm_append (de_var 3) (da_cons (de_tup (da_cons de_str (da_cons (de_tup (da_cons de_str (da_cons (de_ix (hu_of hr) (de_var 5) de_int) (da_cons (de_callB dc_len rfl B.n_len boot_len_ (da_cons (de_ix (hu_of hr) (de_var 5) de_int) da_nil)) da_nil)))) da_nil))) da_nil)))
    (dss_one (ds_for PassesOwn.never rfl (di_any (de_listRev rfl rfl B.n_list rfl B.n_reversed (de_ix (hu_of hr) (de_var 5) de_int))) (dg_name (i := 6) nd rfl (.inl rfl)) (dss_one (ds_expr (de_mtL PySem.F.slot_list_append PySem.F.type_list_append dm_append (de_var 3) (da_cons (de_tup (da_cons de_str (da_cons (de_var 6) da_nil))) da_nil))))))) (dss_one (ds_if (dt_cmp (do_eq hr.units) (de_ix (hu_of hr) (de_var 5) de_int) de_str) (dss_cons (ds_set (i := 7) nd rfl (.inl rfl) (de_callTy dc_tup rfl B.n_tuple boot_tuple_ (da_cons (de_lc (own := [("word", 8), ("part", 6)]) (ct := (.many [8, 6])) rfl nd (di_any (de_ix (hu_of hr) (de_var 5) de_int)) (blkOk_by (own := [("word", 8), ("part", 6)]) (by kernel_rfl)) (fun _ _ _ _ _ => (ct_many rfl (ct_cons (ct_one (i := 8) nd rfl (.inl rfl)) (ct_cons (ct_one (i := 6) nd rfl (.inl rfl)) ct_nil)))) (fun _ _ _ _ _ => dts_nil) (fun _ _ _ _ _ => de_var 8)) da_nil)))
    (dss_cons (ds_expr (de_mtL PySem.F.slot_list_append PySem.F.type_list_append dm_append (de_var 3) (da_cons (de_tup (da_cons de_str (da_cons (de_tup (da_cons de_str (da_cons (de_var 7) (da_cons (de_callB dc_len rfl B.n_len boot_len_ (da_cons (de_var 7) da_nil)) da_nil)))) da_nil))) da_nil)))
    (dss_one (ds_for PassesOwn.never rfl (di_any (de_listRev rfl rfl B.n_list rfl B.n_reversed (de_ix (hu_of hr) (de_var 5) de_int))) (dg_tup rfl (dgs_cons (dg_name (i := 8) nd rfl (.inl rfl)) (dgs_cons (dg_name (i := 6) nd rfl (.inl rfl)) dgs_nil))) (dss_one (ds_expr (de_mtL PySem.F.slot_list_append PySem.F.type_list_append dm_append (de_var 3) (da_cons (de_tup (da_cons de_str (da_cons (de_var 6) da_nil))) da_nil)))))))) (dss_one (ds_expr (de_mtL PySem.F.slot_list_append PySem.F.type_list_append dm_append (de_var 2) (da_cons (de_call F_leaf (hr.mono h_leaf) rfl (da_cons (de_var 5) (da_cons (de_var 1) da_nil))) da_nil))))))))))))
    (dss_one (ds_ret (de_ix (hu_of hr) (de_var 2) de_int))))))
theorem sc_size : FnScope n_size p_size (defScope s_size) := ⟨rfl, rfl, rfl, by decide +kernel, rfl, by decide +kernel, by decide +kernel⟩
theorem der_size {k : Nat} (B : Nb mg) {f : Addr} (cdv : Value) (A : Around) (outer : List Env) (s : Shared) (H : Hp) (E : XK) (hr : Room k (A.deeper (envOfC "size" (defScope s_size) s.heap.objs.size f cdv))) :
    DSs (cxOf CX0 P w K mg base n_size "size" (defScope s_size) f cdv A outer s H E).nox (defBody s_size) (rd_size) :=
  have nd := sc_size.nd
  (dss_cons (ds_set (i := 1) nd rfl (.inl rfl) de_int)
    (dss_cons (ds_set (i := 2) nd rfl (.inl rfl) (de_lst (da_cons (de_var 0) da_nil)))
    (dss_cons (ds_while PassesOwn.never (dt_tru (de_var 2)) (dss_cons (ds_set (i := 3) nd rfl (.inl rfl) (de_mtL0 PySem.F.slot_list_pop PySem.F.type_list_pop dm_pop (de_var 2)))
    (dss_cons (ds_aug (i := 1) nd rfl (.inl rfl) dp_add de_int)
    (dss_one (ds_if (dt_cmp (do_eq hr.units) (de_ix (hu_of hr) (de_var 3) de_int) de_str) (dss_one (ds_expr (de_mtL PySem.F.slot_list_extend PySem.F.type_list_extend dm_extend (de_var 2) (da_cons (de_ix (hu_of hr) (de_var 3) de_int) da_nil)))) (dss_one (ds_if (dt_cmp (do_eq hr.units) (de_ix (hu_of hr) (de_var 3) de_int) de_str) (dss_cons (ds_aug (i := 1) nd rfl (.inl rfl) dp_add (de_callB dc_len rfl B.n_len boot_len_ (da_cons (de_ix (hu_of hr) (de_var 3) de_int) da_nil)))
    (dss_one (ds_expr (de_mtL PySem.F.slot_list_extend PySem.F.type_list_extend dm_extend (de_var 2) (da_cons (de_lc (own := [("name", 4), ("part", 5)]) (ct := (.many [4, 5])) rfl nd (di_any (de_ix (hu_of hr) (de_var 3) de_int)) (blkOk_by (own := [("name", 4), ("part", 5)]) (by kernel_rfl)) (fun _ _ _ _ _ => (ct_many rfl (ct_cons (ct_one (i := 4) nd rfl (.inl rfl)) (ct_cons (ct_one (i := 5) nd rfl (.inl rfl)) ct_nil)))) (fun _ _ _ _ _ => dts_nil) (fun _ _ _ _ _ => de_var 5)) da_nil))))) dss_nil)))))))
    (dss_one (ds_ret (de_var 1))))))
theorem sc_unknowns_in : FnScope n_unknowns_in p_unknowns_in (defScope s_unknowns_in) := ⟨rfl, rfl, rfl, by decide +kernel, rfl, by decide +kernel, by decide +kernel⟩
theorem der_unknowns_in {k : Nat} (B : Nb mg) {f : Addr} (cdv : Value) (A : Around) (outer : List Env) (s : Shared) (H : Hp) (E : XK) (hr : Room k (A.deeper (envOfC "unknowns_in" (defScope s_unknowns_in) s.heap.objs.size f cdv))) :
    DSs (cxOf CX0 P w K mg base n_unknowns_in "unknowns_in" (defScope s_unknowns_in) f cdv A outer s H E).nox (defBody s_unknowns_in) (rd_unknowns_in) :=
  have nd := sc_unknowns_in.nd
  (dss_cons (ds_set (i := 1) nd rfl (.inl rfl) de_dnew)
    (dss_cons (ds_set (i := 2) nd rfl (.inl rfl) (de_lst (da_cons (de_var 0) da_nil)))
    (dss_cons (ds_while PassesOwn.never (dt_tru (de_var 2)) (dss_cons (ds_set (i := 3) nd rfl (.inl rfl) (de_mtL0 PySem.F.slot_list_pop PySem.F.type_list_pop dm_pop (de_var 2)))
    (dss_one (ds_if (dt_cmp (do_eq hr.units) (de_ix (hu_of hr) (de_var 3) de_int) de_str) (dss_one (ds_asg de_bl (dg_sub (hu_of hr) (de_var 1) (de_ix (hu_of hr) (de_var 3) de_int)))) (dss_one (ds_if (dt_cmp (do_eq hr.units) (de_ix (hu_of hr) (de_var 3) de_int) de_str) (dss_one (ds_for PassesOwn.never rfl (di_any (de_ix (hu_of hr) (de_var 3) de_int)) (dg_tup rfl (dgs_cons (dg_name (i := 4) nd rfl (.inl rfl)) (dgs_cons (dg_name (i := 5) nd rfl (.inl rfl)) dgs_nil))) (dss_one (ds_asg de_bl (dg_sub (hu_of hr) (de_var 1) (de_var 4)))))) (dss_one (ds_if (dt_cmp (do_eq hr.units) (de_ix (hu_of hr) (de_var 3) de_int) de_str) (dss_one (ds_expr (de_mtL PySem.F.slot_list_extend PySem.F.type_list_extend dm_extend (de_var 2) (da_cons (de_ix (hu_of hr) (de_var 3) de_int) da_nil)))) (dss_one (ds_if (dt_cmp (do_eq hr.units) (de_ix (hu_of hr) (de_var 3) de_int) de_str) (dss_cons (ds_if (dt_cmp do_notN (de_ix (hu_of hr) (de_var 3) de_int) de_non) (dss_one (ds_asg de_bl (dg_sub (hu_of hr) (de_var 1) (de_ix (hu_of hr) (de_var 3) de_int)))) dss_nil)
    (dss_one (ds_for PassesOwn.never rfl (di_any (de_ix (hu_of hr) (de_var 3) de_int)) (dg_tup rfl (dgs_cons (dg_name (i := 6) nd rfl (.inl rfl)) (dgs_cons (dg_name (i := 7) nd rfl (.inl rfl)) dgs_nil))) (dss_cons (ds_expr (de_mtL PySem.F.slot_list_append PySem.F.type_list_append dm_append (de_var 2) (da_cons (de_var 6) da_nil)))
    (dss_one (ds_expr (de_mtL PySem.F.slot_list_append PySem.F.type_list_append dm_append (de_var 2) (da_cons (de_var 7) da_nil)))))))) dss_nil))))))))))
    (dss_one (ds_ret (de_callB (dc_sorted rfl) rfl B.n_sorted boot_sorted_ (da_cons (de_var 1) da_nil)))))))
theorem sc_replaced : FnScope n_replaced p_replaced (defScope s_replaced) := ⟨rfl, rfl, rfl, by decide +kernel, rfl, by decide +kernel, by decide +kernel⟩
theorem der_replaced {k : Nat} (B : Nb mg) {f : Addr} (cdv : Value) (A : Around) (outer : List Env) (s : Shared) (H : Hp) (E : XK) (hr : Room k (A.deeper (envOfC "replaced" (defScope s_replaced) s.heap.objs.size f cdv))) :
    DSs (cxOf CX0 P w K mg base n_replaced "replaced" (defScope s_replaced) f cdv A outer s H E).nox (defBody s_replaced) (rd_replaced) :=
  have nd := sc_replaced.nd
  (dss_cons (ds_set (i := 3) nd rfl (.inl rfl) (de_lst da_nil))
    (dss_cons (ds_for PassesOwn.never rfl (di_any (de_var 1)) (dg_name (i := 4) nd rfl (.inl rfl)) (dss_cons (ds_expr (de_mtL PySem.F.slot_list_append PySem.F.type_list_append dm_append (de_var 3) (da_cons (de_tup (da_cons (de_var 0) (da_cons (de_var 4) da_nil))) da_nil)))
    (dss_one (ds_set (i := 0) nd rfl (.inl rfl) (de_ix (hu_of hr) (de_ix (hu_of hr) (de_var 0) de_int) (de_var 4))))))
    (dss_cons (ds_for PassesOwn.never rfl (di_any (de_listRev rfl rfl B.n_list rfl B.n_reversed (de_var 3))) (dg_tup rfl (dgs_cons (dg_name (i := 5) nd rfl (.inl rfl)) (dgs_cons (dg_name (i := 4) nd rfl (.inl rfl)) dgs_nil))) (dss_one (ds_set (i := 2) nd rfl (.inl rfl) (de_tup (da_cons de_str (da_cons (de_ix (hu_of hr) (de_var 5) de_int) (da_cons (de_op do_add (de_op do_add (de_sl (de_ix (hu_of hr) (de_var 5) de_int) dpo_none (dpo_some (de_var 4))) (de_tup (da_cons (de_var 2) da_nil))) (de_sl (de_ix (hu_of hr) (de_var 5) de_int) (dpo_some (de_op do_add (de_var 4) de_int)) dpo_none)) da_nil)))))))
    (dss_one (ds_ret (de_var 2))))))
theorem sc__law_pool : FnScope n__law_pool p__law_pool (defScope s__law_pool) := ⟨rfl, rfl, rfl, by decide +kernel, rfl, by decide +kernel, by decide +kernel⟩
theorem der__law_pool {k : Nat} (B : Nb mg) {f : Addr} (cdv : Value) (A : Around) (outer : List Env) (s : Shared) (H : Hp) (E : XK) (hr : Room k (A.deeper (envOfC "_law_pool" (defScope s__law_pool) s.heap.objs.size f cdv))) :
    DSs (cxOf CX0 P w K mg base n__law_pool "_law_pool" (defScope s__law_pool) f cdv A outer s H E).nox (defBody s__law_pool) (rd__law_pool K) :=
  have nd := sc__law_pool.nd
  (dss_one (ds_ret (de_lst (da_cons (de_lc (own := [("cell", 1)]) (ct := (.one 1)) rfl nd (di_scr (de_var 0)) (blkOk_by (own := [("cell", 1)]) (by kernel_rfl)) (fun _ _ _ _ _ => (ct_one (i := 1) nd rfl (.inl rfl))) (fun _ _ _ _ _ => dts_nil) (fun _ _ _ _ _ => (de_if (dt_cmp do_ge (de_var 1) de_int) (de_op do_mul de_int (de_var 1)) (de_op do_sub (de_op do_mul (de_un du_neg de_int) (de_var 1)) de_int)))) (da_cons de_int (da_cons de_int (da_cons de_int da_nil)))))))
theorem sc__law_take : FnScope n__law_take p__law_take (defScope s__law_take) := ⟨rfl, rfl, rfl, by decide +kernel, rfl, by decide +kernel, by decide +kernel⟩
theorem der__law_take {k : Nat} (B : Nb mg) {k__law_take : Nat} {sp__law_take : DSp} (F__law_take : Fn P w K mg base k__law_take "_law_take" ["pool", "many"] sp__law_take) (h__law_take : k__law_take ≤ k) {f : Addr} (cdv : Value) (A : Around) (outer : List Env) (s : Shared) (H : Hp) (E : XK) (hr : Room k (A.deeper (envOfC "_law_take" (defScope s__law_take) s.heap.objs.size f cdv))) :
    DSs (cxOf CX0 P w K mg base n__law_take "_law_take" (defScope s__law_take) f cdv A outer s H E).nox (defBody s__law_take) (rd__law_take sp__law_take) :=
  have nd := sc__law_take.nd
  (dss_cons (ds_if (dt_cmp do_gt (de_ix (hu_of hr) (de_var 0) de_int) de_int) (dss_cons (ds_set (i := 4) nd rfl (.inl rfl) (de_op do_mod (de_callTy dc_int rfl B.n_int boot_int_ (da_cons (de_ix (hu_of hr) (de_var 0) de_int) da_nil)) (de_var 1)))
    (dss_cons (ds_asg (de_op do_fdiv (de_ix (hu_of hr) (de_var 0) de_int) (de_var 1)) (dg_sub (hu_of hr) (de_var 0) de_int))
    (dss_one (ds_ret (de_var 4))))) dss_nil)
    (dss_cons (ds_set (i := 2) nd rfl (.inl rfl) de_int)
    (dss_cons (ds_if (dt_cmp do_lt (de_ix (hu_of hr) (de_var 0) de_int) (de_callB dc_len rfl B.n_len boot_len_ (da_cons (de_ix (hu_of hr) (de_var 0) de_int) da_nil))) (dss_one (ds_set (i := 2) nd rfl (.inl rfl) (de_ix (hu_of hr) (de_ix (hu_of hr) (de_var 0) de_int) (de_ix (hu_of hr) (de_var 0) de_int)))) dss_nil)
    (dss_cons (ds_asg (de_op do_add (de_ix (hu_of hr) (de_var 0) de_int) de_int) (dg_sub (hu_of hr) (de_var 0) de_int))
    (dss_cons (ds_if (dt_cmp do_ge (de_var 2) (de_op do_pow de_int de_int)) (dss_cons (ds_asg (de_op do_fdiv (de_var 2) de_int) (dg_sub (hu_of hr) (de_var 0) de_int))
    (dss_one (ds_ret (de_call F__law_take (hr.mono h__law_take) rfl (da_cons (de_var 0) (da_cons (de_var 1) da_nil)))))) dss_nil)
    (dss_cons (ds_asg (de_op do_mod (de_callTy dc_int rfl B.n_int boot_int_ (da_cons (de_op do_add (de_op do_add (de_op do_mul (de_ix (hu_of hr) (de_var 0) de_int) de_int) (de_op do_mul (de_var 2) de_int)) (de_op do_mul (de_ix (hu_of hr) (de_var 0) de_int) de_int)) da_nil)) de_int) (dg_sub (hu_of hr) (de_var 0) de_int))
    (dss_cons (ds_set (i := 3) nd rfl (.inl rfl) (de_op do_mod (de_callTy dc_int rfl B.n_int boot_int_ (da_cons (de_op do_add (de_op do_add (de_op do_mul (de_ix (hu_of hr) (de_var 0) de_int) (de_ix (hu_of hr) (de_var 0) de_int)) (de_op do_mul (de_ix (hu_of hr) (de_var 0) de_int) de_int)) de_int) da_nil)) de_int))
    (dss_one (ds_ret (de_op do_mod (de_callTy dc_int rfl B.n_int boot_int_ (da_cons (de_op do_fdiv (de_var 3) de_int) da_nil)) (de_var 1)))))))))))
theorem sc__law_whole : FnScope n__law_whole p__law_whole (defScope s__law_whole) := ⟨rfl, rfl, rfl, by decide +kernel, rfl, by decide +kernel, by decide +kernel⟩
theorem der__law_whole {k : Nat} (B : Nb mg) {k__law_take : Nat} {sp__law_take : DSp} (F__law_take : Fn P w K mg base k__law_take "_law_take" ["pool", "many"] sp__law_take) (h__law_take : k__law_take ≤ k) {f : Addr} (cdv : Value) (A : Around) (outer : List Env) (s : Shared) (H : Hp) (E : XK) (hr : Room k (A.deeper (envOfC "_law_whole" (defScope s__law_whole) s.heap.objs.size f cdv))) :
    DSs (cxOf CX0 P w K mg base n__law_whole "_law_whole" (defScope s__law_whole) f cdv A outer s H E).nox (defBody s__law_whole) (rd__law_whole sp__law_take) :=
  have nd := sc__law_whole.nd
  (dss_cons (ds_if (dt_cmp (do_eq hr.units) (de_call F__law_take (hr.mono h__law_take) rfl (da_cons (de_var 0) (da_cons de_int da_nil))) de_int) (dss_one (ds_ret (de_op do_sub (de_call F__law_take (hr.mono h__law_take) rfl (da_cons (de_var 0) (da_cons de_int da_nil))) de_int))) dss_nil)
    (dss_one (ds_ret (de_op do_sub (de_call F__law_take (hr.mono h__law_take) rfl (da_cons (de_var 0) (da_cons de_int da_nil))) de_int))))
theorem sc__law_sum : FnScope n__law_sum p__law_sum (defScope s__law_sum) := ⟨rfl, rfl, rfl, by decide +kernel, rfl, by decide +kernel, by decide +kernel⟩
theorem der__law_sum {k : Nat} (B : Nb mg) {k__law_take : Nat} {sp__law_take : DSp} (F__law_take : Fn P w K mg base k__law_take "_law_take" ["pool", "many"] sp__law_take) (h__law_take : k__law_take ≤ k) {k__law_whole : Nat} {sp__law_whole : DSp} (F__law_whole : Fn P w K mg base k__law_whole "_law_whole" ["pool"] sp__law_whole) (h__law_whole : k__law_whole ≤ k) {f : Addr} (cdv : Value) (A : Around) (outer : List Env) (s : Shared) (H : Hp) (E : XK) (hr : Room k (A.deeper (envOfC "_law_sum" (defScope s__law_sum) s.heap.objs.size f cdv))) :
    DSs (cxOf CX0 P w K mg base n__law_sum "_law_sum" (defScope s__law_sum) f cdv A outer s H E).nox (defBody s__law_sum) (rd__law_sum sp__law_take sp__law_whole) :=
  have nd := sc__law_sum.nd
  (dss_cons (ds_set (i := 1) nd rfl (.inl rfl) (de_lst da_nil))
    (dss_cons (ds_for PassesOwn.never rfl (di_range1 rfl B.n_range (de_call F__law_take (hr.mono h__law_take) rfl (da_cons (de_var 0) (da_cons de_int da_nil)))) (dg_name (i := 2) nd rfl (.inl rfl)) (dss_cons (ds_set (i := 3) nd rfl (.inl rfl) (de_op do_sub (de_call F__law_take (hr.mono h__law_take) rfl (da_cons (de_var 0) (da_cons de_int da_nil))) de_int))
    (dss_one (ds_if (dt_cmp (do_ne hr.units) (de_var 3) de_int) (dss_one (ds_expr (de_mtL PySem.F.slot_list_append PySem.F.type_list_append dm_append (de_var 1) (da_cons (de_tup (da_cons (de_op do_add (de_op do_mul de_int (de_var 2)) (de_call F__law_take (hr.mono h__law_take) rfl (da_cons (de_var 0) (da_cons de_int da_nil)))) (da_cons (de_var 3) da_nil))) da_nil)))) dss_nil))))
    (dss_one (ds_ret (de_tup (da_cons de_str (da_cons (de_callTy dc_tup rfl B.n_tuple boot_tuple_ (da_cons (de_var 1) da_nil)) (da_cons (de_call F__law_whole (hr.mono h__law_whole) rfl (da_cons (de_var 0) da_nil)) da_nil))))))))
theorem sc__law_given : FnScope n__law_given p__law_given (defScope s__law_given) := ⟨rfl, rfl, rfl, by decide +kernel, rfl, by decide +kernel, by decide +kernel⟩
theorem der__law_given {k : Nat} (B : Nb mg) {k__law_take : Nat} {sp__law_take : DSp} (F__law_take : Fn P w K mg base k__law_take "_law_take" ["pool", "many"] sp__law_take) (h__law_take : k__law_take ≤ k) {k__law_sum : Nat} {sp__law_sum : DSp} (F__law_sum : Fn P w K mg base k__law_sum "_law_sum" ["pool"] sp__law_sum) (h__law_sum : k__law_sum ≤ k) {f : Addr} (cdv : Value) (A : Around) (outer : List Env) (s : Shared) (H : Hp) (E : XK) (hr : Room k (A.deeper (envOfC "_law_given" (defScope s__law_given) s.heap.objs.size f cdv))) :
    DSs (cxOf CX0 P w K mg base n__law_given "_law_given" (defScope s__law_given) f cdv A outer s H E).nox (defBody s__law_given) (rd__law_given sp__law_take sp__law_sum) :=
  have nd := sc__law_given.nd
  (dss_cons (ds_set (i := 1) nd rfl (.inl rfl) (de_call F__law_take (hr.mono h__law_take) rfl (da_cons (de_var 0) (da_cons de_int da_nil))))
    (dss_cons (ds_if (dt_cmp (do_eq hr.units) (de_var 1) de_int) (dss_one (ds_ret (de_call F__law_sum (hr.mono h__law_sum) rfl (da_cons (de_var 0) da_nil)))) dss_nil)
    (dss_cons (ds_if (dt_cmp (do_eq hr.units) (de_var 1) de_int) (dss_one (ds_ret (de_tup (da_cons de_str (da_cons (de_op do_add de_str (de_callTy dc_str rfl B.n_str boot_str_ (da_cons (de_call F__law_take (hr.mono h__law_take) rfl (da_cons (de_var 0) (da_cons de_int da_nil))) da_nil))) da_nil))))) dss_nil)
    (dss_cons (ds_if (dt_cmp (do_eq hr.units) (de_var 1) de_int) (dss_one (ds_ret (de_tup (da_cons de_str (da_cons (de_call F__law_take (hr.mono h__law_take) rfl (da_cons (de_var 0) (da_cons de_int da_nil))) da_nil))))) dss_nil)
    (dss_one (ds_ret (de_tup (da_cons de_str (da_cons (de_call F__law_take (hr.mono h__law_take) rfl (da_cons (de_var 0) (da_cons de_int da_nil))) da_nil)))))))))
theorem sc__law_term : FnScope n__law_term p__law_term (defScope s__law_term) := ⟨rfl, rfl, rfl, by decide +kernel, rfl, by decide +kernel, by decide +kernel⟩
theorem der__law_term {k : Nat} (B : Nb mg) {k__law_take : Nat} {sp__law_take : DSp} (F__law_take : Fn P w K mg base k__law_take "_law_take" ["pool", "many"] sp__law_take) (h__law_take : k__law_take ≤ k) {k__law_whole : Nat} {sp__law_whole : DSp} (F__law_whole : Fn P w K mg base k__law_whole "_law_whole" ["pool"] sp__law_whole) (h__law_whole : k__law_whole ≤ k) {k__law_term : Nat} {sp__law_term : DSp} (F__law_term : Fn P w K mg base k__law_term "_law_term" ["pool", "words", "depth"] sp__law_term) (h__law_term : k__law_term ≤ k) {f : Addr} (cdv : Value) (A : Around) (outer : List Env) (s : Shared) (H : Hp) (E : XK) (hr : Room k (A.deeper (envOfC "_law_term" (defScope s__law_term) s.heap.objs.size f cdv))) :
    DSs (cxOf CX0 P w K mg base n__law_term "_law_term" (defScope s__law_term) f cdv A outer s H E).nox (defBody s__law_term) (rd__law_term sp__law_take sp__law_whole sp__law_term) :=
  have nd := sc__law_term.nd
  (dss_cons (ds_set (i := 3) nd rfl (.inl rfl) (de_call F__law_take (hr.mono h__law_take) rfl (da_cons (de_var 0) (da_cons de_int da_nil))))
    (dss_cons (ds_if (dt_w (dw_or (dt_cmp do_lt (de_var 3) de_int) (dw_or1 (dt_cmp do_lt (de_var 2) de_int)))) (dss_one (ds_ret (de_ix (hu_of hr) (de_tup (da_cons (de_tup (da_cons de_str (da_cons (de_call F__law_whole (hr.mono h__law_whole) rfl (da_cons (de_var 0) da_nil)) da_nil))) (da_cons (de_tup (da_cons de_str (da_cons (de_op do_add de_str (de_callTy dc_str rfl B.n_str boot_str_ (da_cons (de_call F__law_take (hr.mono h__law_take) rfl (da_cons (de_var 0) (da_cons de_int da_nil))) da_nil))) da_nil))) da_nil))) (de_call F__law_take (hr.mono h__law_take) rfl (da_cons (de_var 0) (da_cons de_int da_nil)))))) dss_nil)
    (dss_cons (ds_if (dt_cmp (do_eq hr.units) (de_var 3) de_int) (dss_one (ds_ret (de_tup (da_cons de_str (da_cons (de_call F__law_take (hr.mono h__law_take) rfl (da_cons (de_var 0) (da_cons de_int da_nil))) da_nil))))) dss_nil)
    (dss_cons (ds_if (dt_cmp do_lt (de_var 3) de_int) (dss_one (ds_ret (de_tup (da_cons de_str (da_cons (de_ix (hu_of hr) (de_var 1) (de_call F__law_take (hr.mono h__law_take) rfl (da_cons (de_var 0) (da_cons (de_callB dc_len rfl B.n_len boot_len_ (da_cons (de_var 1) da_nil)) da_nil)))) da_nil))))) dss_nil)
    (dss_cons (ds_if (dt_cmp (do_eq hr.units) (de_var 3) de_int) (dss_cons (ds_set (i := 5) nd rfl (.inl rfl) (de_callB (dc_sorted rfl) rfl B.n_sorted boot_sorted_ (da_cons (de_lc (own := [("k", 6)]) (ct := (.one 6)) rfl nd (di_range1 rfl B.n_range de_int) (blkOk_by (own := [("k", 6)]) (by kernel_rfl)) (fun _ _ _ _ _ => (ct_one (i := 6) nd rfl (.inl rfl))) (fun _ _ _ _ _ => (dts_one (dt_cmp (do_eq hr.units) (de_call F__law_take (hr.mono h__law_take) rfl (da_cons (de_var 0) (da_cons de_int da_nil))) de_int))) (fun _ _ _ _ _ => (de_op do_add de_str (de_callTy dc_str rfl B.n_str boot_str_ (da_cons (de_var 6) da_nil))))) da_nil)))
    (dss_one (ds_ret (de_tup (da_cons de_str (da_cons (de_callTy dc_tup rfl B.n_tuple boot_tuple_ (da_cons (de_lc (own := [("name", 7)]) (ct := (.one 7)) rfl nd (di_any (de_var 5)) (blkOk_by (own := [("name", 7)]) (by kernel_rfl)) (fun _ _ _ _ _ => (ct_one (i := 7) nd rfl (.inl rfl))) (fun _ _ _ _ _ => dts_nil) (fun _ _ _ _ _ => (de_tup (da_cons (de_var 7) (da_cons (de_call F__law_term (hr.mono h__law_term) rfl (da_cons (de_var 0) (da_cons (de_var 1) (da_cons (de_op do_sub (de_var 2) de_int) da_nil)))) da_nil))))) da_nil)) da_nil)))))) dss_nil)
    (dss_cons (ds_set (i := 4) nd rfl (.inl rfl) (de_call F__law_take (hr.mono h__law_take) rfl (da_cons (de_var 0) (da_cons de_int da_nil))))
    (dss_one (ds_ret (de_tup (da_cons de_str (da_cons (de_op do_add de_str (de_callTy dc_str rfl B.n_str boot_str_ (da_cons (de_var 4) da_nil))) (da_cons (de_callTy dc_tup rfl B.n_tuple boot_tuple_ (da_cons (de_lc (own := [("k", 6)]) (ct := (.one 6)) rfl nd (di_range1 rfl B.n_range (de_var 4)) (blkOk_by (own := [("k", 6)]) (by kernel_rfl)) (fun _ _ _ _ _ => (ct_one (i := 6) nd rfl (.inl rfl))) (fun _ _ _ _ _ => dts_nil) (fun _ _ _ _ _ => (de_call F__law_term (hr.mono h__law_term) rfl (da_cons (de_var 0) (da_cons (de_var 1) (da_cons (de_op do_sub (de_var 2) de_int) da_nil)))))) da_nil)) da_nil))))))))))))
theorem sc__law_due : FnScope n__law_due p__law_due (defScope s__law_due) := ⟨rfl, rfl, rfl, by decide +kernel, rfl, by decide +kernel, by decide +kernel⟩
theorem der__law_due {k : Nat} (B : Nb mg) {k__law_due : Nat} {sp__law_due : DSp} (F__law_due : Fn P w K mg base k__law_due "_law_due" ["term", "table"] sp__law_due) (h__law_due : k__law_due ≤ k) {f : Addr} (cdv : Value) (A : Around) (outer : List Env) (s : Shared) (H : Hp) (E : XK) (hr : Room k (A.deeper (envOfC "_law_due" (defScope s__law_due) s.heap.objs.size f cdv))) :
    DSs (cxOf CX0 P w K mg base n__law_due "_law_due" (defScope s__law_due) f cdv A outer s H E).nox (defBody s__law_due) (rd__law_due sp__law_due) :=
  have nd := sc__law_due.nd
  (dss_cons (ds_if (dt_cmp (do_eq hr.units) (de_ix (hu_of hr) (de_var 0) de_int) de_str) (dss_one (ds_ret (de_tup (da_cons de_str (da_cons (de_tup da_nil) (da_cons (de_ix (hu_of hr) (de_var 0) de_int) da_nil)))))) dss_nil)
    (dss_cons (ds_if (dt_cmp (do_eq hr.units) (de_ix (hu_of hr) (de_var 0) de_int) de_str) (dss_one (ds_ret (de_ix (hu_of hr) (de_var 1) (de_ix (hu_of hr) (de_var 0) de_int)))) dss_nil)
    (dss_cons (ds_if (dt_cmp (do_eq hr.units) (de_ix (hu_of hr) (de_var 0) de_int) de_str) (dss_one (ds_ret (de_tup (da_cons de_str (da_cons de_non (da_cons (de_callTy dc_tup rfl B.n_tuple boot_tuple_ (da_cons (de_lc (own := [("pair", 2)]) (ct := (.one 2)) rfl nd (di_any (de_ix (hu_of hr) (de_var 0) de_int)) (blkOk_by (own := [("pair", 2)]) (by kernel_rfl)) (fun _ _ _ _ _ => (ct_one (i := 2) nd rfl (.inl rfl))) (fun _ _ _ _ _ => dts_nil) (fun _ _ _ _ _ => (de_tup (da_cons (de_tup (da_cons de_str (da_cons (de_ix (hu_of hr) (de_var 2) de_int) da_nil))) (da_cons (de_call F__law_due (hr.mono h__law_due) rfl (da_cons (de_ix (hu_of hr) (de_var 2) de_int) (da_cons (de_var 1) da_nil))) da_nil))))) da_nil)) da_nil)))))) dss_nil)
    (dss_cons (ds_if (dt_cmp (do_eq hr.units) (de_ix (hu_of hr) (de_var 0) de_int) de_str) (dss_one (ds_ret (de_tup (da_cons de_str (da_cons (de_ix (hu_of hr) (de_var 0) de_int) (da_cons (de_callTy dc_tup rfl B.n_tuple boot_tuple_ (da_cons (de_lc (own := [("part", 3)]) (ct := (.one 3)) rfl nd (di_any (de_ix (hu_of hr) (de_var 0) de_int)) (blkOk_by (own := [("part", 3)]) (by kernel_rfl)) (fun _ _ _ _ _ => (ct_one (i := 3) nd rfl (.inl rfl))) (fun _ _ _ _ _ => dts_nil) (fun _ _ _ _ _ => (de_call F__law_due (hr.mono h__law_due) rfl (da_cons (de_var 3) (da_cons (de_var 1) da_nil))))) da_nil)) da_nil)))))) dss_nil)
    (dss_one (ds_ret (de_var 0)))))))
theorem sc__law_size : FnScope n__law_size p__law_size (defScope s__law_size) := ⟨rfl, rfl, rfl, by decide +kernel, rfl, by decide +kernel, by decide +kernel⟩
theorem der__law_size {k : Nat} (B : Nb mg) {k__law_size : Nat} {sp__law_size : DSp} (F__law_size : Fn P w K mg base k__law_size "_law_size" ["term"] sp__law_size) (h__law_size : k__law_size ≤ k) {f : Addr} (cdv : Value) (A : Around) (outer : List Env) (s : Shared) (H : Hp) (E : XK) (hr : Room k (A.deeper (envOfC "_law_size" (defScope s__law_size) s.heap.objs.size f cdv))) :
    DSs (cxOf CX0 P w K mg base n__law_size "_law_size" (defScope s__law_size) f cdv A outer s H E).nox (defBody s__law_size) (rd__law_size sp__law_size) :=
  have nd := sc__law_size.nd
  (dss_cons (ds_if (dt_cmp (do_eq hr.units) (de_ix (hu_of hr) (de_var 0) de_int) de_str) (dss_one (ds_ret (de_op do_add de_int (de_callB (dc_sum rfl) rfl B.n_sum boot_sum_ (da_cons (de_lc (own := [("pair", 1)]) (ct := (.one 1)) rfl nd (di_any (de_ix (hu_of hr) (de_var 0) de_int)) (blkOk_by (own := [("pair", 1)]) (by kernel_rfl)) (fun _ _ _ _ _ => (ct_one (i := 1) nd rfl (.inl rfl))) (fun _ _ _ _ _ => dts_nil) (fun _ _ _ _ _ => (de_op do_add de_int (de_call F__law_size (hr.mono h__law_size) rfl (da_cons (de_ix (hu_of hr) (de_var 1) de_int) da_nil))))) da_nil))))) dss_nil)
    (dss_cons (ds_if (dt_cmp (do_eq hr.units) (de_ix (hu_of hr) (de_var 0) de_int) de_str) (dss_one (ds_ret (de_op do_add de_int (de_callB (dc_sum rfl) rfl B.n_sum boot_sum_ (da_cons (de_lc (own := [("part", 2)]) (ct := (.one 2)) rfl nd (di_any (de_ix (hu_of hr) (de_var 0) de_int)) (blkOk_by (own := [("part", 2)]) (by kernel_rfl)) (fun _ _ _ _ _ => (ct_one (i := 2) nd rfl (.inl rfl))) (fun _ _ _ _ _ => dts_nil) (fun _ _ _ _ _ => (de_call F__law_size (hr.mono h__law_size) rfl (da_cons (de_var 2) da_nil)))) da_nil))))) dss_nil)
    (dss_one (ds_ret de_int))))
theorem sc__law_found : FnScope n__law_found p__law_found (defScope s__law_found) := ⟨rfl, rfl, rfl, by decide +kernel, rfl, by decide +kernel, by decide +kernel⟩
theorem der__law_found {k : Nat} (B : Nb mg) {k__law_found : Nat} {sp__law_found : DSp} (F__law_found : Fn P w K mg base k__law_found "_law_found" ["term"] sp__law_found) (h__law_found : k__law_found ≤ k) {f : Addr} (cdv : Value) (A : Around) (outer : List Env) (s : Shared) (H : Hp) (E : XK) (hr : Room k (A.deeper (envOfC "_law_found" (defScope s__law_found) s.heap.objs.size f cdv))) :
    DSs (cxOf CX0 P w K mg base n__law_found "_law_found" (defScope s__law_found) f cdv A outer s H E).nox (defBody s__law_found) (rd__law_found sp__law_found) :=
  have nd := sc__law_found.nd
  (dss_cons (ds_if (dt_cmp (do_eq hr.units) (de_ix (hu_of hr) (de_var 0) de_int) de_str) (dss_one (ds_ret (de_lst (da_cons (de_ix (hu_of hr) (de_var 0) de_int) da_nil)))) dss_nil)
    (dss_cons (ds_if (dt_cmp (do_eq hr.units) (de_ix (hu_of hr) (de_var 0) de_int) de_str) (dss_one (ds_ret (de_lc (own := [("pair", 2)]) (ct := (.one 2)) rfl nd (di_any (de_ix (hu_of hr) (de_var 0) de_int)) (blkOk_by (own := [("pair", 2)]) (by kernel_rfl)) (fun _ _ _ _ _ => (ct_one (i := 2) nd rfl (.inl rfl))) (fun _ _ _ _ _ => dts_nil) (fun _ _ _ _ _ => (de_ix (hu_of hr) (de_var 2) de_int))))) dss_nil)
    (dss_cons (ds_set (i := 1) nd rfl (.inl rfl) (de_lst da_nil))
    (dss_cons (ds_if (dt_cmp (do_eq hr.units) (de_ix (hu_of hr) (de_var 0) de_int) de_str) (dss_one (ds_for PassesOwn.never rfl (di_any (de_ix (hu_of hr) (de_var 0) de_int)) (dg_name (i := 2) nd rfl (.inl rfl)) (dss_one (ds_set (i := 1) nd rfl (.inl rfl) (de_op do_add (de_var 1) (de_call F__law_found (hr.mono h__law_found) rfl (da_cons (de_ix (hu_of hr) (de_var 2) de_int) da_nil))))))) dss_nil)
    (dss_cons (ds_if (dt_cmp (do_eq hr.units) (de_ix (hu_of hr) (de_var 0) de_int) de_str) (dss_one (ds_for PassesOwn.never rfl (di_any (de_ix (hu_of hr) (de_var 0) de_int)) (dg_name (i := 3) nd rfl (.inl rfl)) (dss_one (ds_set (i := 1) nd rfl (.inl rfl) (de_op do_add (de_var 1) (de_call F__law_found (hr.mono h__law_found) rfl (da_cons (de_var 3) da_nil))))))) dss_nil)
    (dss_one (ds_ret (de_var 1))))))))
theorem sc__law_ways : FnScope n__law_ways p__law_ways (defScope s__law_ways) := ⟨rfl, rfl, rfl, by decide +kernel, rfl, by decide +kernel, by decide +kernel⟩
theorem der__law_ways {k : Nat} (B : Nb mg) {k__law_ways : Nat} {sp__law_ways : DSp} (F__law_ways : Fn P w K mg base k__law_ways "_law_ways" ["term"] sp__law_ways) (h__law_ways : k__law_ways ≤ k) {f : Addr} (cdv : Value) (A : Around) (outer : List Env) (s : Shared) (H : Hp) (E : XK) (hr : Room k (A.deeper (envOfC "_law_ways" (defScope s__law_ways) s.heap.objs.size f cdv))) :
    DSs (cxOf CX0 P w K mg base n__law_ways "_law_ways" (defScope s__law_ways) f cdv A outer s H E).nox (defBody s__law_ways) (rd__law_ways sp__law_ways) :=
  have nd := sc__law_ways.nd
  (dss_cons (ds_set (i := 1) nd rfl (.inl rfl) (de_lst (da_cons (de_tup da_nil) da_nil)))
    (dss_cons (ds_if (dt_cmp (do_eq hr.units) (de_ix (hu_of hr) (de_var 0) de_int) de_str) (dss_one (ds_for PassesOwn.never rfl (di_range1 rfl B.n_range (de_callB dc_len rfl B.n_len boot_len_ (da_cons (de_ix (hu_of hr) (de_var 0) de_int) da_nil))) (dg_name (i := 2) nd rfl (.inr rfl)) (dss_one (ds_set (i := 1) nd rfl (.inl rfl) (de_op do_add (de_var 1) (de_lc (own := [("way", 3)]) (ct := (.one 3)) rfl nd (di_any (de_call F__law_ways (hr.mono h__law_ways) rfl (da_cons (de_ix (hu_of hr) (de_ix (hu_of hr) (de_var 0) de_int) (de_var 2)) da_nil))) (blkOk_by (own := [("way", 3)]) (by kernel_rfl)) (fun _ _ _ _ _ => (ct_one (i := 3) nd rfl (.inl rfl))) (fun _ _ _ _ _ => dts_nil) (fun _ _ _ _ _ => (de_op do_add (de_tup (da_cons (de_var 2) da_nil)) (de_var 3))))))))) dss_nil)
    (dss_one (ds_ret (de_var 1)))))
theorem sc__law_put : FnScope n__law_put p__law_put (defScope s__law_put) := ⟨rfl, rfl, rfl, by decide +kernel, rfl, by decide +kernel, by decide +kernel⟩
theorem der__law_put {k : Nat} (B : Nb mg) {k__law_put : Nat} {sp__law_put : DSp} (F__law_put : Fn P w K mg base k__law_put "_law_put" ["term", "way", "part"] sp__law_put) (h__law_put : k__law_put ≤ k) {f : Addr} (cdv : Value) (A : Around) (outer : List Env) (s : Shared) (H : Hp) (E : XK) (hr : Room k (A.deeper (envOfC "_law_put" (defScope s__law_put) s.heap.objs.size f cdv))) :
    DSs (cxOf CX0 P w K mg base n__law_put "_law_put" (defScope s__law_put) f cdv A outer s H E).nox (defBody s__law_put) (rd__law_put sp__law_put) :=
  have nd := sc__law_put.nd
  (dss_cons (ds_if (dt_not (dt_tru (de_var 1))) (dss_one (ds_ret (de_var 2))) dss_nil)
    (dss_cons (ds_set (i := 3) nd rfl (.inl rfl) (de_callTy (dc_lst rfl) rfl B.n_list boot_list_ (da_cons (de_ix (hu_of hr) (de_var 0) de_int) da_nil)))
    (dss_cons (ds_asg (de_call F__law_put (hr.mono h__law_put) rfl (da_cons (de_ix (hu_of hr) (de_var 3) (de_ix (hu_of hr) (de_var 1) de_int)) (da_cons (de_sl (de_var 1) (dpo_some de_int) dpo_none) (da_cons (de_var 2) da_nil)))) (dg_sub (hu_of hr) (de_var 3) (de_ix (hu_of hr) (de_var 1) de_int)))
    (dss_one (ds_ret (de_tup (da_cons de_str (da_cons (de_ix (hu_of hr) (de_var 0) de_int) (da_cons (de_callTy dc_tup rfl B.n_tuple boot_tuple_ (da_cons (de_var 3) da_nil)) da_nil)))))))))
theorem sc__law_once : FnScope n__law_once p__law_once (defScope s__law_once) := ⟨rfl, rfl, rfl, by decide +kernel, rfl, by decide +kernel, by decide +kernel⟩
theorem der__law_once {k : Nat} (B : Nb mg) {f : Addr} (cdv : Value) (A : Around) (outer : List Env) (s : Shared) (H : Hp) (E : XK) (hr : Room k (A.deeper (envOfC "_law_once" (defScope s__law_once) s.heap.objs.size f cdv))) :
    DSs (cxOf CX0 P w K mg base n__law_once "_law_once" (defScope s__law_once) f cdv A outer s H E).nox (defBody s__law_once) (rd__law_once) :=
  have nd := sc__law_once.nd
  (dss_cons (ds_set (i := 1) nd rfl (.inl rfl) (de_lst da_nil))
    (dss_cons (ds_for PassesOwn.never rfl (di_any (de_callB (dc_sorted rfl) rfl B.n_sorted boot_sorted_ (da_cons (de_var 0) da_nil))) (dg_name (i := 2) nd rfl (.inl rfl)) (dss_one (ds_if (dt_cmp (do_notin hr.units) (de_var 2) (de_var 1)) (dss_one (ds_expr (de_mtL PySem.F.slot_list_append PySem.F.type_list_append dm_append (de_var 1) (da_cons (de_var 2) da_nil)))) dss_nil)))
    (dss_one (ds_ret (de_var 1)))))
theorem sc__law_added : FnScope n__law_added p__law_added (defScope s__law_added) := ⟨rfl, rfl, rfl, by decide +kernel, rfl, by decide +kernel, by decide +kernel⟩
theorem der__law_added {k : Nat} (B : Nb mg) {f : Addr} (cdv : Value) (A : Around) (outer : List Env) (s : Shared) (H : Hp) (E : XK) (hr : Room k (A.deeper (envOfC "_law_added" (defScope s__law_added) s.heap.objs.size f cdv))) :
    DSs (cxOf CX0 P w K mg base n__law_added "_law_added" (defScope s__law_added) f cdv A outer s H E).nox (defBody s__law_added) (rd__law_added) :=
  have nd := sc__law_added.nd
  (dss_cons (ds_set (i := 3) nd rfl (.inr rfl) de_dnew)
    (dss_cons (ds_for PassesOwn.never rfl (di_any (de_ix (hu_of hr) (de_var 0) de_int)) (dg_name (i := 4) nd rfl (.inl rfl)) (dss_one (ds_asg (de_ix (hu_of hr) (de_var 4) de_int) (dg_sub (hu_of hr) (de_var 3) (de_ix (hu_of hr) (de_var 4) de_int)))))
    (dss_cons (ds_for PassesOwn.never rfl (di_any (de_ix (hu_of hr) (de_var 1) de_int)) (dg_name (i := 4) nd rfl (.inl rfl)) (dss_one (ds_asg (de_op do_add (de_get2 (hu_of hr) (de_var 3) (de_ix (hu_of hr) (de_var 4) de_int) de_int) (de_op do_mul (de_var 2) (de_ix (hu_of hr) (de_var 4) de_int))) (dg_sub (hu_of hr) (de_var 3) (de_ix (hu_of hr) (de_var 4) de_int)))))
    (dss_cons (ds_setLc (i := 5) (own := [("u", 6)]) (ct := (.one 6)) rfl nd rfl rfl (sw_true rfl rfl rfl (by decide +kernel)) (di_any (de_callB (dc_sorted rfl) rfl B.n_sorted boot_sorted_ (da_cons (de_var 3) da_nil))) (blkOk_by (own := [("u", 6)]) (by kernel_rfl)) (fun _ _ _ _ _ => (ct_one (i := 6) nd rfl (.inl rfl))) (fun _ _ _ _ _ => dts_nil) (fun _ _ _ _ _ => (de_tup (da_cons (de_var 6) (da_cons (de_ix (hu_of hr) (de_var 3) (de_var 6)) da_nil)))))
    (dss_one (ds_ret (de_tup (da_cons de_str (da_cons (de_callTy dc_tup rfl B.n_tuple boot_tuple_ (da_cons (de_lc (own := [("pair", 4)]) (ct := (.one 4)) rfl nd (di_any (de_var 5)) (blkOk_by (own := [("pair", 4)]) (by kernel_rfl)) (fun _ _ _ _ _ => (ct_one (i := 4) nd rfl (.inl rfl))) (fun _ _ _ _ _ => (dts_one (dt_cmp (do_ne hr.units) (de_ix (hu_of hr) (de_var 4) de_int) de_int))) (fun _ _ _ _ _ => de_var 4)) da_nil)) (da_cons (de_op do_add (de_ix (hu_of hr) (de_var 0) de_int) (de_op do_mul (de_var 2) (de_ix (hu_of hr) (de_var 1) de_int))) da_nil))))))))))
theorem sc_law : FnScope n_law p_law (defScope s_law) := ⟨rfl, rfl, rfl, by decide +kernel, rfl, by decide +kernel, by decide +kernel⟩
theorem der_law {k : Nat} (B : Nb mg) {k__law_pool : Nat} {sp__law_pool : DSp} (F__law_pool : Fn P w K mg base k__law_pool "_law_pool" ["script"] sp__law_pool) (h__law_pool : k__law_pool ≤ k) {k__law_take : Nat} {sp__law_take : DSp} (F__law_take : Fn P w K mg base k__law_take "_law_take" ["pool", "many"] sp__law_take) (h__law_take : k__law_take ≤ k) {k__law_given : Nat} {sp__law_given : DSp} (F__law_given : Fn P w K mg base k__law_given "_law_given" ["pool"] sp__law_given) (h__law_given : k__law_given ≤ k) {k__law_term : Nat} {sp__law_term : DSp} (F__law_term : Fn P w K mg base k__law_term "_law_term" ["pool", "words", "depth"] sp__law_term) (h__law_term : k__law_term ≤ k) {k__law_due : Nat} {sp__law_due : DSp} (F__law_due : Fn P w K mg base k__law_due "_law_due" ["term", "table"] sp__law_due) (h__law_due : k__law_due ≤ k) {k_size : Nat} {sp_size : DSp} (F_size : Fn P w K mg base k_size "size" ["term"] sp_size) (h_size : k_size ≤ k) {k__law_size : Nat} {sp__law_size : DSp} (F__law_size : Fn P w K mg base k__law_size "_law_size" ["term"] sp__law_size) (h__law_size : k__law_size ≤ k) {k_symbolic : Nat} {sp_symbolic : DSp} (F_symbolic : Fn P w K mg base k_symbolic "symbolic" ["term", "unknowns"] sp_symbolic) (h_symbolic : k_symbolic ≤ k) {k_unknowns_in : Nat} {sp_unknowns_in : DSp} (F_unknowns_in : Fn P w K mg base k_unknowns_in "unknowns_in" ["term"] sp_unknowns_in) (h_unknowns_in : k_unknowns_in ≤ k) {k__law_once : Nat} {sp__law_once : DSp} (F__law_once : Fn P w K mg base k__law_once "_law_once" ["row"] sp__law_once) (h__law_once : k__law_once ≤ k) {k__law_found : Nat} {sp__law_found : DSp} (F__law_found : Fn P w K mg base k__law_found "_law_found" ["term"] sp__law_found) (h__law_found : k__law_found ≤ k) {k__law_ways : Nat} {sp__law_ways : DSp} (F__law_ways : Fn P w K mg base k__law_ways "_law_ways" ["term"] sp__law_ways) (h__law_ways : k__law_ways ≤ k) {k_replaced : Nat} {sp_replaced : DSp} (F_replaced : Fn P w K mg base k_replaced "replaced" ["term", "way", "part"] sp_replaced) (h_replaced : k_replaced ≤ k) {k__law_put : Nat} {sp__law_put : DSp} (F__law_put : Fn P w K mg base k__law_put "_law_put" ["term", "way", "part"] sp__law_put) (h__law_put : k__law_put ≤ k) {k__law_sum : Nat} {sp__law_sum : DSp} (F__law_sum : Fn P w K mg base k__law_sum "_law_sum" ["pool"] sp__law_sum) (h__law_sum : k__law_sum ≤ k) {k__law_whole : Nat} {sp__law_whole : DSp} (F__law_whole : Fn P w K mg base k__law_whole "_law_whole" ["pool"] sp__law_whole) (h__law_whole : k__law_whole ≤ k) {k_integer : Nat} {sp_integer : DSp} (F_integer : Fn P w K mg base k_integer "integer" ["n"] sp_integer) (h_integer : k_integer ≤ k) {k_added : Nat} {sp_added : DSp} (F_added : Fn P w K mg base k_added "added" ["one", "other", "sign"] sp_added) (h_added : k_added ≤ k) {k__law_added : Nat} {sp__law_added : DSp} (F__law_added : Fn P w K mg base k__law_added "_law_added" ["one", "other", "sign"] sp__law_added) (h__law_added : k__law_added ≤ k) {f : Addr} (cdv : Value) (A : Around) (outer : List Env) (s : Shared) (H : Hp) (E : XK) (hr : Room k (A.deeper (envOfC "law" (defScope s_law) s.heap.objs.size f cdv))) :
    DSs (cxOf CX0 P w K mg base n_law "law" (defScope s_law) f cdv A outer s H E).nox (defBody s_law) (rd_law sp__law_pool sp__law_take sp__law_given sp__law_term sp__law_due sp_size sp__law_size sp_symbolic sp_unknowns_in sp__law_once sp__law_found sp__law_ways sp_replaced sp__law_put sp__law_sum sp__law_whole sp_integer sp_added sp__law_added) :=
  have nd := sc_law.nd
  (dss_cons (ds_set (i := 1) nd rfl (.inr rfl) (de_call F__law_pool (hr.mono h__law_pool) rfl (da_cons (de_var 0) da_nil)))
    (dss_cons (ds_setLc (i := 2) (own := [("k", 14)]) (ct := (.one 14)) rfl nd rfl rfl (sw_true rfl rfl rfl (by decide +kernel)) (di_range1 rfl B.n_range (de_op do_add de_int (de_call F__law_take (hr.mono h__law_take) rfl (da_cons (de_var 1) (da_cons de_int da_nil))))) (blkOk_by (own := [("k", 14)]) (by kernel_rfl)) (fun _ _ _ _ _ => (ct_one (i := 14) nd rfl (.inl rfl))) (fun _ _ _ _ _ => dts_nil) (fun _ _ _ _ _ => (de_op do_add (de_op do_add (de_op do_add de_str (de_callTy dc_str rfl B.n_str boot_str_ (da_cons (de_call F__law_take (hr.mono h__law_take) rfl (da_cons (de_var 1) (da_cons de_int da_nil))) da_nil))) de_str) (de_callTy dc_str rfl B.n_str boot_str_ (da_cons (de_var 14) da_nil)))))
    (dss_cons (ds_set (i := 3) nd rfl (.inl rfl) de_dnew)
    (dss_cons (ds_for PassesOwn.never rfl (di_any (de_var 2)) (dg_name (i := 4) nd rfl (.inl rfl)) (dss_one (ds_asg (de_call F__law_given (hr.mono h__law_given) rfl (da_cons (de_var 1) da_nil)) (dg_sub (hu_of hr) (de_var 3) (de_var 4)))))
    (dss_cons (ds_set (i := 5) nd rfl (.inl rfl) (de_call F__law_term (hr.mono h__law_term) rfl (da_cons (de_var 1) (da_cons (de_var 2) (da_cons (de_op do_add de_int (de_call F__law_take (hr.mono h__law_take) rfl (da_cons (de_var 1) (da_cons de_int da_nil)))) da_nil)))))
    (dss_cons (ds_set (i := 6) nd rfl (.inl rfl) (de_call F__law_due (hr.mono h__law_due) rfl (da_cons (de_var 5) (da_cons (de_var 3) da_nil))))
    (dss_cons (ds_if (dt_w (dw_or (dt_cmp (do_ne hr.units) (de_call F_symbolic (hr.mono h_symbolic) rfl (da_cons (de_var 5) (da_cons (de_var 3) da_nil))) (de_var 6)) (dw_or1 (dt_cmp (do_ne hr.units) (de_call F_size (hr.mono h_size) rfl (da_cons (de_var 6) da_nil)) (de_call F__law_size (hr.mono h__law_size) rfl (da_cons (de_var 6) da_nil)))))) (dss_one (ds_ret de_bl)) dss_nil)
    (dss_cons (ds_if (dt_cmp (do_ne hr.units) (de_call F_unknowns_in (hr.mono h_unknowns_in) rfl (da_cons (de_var 6) da_nil)) (de_call F__law_once (hr.mono h__law_once) rfl (da_cons (de_call F__law_found (hr.mono h__law_found) rfl (da_cons (de_var 6) da_nil)) da_nil))) (dss_one (ds_ret de_bl)) dss_nil)
    (dss_cons (ds_set (i := 7) nd rfl (.inl rfl) (de_call F__law_ways (hr.mono h__law_ways) rfl (da_cons (de_var 6) da_nil)))
    (dss_cons (ds_set (i := 8) nd rfl (.inl rfl) (de_ix (hu_of hr) (de_var 7) (de_call F__law_take (hr.mono h__law_take) rfl (da_cons (de_var 1) (da_cons (de_callB dc_len rfl B.n_len boot_len_ (da_cons (de_var 7) da_nil)) da_nil)))))
    (dss_cons (ds_set (i := 9) nd rfl (.inl rfl) (de_call F__law_due (hr.mono h__law_due) rfl (da_cons (de_call F__law_term (hr.mono h__law_term) rfl (da_cons (de_var 1) (da_cons (de_var 2) (da_cons de_int da_nil)))) (da_cons (de_var 3) da_nil))))
    (dss_cons (ds_if (dt_cmp (do_ne hr.units) (de_call F_replaced (hr.mono h_replaced) rfl (da_cons (de_var 6) (da_cons (de_var 8) (da_cons (de_var 9) da_nil)))) (de_call F__law_put (hr.mono h__law_put) rfl (da_cons (de_var 6) (da_cons (de_var 8) (da_cons (de_var 9) da_nil))))) (dss_one (ds_ret de_bl)) dss_nil)
    (dss_cons (ds_set (i := 10) nd rfl (.inl rfl) (de_call F__law_sum (hr.mono h__law_sum) rfl (da_cons (de_var 1) da_nil)))
    (dss_cons (ds_set (i := 11) nd rfl (.inl rfl) (de_call F__law_sum (hr.mono h__law_sum) rfl (da_cons (de_var 1) da_nil)))
    (dss_cons (ds_set (i := 12) nd rfl (.inl rfl) (de_ix (hu_of hr) (de_tup (da_cons de_int (da_cons (de_un du_neg de_int) da_nil))) (de_call F__law_take (hr.mono h__law_take) rfl (da_cons (de_var 1) (da_cons de_int da_nil)))))
    (dss_cons (ds_set (i := 13) nd rfl (.inl rfl) (de_call F__law_whole (hr.mono h__law_whole) rfl (da_cons (de_var 1) da_nil)))
    (dss_one (ds_ret (de_andv (de_cmp (do_eq hr.units) (de_call F_added (hr.mono h_added) rfl (da_cons (de_var 10) (da_cons (de_var 11) (da_cons (de_var 12) da_nil)))) (de_call F__law_added (hr.mono h__law_added) rfl (da_cons (de_var 10) (da_cons (de_var 11) (da_cons (de_var 12) da_nil))))) (de_and1 (de_cmp (do_eq hr.units) (de_call F_integer (hr.mono h_integer) rfl (da_cons (de_var 13) da_nil)) (de_tup (da_cons de_str (da_cons (de_tup da_nil) (da_cons (de_var 13) da_nil)))))))))))))))))))))))))
end
end Dn.My

namespace Dn.My
open PySem PySem.Spec PyProof.Rows L2 Dn

/-! ### the pool of draws -/
def PoolR (G : GP) (p c : Addr) (rest : Int) : Prop := ∃ (cells : List Int) (at_ seed : Int), G p = some (.lst [.ref c, .int at_, .int rest, .int seed]) ∧ G c = some (.lst (cells.map D.int)) ∧ c ≠ p ∧ (∀ x ∈ cells, 0 ≤ x) ∧ 0 ≤ at_ ∧ 0 ≤ rest ∧ 0 ≤ seed ∧ seed < 2147483647
def PoolAt (G : GP) (p c : Addr) : Prop := ∃ rest, PoolR G p c rest
/-- all but what stands at p is as it was -/
def But (p : Addr) (G G' : GP) : Prop := ∀ a, a ≠ p → G' a = G a
theorem But.refl {p : Addr} {G : GP} : But p G G := fun _ _ => rfl
theorem But.trans {p : Addr} {G G' G'' : GP} (h : But p G G') (h' : But p G' G'') : But p G G'' := fun a n => (h' a n).trans (h a n)
theorem but_gup {p : Addr} {G : GP} {o : DO} : But p G (gup G p o) := fun a n => gup_ne n
theorem PoolR.put {G : GP} {p c : Addr} {cells : List Int} {at_ rest seed : Int} (h2 : G c = some (.lst (cells.map D.int))) (h3 : c ≠ p) (h4 : ∀ x ∈ cells, 0 ≤ x) (h5 : 0 ≤ at_) (h6 : 0 ≤ rest) (h7 : 0 ≤ seed) (h8 : seed < 2147483647) :
    PoolR (gup G p (.lst [.ref c, .int at_, .int rest, .int seed])) p c rest := ⟨cells, at_, seed, gup_same, (gup_ne h3).trans h2, h3, h4, h5, h6, h7, h8⟩
/-- a draw below many -/
def sp_take : DSp := fun ds G Q => ∃ p c many, ds = [.ref p, .int many] ∧ PoolAt G p c ∧ 0 < many ∧ many < 1073741824 ∧ ∀ v G', 0 ≤ v → v < many → PoolAt G' p c → But p G G' → Q (.int v) G'
/-- the same where digits are left -/
def sp_digit : DSp := fun ds G Q => ∃ p c many rest, ds = [.ref p, .int many] ∧ PoolR G p c rest ∧ 0 < rest ∧ 0 < many ∧ many < 1073741824 ∧ ∀ v G', 0 ≤ v → v < many → PoolAt G' p c → But p G G' → Q (.int v) G'
theorem cdiv {many x : Int} (h1 : 0 < many) (h2 : many < 1073741824) : CDivN x many := ⟨by omega, by omega⟩
theorem fmod_in {x many : Int} (h : 0 < many) : 0 ≤ x.fmod many ∧ x.fmod many < many := by
  rw [Int.fmod_eq_emod_of_nonneg _ (by omega)]
  exact ⟨Int.emod_nonneg _ (by omega), Int.emod_lt_of_pos _ h⟩
theorem fdiv_in {x many : Int} (h : 0 < many) (hx : 0 ≤ x) : 0 ≤ x.fdiv many := by
  rw [Int.fdiv_eq_ediv_of_nonneg _ (by omega)]
  exact Int.ediv_nonneg hx (by omega)
theorem sem_digit (sp : DSp) {E : DEnds} {G : GP} {p c : Addr} {many rest : Int} (P : PoolR G p c rest) (hr : 0 < rest) (hm : 0 < many) (hm2 : many < 1073741824) (q : ∀ v G', 0 ≤ v → v < many → PoolAt G' p c → But p G G' → E.rt (.int v) G') :
    rd__law_take sp E (dstart n__law_take [.ref p, .int many]) G := by
  obtain ⟨cells, at_, seed, h1, h2, h3, h4, h5, h6, h7, h8⟩ := P
  show rd__law_take sp E [some (.ref p), some (.int many), none, none, none] G
  unfold rd__law_take
  refine qWhen_i fun k kt kf => ?_
  simp only [eOp, eUn, eVar, eC, eTest, eTru, rTru, eCa, aNil, aCons, eTup, eLst, rInt, rIxd, rAdd, rIntOf, rStrOf, rLen, rTupOf, rLstOf, rEq, rIsN, rNeg, rMin, rMax, eIf, bAnd, bOr, bNot, bYes, eMtL, eMtL0, rAppend, rPop, rExtend, rInsert, rReverse, rClear, eGet1, eGet2, rGet, isDic, gNm, gsNil, gsCons, gTp, gSb, rSet, eSl, rSl, oNone, oSome, iAny, iRg1, iRg2, eLc, eDc, dwipe, CT.put, setMany, sNext, sBreak, sCont, sRetN, sNever, keyD, kD, List.getElem?_cons_zero, List.getElem?_cons_succ, List.set_cons_zero, List.set_cons_succ, List.length_cons, List.length_nil, List.cons_append, List.nil_append, atI_0, atI_1, atI_2, atI_3, atI_4, ixN_0, ixN_1, ixN_2, ixN_3, ofString_inj, String.reduceEq, decide_true, decide_false, decide_not, beq_self_eq_true, Bool.not_true, Bool.not_false, Bool.false_eq_true, Bool.true_eq_false, if_true, if_false, ite_true, ite_false, beq_t, beq_f, true_and, and_true, not_true_eq_false, not_false_eq_true, forall_const, gup_get, eq_self, reduceCtorEq, reduceIte, h1]
  rw [decide_eq_true hr]
  refine kt _ ?_
  refine qSet_i fun k kn => ?_
  simp only [eOp, eUn, eVar, eC, eTest, eTru, rTru, eCa, aNil, aCons, eTup, eLst, rInt, rIxd, rAdd, rIntOf, rStrOf, rLen, rTupOf, rLstOf, rEq, rIsN, rNeg, rMin, rMax, eIf, bAnd, bOr, bNot, bYes, eMtL, eMtL0, rAppend, rPop, rExtend, rInsert, rReverse, rClear, eGet1, eGet2, rGet, isDic, gNm, gsNil, gsCons, gTp, gSb, rSet, eSl, rSl, oNone, oSome, iAny, iRg1, iRg2, eLc, eDc, dwipe, CT.put, setMany, sNext, sBreak, sCont, sRetN, sNever, keyD, kD, List.getElem?_cons_zero, List.getElem?_cons_succ, List.set_cons_zero, List.set_cons_succ, List.length_cons, List.length_nil, List.cons_append, List.nil_append, atI_0, atI_1, atI_2, atI_3, atI_4, ixN_0, ixN_1, ixN_2, ixN_3, ofString_inj, String.reduceEq, decide_true, decide_false, decide_not, beq_self_eq_true, Bool.not_true, Bool.not_false, Bool.false_eq_true, Bool.true_eq_false, if_true, if_false, ite_true, ite_false, beq_t, beq_f, true_and, and_true, not_true_eq_false, not_false_eq_true, forall_const, gup_get, eq_self, reduceCtorEq, reduceIte, h1]
  refine ⟨by omega, kn _ _ ?_⟩
  try dsimp only [List.set_cons_zero, List.set_cons_succ]
  refine qAsg_i fun k kn => ?_
  simp only [eOp, eUn, eVar, eC, eTest, eTru, rTru, eCa, aNil, aCons, eTup, eLst, rInt, rIxd, rAdd, rIntOf, rStrOf, rLen, rTupOf, rLstOf, rEq, rIsN, rNeg, rMin, rMax, eIf, bAnd, bOr, bNot, bYes, eMtL, eMtL0, rAppend, rPop, rExtend, rInsert, rReverse, rClear, eGet1, eGet2, rGet, isDic, gNm, gsNil, gsCons, gTp, gSb, rSet, eSl, rSl, oNone, oSome, iAny, iRg1, iRg2, eLc, eDc, dwipe, CT.put, setMany, sNext, sBreak, sCont, sRetN, sNever, keyD, kD, List.getElem?_cons_zero, List.getElem?_cons_succ, List.set_cons_zero, List.set_cons_succ, List.length_cons, List.length_nil, List.cons_append, List.nil_append, atI_0, atI_1, atI_2, atI_3, atI_4, ixN_0, ixN_1, ixN_2, ixN_3, ofString_inj, String.reduceEq, decide_true, decide_false, decide_not, beq_self_eq_true, Bool.not_true, Bool.not_false, Bool.false_eq_true, Bool.true_eq_false, if_true, if_false, ite_true, ite_false, beq_t, beq_f, true_and, and_true, not_true_eq_false, not_false_eq_true, forall_const, gup_get, eq_self, reduceCtorEq, reduceIte, h1]
  refine ⟨cdiv hm hm2, kn _ _ ?_⟩
  simp only [eOp, eUn, eVar, eC, eTest, eTru, rTru, eCa, aNil, aCons, eTup, eLst, rInt, rIxd, rAdd, rIntOf, rStrOf, rLen, rTupOf, rLstOf, rEq, rIsN, rNeg, rMin, rMax, eIf, bAnd, bOr, bNot, bYes, eMtL, eMtL0, rAppend, rPop, rExtend, rInsert, rReverse, rClear, eGet1, eGet2, rGet, isDic, gNm, gsNil, gsCons, gTp, gSb, rSet, eSl, rSl, oNone, oSome, iAny, iRg1, iRg2, eLc, eDc, dwipe, CT.put, setMany, sNext, sBreak, sCont, sRetN, sNever, keyD, kD, List.getElem?_cons_zero, List.getElem?_cons_succ, List.set_cons_zero, List.set_cons_succ, List.length_cons, List.length_nil, List.cons_append, List.nil_append, atI_0, atI_1, atI_2, atI_3, atI_4, ixN_0, ixN_1, ixN_2, ixN_3, ofString_inj, String.reduceEq, decide_true, decide_false, decide_not, beq_self_eq_true, Bool.not_true, Bool.not_false, Bool.false_eq_true, Bool.true_eq_false, if_true, if_false, ite_true, ite_false, beq_t, beq_f, true_and, and_true, not_true_eq_false, not_false_eq_true, forall_const, gup_get, eq_self, reduceCtorEq, reduceIte, h1]
  refine sRet_i ?_
  simp only [eOp, eUn, eVar, eC, eTest, eTru, rTru, eCa, aNil, aCons, eTup, eLst, rInt, rIxd, rAdd, rIntOf, rStrOf, rLen, rTupOf, rLstOf, rEq, rIsN, rNeg, rMin, rMax, eIf, bAnd, bOr, bNot, bYes, eMtL, eMtL0, rAppend, rPop, rExtend, rInsert, rReverse, rClear, eGet1, eGet2, rGet, isDic, gNm, gsNil, gsCons, gTp, gSb, rSet, eSl, rSl, oNone, oSome, iAny, iRg1, iRg2, eLc, eDc, dwipe, CT.put, setMany, sNext, sBreak, sCont, sRetN, sNever, keyD, kD, List.getElem?_cons_zero, List.getElem?_cons_succ, List.set_cons_zero, List.set_cons_succ, List.length_cons, List.length_nil, List.cons_append, List.nil_append, atI_0, atI_1, atI_2, atI_3, atI_4, ixN_0, ixN_1, ixN_2, ixN_3, ofString_inj, String.reduceEq, decide_true, decide_false, decide_not, beq_self_eq_true, Bool.not_true, Bool.not_false, Bool.false_eq_true, Bool.true_eq_false, if_true, if_false, ite_true, ite_false, beq_t, beq_f, true_and, and_true, not_true_eq_false, not_false_eq_true, forall_const, gup_get, eq_self, reduceCtorEq, reduceIte, h1]
  exact q _ _ (fmod_in hm).1 (fmod_in hm).2 ⟨_, PoolR.put h2 h3 h4 h5 (fdiv_in hm h6) h7 h8⟩ but_gup
theorem sem_take (sp : DSp) (hsp : ∀ ds G Q, sp_digit ds G Q → sp ds G Q) {E : DEnds} {G : GP} {p c : Addr} {many : Int} (P : PoolAt G p c) (hm : 0 < many) (hm2 : many < 1073741824) (q : ∀ v G', 0 ≤ v → v < many → PoolAt G' p c → But p G G' → E.rt (.int v) G') :
    rd__law_take sp E (dstart n__law_take [.ref p, .int many]) G := by
  obtain ⟨rest, P⟩ := P
  by_cases hr : 0 < rest
  · exact sem_digit sp P hr hm hm2 q
  obtain ⟨cells, at_, seed, h1, h2, h3, h4, h5, h6, h7, h8⟩ := P
  show rd__law_take sp E [some (.ref p), some (.int many), none, none, none] G
  unfold rd__law_take
  refine qWhen_i fun k kt kf => ?_
  simp only [eOp, eUn, eVar, eC, eTest, eTru, rTru, eCa, aNil, aCons, eTup, eLst, rInt, rIxd, rAdd, rIntOf, rStrOf, rLen, rTupOf, rLstOf, rEq, rIsN, rNeg, rMin, rMax, eIf, bAnd, bOr, bNot, bYes, eMtL, eMtL0, rAppend, rPop, rExtend, rInsert, rReverse, rClear, eGet1, eGet2, rGet, isDic, gNm, gsNil, gsCons, gTp, gSb, rSet, eSl, rSl, oNone, oSome, iAny, iRg1, iRg2, eLc, eDc, dwipe, CT.put, setMany, sNext, sBreak, sCont, sRetN, sNever, keyD, kD, List.getElem?_cons_zero, List.getElem?_cons_succ, List.set_cons_zero, List.set_cons_succ, List.length_cons, List.length_nil, List.cons_append, List.nil_append, atI_0, atI_1, atI_2, atI_3, atI_4, ixN_0, ixN_1, ixN_2, ixN_3, ofString_inj, String.reduceEq, decide_true, decide_false, decide_not, beq_self_eq_true, Bool.not_true, Bool.not_false, Bool.false_eq_true, Bool.true_eq_false, if_true, if_false, ite_true, ite_false, beq_t, beq_f, true_and, and_true, not_true_eq_false, not_false_eq_true, forall_const, gup_get, eq_self, reduceCtorEq, reduceIte, h1]
  rw [decide_eq_false hr]
  refine kf _ ?_
  refine qSet_i fun k kn => ?_
  simp only [eOp, eUn, eVar, eC, eTest, eTru, rTru, eCa, aNil, aCons, eTup, eLst, rInt, rIxd, rAdd, rIntOf, rStrOf, rLen, rTupOf, rLstOf, rEq, rIsN, rNeg, rMin, rMax, eIf, bAnd, bOr, bNot, bYes, eMtL, eMtL0, rAppend, rPop, rExtend, rInsert, rReverse, rClear, eGet1, eGet2, rGet, isDic, gNm, gsNil, gsCons, gTp, gSb, rSet, eSl, rSl, oNone, oSome, iAny, iRg1, iRg2, eLc, eDc, dwipe, CT.put, setMany, sNext, sBreak, sCont, sRetN, sNever, keyD, kD, List.getElem?_cons_zero, List.getElem?_cons_succ, List.set_cons_zero, List.set_cons_succ, List.length_cons, List.length_nil, List.cons_append, List.nil_append, atI_0, atI_1, atI_2, atI_3, atI_4, ixN_0, ixN_1, ixN_2, ixN_3, ofString_inj, String.reduceEq, decide_true, decide_false, decide_not, beq_self_eq_true, Bool.not_true, Bool.not_false, Bool.false_eq_true, Bool.true_eq_false, if_true, if_false, ite_true, ite_false, beq_t, beq_f, true_and, and_true, not_true_eq_false, not_false_eq_true, forall_const, gup_get, eq_self, reduceCtorEq, reduceIte, h1]
  refine kn _ _ ?_
  try dsimp only [List.set_cons_zero, List.set_cons_succ]
  -- behind the reading of a cell
  have rest_ : ∀ cell : Int, 0 ≤ cell → sSeq (sAsg (eOp rAdd (eOp rIxd (eVar 0) (eC (.int 1))) (eC (.int 1))) (gSb (eVar 0) (eC (.int 1)))) (sSeq (sIf (eTest (eOp (rInt (fun _ _ => True) fun i j => .bl (decide (j ≤ i))) (eVar 2) (eOp (rInt CPow fun i j => .int (i ^ j.toNat)) (eC (.int 10)) (eC (.int 18))))) (sSeq (sAsg (eOp (rInt CDivN fun i j => .int (i.fdiv j)) (eVar 2) (eC (.int 2))) (gSb (eVar 0) (eC (.int 2)))) (sRet (eCa sp (aCons (eVar 0) (aCons (eVar 1) aNil))))) sNext) (sSeq (sAsg (eOp (rInt (fun _ j => j ≠ 0) fun i j => .int (i.fmod j)) (eCa rIntOf (aCons (eOp rAdd (eOp rAdd (eOp (rInt CMul fun i j => .int (i * j)) (eOp rIxd (eVar 0) (eC (.int 3))) (eC (.int 48271))) (eOp (rInt CMul fun i j => .int (i * j)) (eVar 2) (eC (.int 69621)))) (eOp (rInt CMul fun i j => .int (i * j)) (eOp rIxd (eVar 0) (eC (.int 1))) (eC (.int 613)))) aNil)) (eC (.int 2147483647))) (gSb (eVar 0) (eC (.int 3)))) (sSeq (sAsg (eOp (rInt (fun _ j => j ≠ 0) fun i j => .int (i.fmod j)) (eCa rIntOf (aCons (eOp rAdd (eOp rAdd (eOp (rInt CMul fun i j => .int (i * j)) (eOp rIxd (eVar 0) (eC (.int 3))) (eOp rIxd (eVar 0) (eC (.int 3)))) (eOp (rInt CMul fun i j => .int (i * j)) (eOp rIxd (eVar 0) (eC (.int 3))) (eC (.int 7919)))) (eC (.int 104729))) aNil)) (eC (.int 1000000007))) (gNm 3)) (sRet (eOp (rInt (fun _ j => j ≠ 0) fun i j => .int (i.fmod j)) (eCa rIntOf (aCons (eOp (rInt CDivN fun i j => .int (i.fdiv j)) (eVar 3) (eC (.int 3))) aNil)) (eVar 1)))))) E [some (.ref p), some (.int many), some (.int cell), none, none] G := by
    intro cell hc
    refine qAsg_i fun k kn => ?_
    simp only [eOp, eUn, eVar, eC, eTest, eTru, rTru, eCa, aNil, aCons, eTup, eLst, rInt, rIxd, rAdd, rIntOf, rStrOf, rLen, rTupOf, rLstOf, rEq, rIsN, rNeg, rMin, rMax, eIf, bAnd, bOr, bNot, bYes, eMtL, eMtL0, rAppend, rPop, rExtend, rInsert, rReverse, rClear, eGet1, eGet2, rGet, isDic, gNm, gsNil, gsCons, gTp, gSb, rSet, eSl, rSl, oNone, oSome, iAny, iRg1, iRg2, eLc, eDc, dwipe, CT.put, setMany, sNext, sBreak, sCont, sRetN, sNever, keyD, kD, List.getElem?_cons_zero, List.getElem?_cons_succ, List.set_cons_zero, List.set_cons_succ, List.length_cons, List.length_nil, List.cons_append, List.nil_append, atI_0, atI_1, atI_2, atI_3, atI_4, ixN_0, ixN_1, ixN_2, ixN_3, ofString_inj, String.reduceEq, decide_true, decide_false, decide_not, beq_self_eq_true, Bool.not_true, Bool.not_false, Bool.false_eq_true, Bool.true_eq_false, if_true, if_false, ite_true, ite_false, beq_t, beq_f, true_and, and_true, not_true_eq_false, not_false_eq_true, forall_const, gup_get, eq_self, reduceCtorEq, reduceIte, h1]
    refine kn _ _ ?_
    simp only [eOp, eUn, eVar, eC, eTest, eTru, rTru, eCa, aNil, aCons, eTup, eLst, rInt, rIxd, rAdd, rIntOf, rStrOf, rLen, rTupOf, rLstOf, rEq, rIsN, rNeg, rMin, rMax, eIf, bAnd, bOr, bNot, bYes, eMtL, eMtL0, rAppend, rPop, rExtend, rInsert, rReverse, rClear, eGet1, eGet2, rGet, isDic, gNm, gsNil, gsCons, gTp, gSb, rSet, eSl, rSl, oNone, oSome, iAny, iRg1, iRg2, eLc, eDc, dwipe, CT.put, setMany, sNext, sBreak, sCont, sRetN, sNever, keyD, kD, List.getElem?_cons_zero, List.getElem?_cons_succ, List.set_cons_zero, List.set_cons_succ, List.length_cons, List.length_nil, List.cons_append, List.nil_append, atI_0, atI_1, atI_2, atI_3, atI_4, ixN_0, ixN_1, ixN_2, ixN_3, ofString_inj, String.reduceEq, decide_true, decide_false, decide_not, beq_self_eq_true, Bool.not_true, Bool.not_false, Bool.false_eq_true, Bool.true_eq_false, if_true, if_false, ite_true, ite_false, beq_t, beq_f, true_and, and_true, not_true_eq_false, not_false_eq_true, forall_const, gup_get, eq_self, reduceCtorEq, reduceIte, h1]
    refine qWhen_i fun k kt kf => ?_
    simp only [eOp, eUn, eVar, eC, eTest, eTru, rTru, eCa, aNil, aCons, eTup, eLst, rInt, rIxd, rAdd, rIntOf, rStrOf, rLen, rTupOf, rLstOf, rEq, rIsN, rNeg, rMin, rMax, eIf, bAnd, bOr, bNot, bYes, eMtL, eMtL0, rAppend, rPop, rExtend, rInsert, rReverse, rClear, eGet1, eGet2, rGet, isDic, gNm, gsNil, gsCons, gTp, gSb, rSet, eSl, rSl, oNone, oSome, iAny, iRg1, iRg2, eLc, eDc, dwipe, CT.put, setMany, sNext, sBreak, sCont, sRetN, sNever, keyD, kD, List.getElem?_cons_zero, List.getElem?_cons_succ, List.set_cons_zero, List.set_cons_succ, List.length_cons, List.length_nil, List.cons_append, List.nil_append, atI_0, atI_1, atI_2, atI_3, atI_4, ixN_0, ixN_1, ixN_2, ixN_3, ofString_inj, String.reduceEq, decide_true, decide_false, decide_not, beq_self_eq_true, Bool.not_true, Bool.not_false, Bool.false_eq_true, Bool.true_eq_false, if_true, if_false, ite_true, ite_false, beq_t, beq_f, true_and, and_true, not_true_eq_false, not_false_eq_true, forall_const, gup_get, eq_self, reduceCtorEq, reduceIte]
    refine ⟨⟨by decide, by decide, by decide⟩, k_dec (fun c1 => kt _ ?_) (fun c1 => kf _ ?_)⟩
    · have c2 : 1000000000000000000 ≤ cell := c1
      refine qAsg_i fun k kn => ?_
      simp only [eOp, eUn, eVar, eC, eTest, eTru, rTru, eCa, aNil, aCons, eTup, eLst, rInt, rIxd, rAdd, rIntOf, rStrOf, rLen, rTupOf, rLstOf, rEq, rIsN, rNeg, rMin, rMax, eIf, bAnd, bOr, bNot, bYes, eMtL, eMtL0, rAppend, rPop, rExtend, rInsert, rReverse, rClear, eGet1, eGet2, rGet, isDic, gNm, gsNil, gsCons, gTp, gSb, rSet, eSl, rSl, oNone, oSome, iAny, iRg1, iRg2, eLc, eDc, dwipe, CT.put, setMany, sNext, sBreak, sCont, sRetN, sNever, keyD, kD, List.getElem?_cons_zero, List.getElem?_cons_succ, List.set_cons_zero, List.set_cons_succ, List.length_cons, List.length_nil, List.cons_append, List.nil_append, atI_0, atI_1, atI_2, atI_3, atI_4, ixN_0, ixN_1, ixN_2, ixN_3, ofString_inj, String.reduceEq, decide_true, decide_false, decide_not, beq_self_eq_true, Bool.not_true, Bool.not_false, Bool.false_eq_true, Bool.true_eq_false, if_true, if_false, ite_true, ite_false, beq_t, beq_f, true_and, and_true, not_true_eq_false, not_false_eq_true, forall_const, gup_get, eq_self, reduceCtorEq, reduceIte]
      refine ⟨⟨by decide, by decide⟩, kn _ _ ?_⟩
      simp only [eOp, eUn, eVar, eC, eTest, eTru, rTru, eCa, aNil, aCons, eTup, eLst, rInt, rIxd, rAdd, rIntOf, rStrOf, rLen, rTupOf, rLstOf, rEq, rIsN, rNeg, rMin, rMax, eIf, bAnd, bOr, bNot, bYes, eMtL, eMtL0, rAppend, rPop, rExtend, rInsert, rReverse, rClear, eGet1, eGet2, rGet, isDic, gNm, gsNil, gsCons, gTp, gSb, rSet, eSl, rSl, oNone, oSome, iAny, iRg1, iRg2, eLc, eDc, dwipe, CT.put, setMany, sNext, sBreak, sCont, sRetN, sNever, keyD, kD, List.getElem?_cons_zero, List.getElem?_cons_succ, List.set_cons_zero, List.set_cons_succ, List.length_cons, List.length_nil, List.cons_append, List.nil_append, atI_0, atI_1, atI_2, atI_3, atI_4, ixN_0, ixN_1, ixN_2, ixN_3, ofString_inj, String.reduceEq, decide_true, decide_false, decide_not, beq_self_eq_true, Bool.not_true, Bool.not_false, Bool.false_eq_true, Bool.true_eq_false, if_true, if_false, ite_true, ite_false, beq_t, beq_f, true_and, and_true, not_true_eq_false, not_false_eq_true, forall_const, gup_get, eq_self, reduceCtorEq, reduceIte, gup_gup]
      refine sRet_i ?_
      simp only [eOp, eUn, eVar, eC, eTest, eTru, rTru, eCa, aNil, aCons, eTup, eLst, rInt, rIxd, rAdd, rIntOf, rStrOf, rLen, rTupOf, rLstOf, rEq, rIsN, rNeg, rMin, rMax, eIf, bAnd, bOr, bNot, bYes, eMtL, eMtL0, rAppend, rPop, rExtend, rInsert, rReverse, rClear, eGet1, eGet2, rGet, isDic, gNm, gsNil, gsCons, gTp, gSb, rSet, eSl, rSl, oNone, oSome, iAny, iRg1, iRg2, eLc, eDc, dwipe, CT.put, setMany, sNext, sBreak, sCont, sRetN, sNever, keyD, kD, List.getElem?_cons_zero, List.getElem?_cons_succ, List.set_cons_zero, List.set_cons_succ, List.length_cons, List.length_nil, List.cons_append, List.nil_append, atI_0, atI_1, atI_2, atI_3, atI_4, ixN_0, ixN_1, ixN_2, ixN_3, ofString_inj, String.reduceEq, decide_true, decide_false, decide_not, beq_self_eq_true, Bool.not_true, Bool.not_false, Bool.false_eq_true, Bool.true_eq_false, if_true, if_false, ite_true, ite_false, beq_t, beq_f, true_and, and_true, not_true_eq_false, not_false_eq_true, forall_const, gup_get, eq_self, reduceCtorEq, reduceIte]
      refine hsp _ _ _ ⟨p, c, many, cell.fdiv 2, rfl, PoolR.put h2 h3 h4 (by omega) (fdiv_in (by decide) hc) h7 h8, ?_, hm, hm2, fun v G' a b c d => q v G' a b c ((but_gup).trans d)⟩
      rw [Int.fdiv_eq_ediv_of_nonneg _ (by decide)]
      omega
    · have c2 : ¬ 1000000000000000000 ≤ cell := c1
      refine qAsg_i fun k kn => ?_
      simp only [eOp, eUn, eVar, eC, eTest, eTru, rTru, eCa, aNil, aCons, eTup, eLst, rInt, rIxd, rAdd, rIntOf, rStrOf, rLen, rTupOf, rLstOf, rEq, rIsN, rNeg, rMin, rMax, eIf, bAnd, bOr, bNot, bYes, eMtL, eMtL0, rAppend, rPop, rExtend, rInsert, rReverse, rClear, eGet1, eGet2, rGet, isDic, gNm, gsNil, gsCons, gTp, gSb, rSet, eSl, rSl, oNone, oSome, iAny, iRg1, iRg2, eLc, eDc, dwipe, CT.put, setMany, sNext, sBreak, sCont, sRetN, sNever, keyD, kD, List.getElem?_cons_zero, List.getElem?_cons_succ, List.set_cons_zero, List.set_cons_succ, List.length_cons, List.length_nil, List.cons_append, List.nil_append, atI_0, atI_1, atI_2, atI_3, atI_4, ixN_0, ixN_1, ixN_2, ixN_3, ofString_inj, String.reduceEq, decide_true, decide_false, decide_not, beq_self_eq_true, Bool.not_true, Bool.not_false, Bool.false_eq_true, Bool.true_eq_false, if_true, if_false, ite_true, ite_false, beq_t, beq_f, true_and, and_true, not_true_eq_false, not_false_eq_true, forall_const, gup_get, eq_self, reduceCtorEq, reduceIte]
      refine ⟨.inr (by decide), .inr (by decide), .inr (by decide), by decide, kn _ _ ?_⟩
      simp only [eOp, eUn, eVar, eC, eTest, eTru, rTru, eCa, aNil, aCons, eTup, eLst, rInt, rIxd, rAdd, rIntOf, rStrOf, rLen, rTupOf, rLstOf, rEq, rIsN, rNeg, rMin, rMax, eIf, bAnd, bOr, bNot, bYes, eMtL, eMtL0, rAppend, rPop, rExtend, rInsert, rReverse, rClear, eGet1, eGet2, rGet, isDic, gNm, gsNil, gsCons, gTp, gSb, rSet, eSl, rSl, oNone, oSome, iAny, iRg1, iRg2, eLc, eDc, dwipe, CT.put, setMany, sNext, sBreak, sCont, sRetN, sNever, keyD, kD, List.getElem?_cons_zero, List.getElem?_cons_succ, List.set_cons_zero, List.set_cons_succ, List.length_cons, List.length_nil, List.cons_append, List.nil_append, atI_0, atI_1, atI_2, atI_3, atI_4, ixN_0, ixN_1, ixN_2, ixN_3, ofString_inj, String.reduceEq, decide_true, decide_false, decide_not, beq_self_eq_true, Bool.not_true, Bool.not_false, Bool.false_eq_true, Bool.true_eq_false, if_true, if_false, ite_true, ite_false, beq_t, beq_f, true_and, and_true, not_true_eq_false, not_false_eq_true, forall_const, gup_get, eq_self, reduceCtorEq, reduceIte, gup_gup]
      generalize hs : Int.fmod (seed * 48271 + cell * 69621 + (at_ + 1) * 613) 2147483647 = seed2
      have hs2 : 0 ≤ seed2 ∧ seed2 < 2147483647 := hs ▸ fmod_in (by decide)
      refine qSet_i fun k kn => ?_
      simp only [eOp, eUn, eVar, eC, eTest, eTru, rTru, eCa, aNil, aCons, eTup, eLst, rInt, rIxd, rAdd, rIntOf, rStrOf, rLen, rTupOf, rLstOf, rEq, rIsN, rNeg, rMin, rMax, eIf, bAnd, bOr, bNot, bYes, eMtL, eMtL0, rAppend, rPop, rExtend, rInsert, rReverse, rClear, eGet1, eGet2, rGet, isDic, gNm, gsNil, gsCons, gTp, gSb, rSet, eSl, rSl, oNone, oSome, iAny, iRg1, iRg2, eLc, eDc, dwipe, CT.put, setMany, sNext, sBreak, sCont, sRetN, sNever, keyD, kD, List.getElem?_cons_zero, List.getElem?_cons_succ, List.set_cons_zero, List.set_cons_succ, List.length_cons, List.length_nil, List.cons_append, List.nil_append, atI_0, atI_1, atI_2, atI_3, atI_4, ixN_0, ixN_1, ixN_2, ixN_3, ofString_inj, String.reduceEq, decide_true, decide_false, decide_not, beq_self_eq_true, Bool.not_true, Bool.not_false, Bool.false_eq_true, Bool.true_eq_false, if_true, if_false, ite_true, ite_false, beq_t, beq_f, true_and, and_true, not_true_eq_false, not_false_eq_true, forall_const, gup_get, eq_self, reduceCtorEq, reduceIte]
      refine ⟨.inr (by omega), .inr (by decide), by decide, kn _ _ ?_⟩
      try dsimp only [List.set_cons_zero, List.set_cons_succ]
      refine sRet_i ?_
      simp only [eOp, eUn, eVar, eC, eTest, eTru, rTru, eCa, aNil, aCons, eTup, eLst, rInt, rIxd, rAdd, rIntOf, rStrOf, rLen, rTupOf, rLstOf, rEq, rIsN, rNeg, rMin, rMax, eIf, bAnd, bOr, bNot, bYes, eMtL, eMtL0, rAppend, rPop, rExtend, rInsert, rReverse, rClear, eGet1, eGet2, rGet, isDic, gNm, gsNil, gsCons, gTp, gSb, rSet, eSl, rSl, oNone, oSome, iAny, iRg1, iRg2, eLc, eDc, dwipe, CT.put, setMany, sNext, sBreak, sCont, sRetN, sNever, keyD, kD, List.getElem?_cons_zero, List.getElem?_cons_succ, List.set_cons_zero, List.set_cons_succ, List.length_cons, List.length_nil, List.cons_append, List.nil_append, atI_0, atI_1, atI_2, atI_3, atI_4, ixN_0, ixN_1, ixN_2, ixN_3, ofString_inj, String.reduceEq, decide_true, decide_false, decide_not, beq_self_eq_true, Bool.not_true, Bool.not_false, Bool.false_eq_true, Bool.true_eq_false, if_true, if_false, ite_true, ite_false, beq_t, beq_f, true_and, and_true, not_true_eq_false, not_false_eq_true, forall_const, gup_get, eq_self, reduceCtorEq, reduceIte]
      refine ⟨⟨by decide, by decide⟩, by omega, ?_⟩
      exact q _ _ (fmod_in hm).1 (fmod_in hm).2 ⟨_, PoolR.put h2 h3 h4 (by omega) h6 hs2.1 hs2.2⟩ but_gup
  refine qWhen_i fun k kt kf => ?_
  simp only [eOp, eUn, eVar, eC, eTest, eTru, rTru, eCa, aNil, aCons, eTup, eLst, rInt, rIxd, rAdd, rIntOf, rStrOf, rLen, rTupOf, rLstOf, rEq, rIsN, rNeg, rMin, rMax, eIf, bAnd, bOr, bNot, bYes, eMtL, eMtL0, rAppend, rPop, rExtend, rInsert, rReverse, rClear, eGet1, eGet2, rGet, isDic, gNm, gsNil, gsCons, gTp, gSb, rSet, eSl, rSl, oNone, oSome, iAny, iRg1, iRg2, eLc, eDc, dwipe, CT.put, setMany, sNext, sBreak, sCont, sRetN, sNever, keyD, kD, List.getElem?_cons_zero, List.getElem?_cons_succ, List.set_cons_zero, List.set_cons_succ, List.length_cons, List.length_nil, List.cons_append, List.nil_append, atI_0, atI_1, atI_2, atI_3, atI_4, ixN_0, ixN_1, ixN_2, ixN_3, ofString_inj, String.reduceEq, decide_true, decide_false, decide_not, beq_self_eq_true, Bool.not_true, Bool.not_false, Bool.false_eq_true, Bool.true_eq_false, if_true, if_false, ite_true, ite_false, beq_t, beq_f, true_and, and_true, not_true_eq_false, not_false_eq_true, forall_const, gup_get, eq_self, reduceCtorEq, reduceIte, h1, h2]
  refine k_dec (fun c1 => kt _ ?_) (fun c1 => kf _ ?_)
  · have c2 : at_ < (cells.length : Int) := by simpa using c1
    refine sSet_i fun k kn => ?_
    simp only [eOp, eUn, eVar, eC, eTest, eTru, rTru, eCa, aNil, aCons, eTup, eLst, rInt, rIxd, rAdd, rIntOf, rStrOf, rLen, rTupOf, rLstOf, rEq, rIsN, rNeg, rMin, rMax, eIf, bAnd, bOr, bNot, bYes, eMtL, eMtL0, rAppend, rPop, rExtend, rInsert, rReverse, rClear, eGet1, eGet2, rGet, isDic, gNm, gsNil, gsCons, gTp, gSb, rSet, eSl, rSl, oNone, oSome, iAny, iRg1, iRg2, eLc, eDc, dwipe, CT.put, setMany, sNext, sBreak, sCont, sRetN, sNever, keyD, kD, List.getElem?_cons_zero, List.getElem?_cons_succ, List.set_cons_zero, List.set_cons_succ, List.length_cons, List.length_nil, List.cons_append, List.nil_append, atI_0, atI_1, atI_2, atI_3, atI_4, ixN_0, ixN_1, ixN_2, ixN_3, ofString_inj, String.reduceEq, decide_true, decide_false, decide_not, beq_self_eq_true, Bool.not_true, Bool.not_false, Bool.false_eq_true, Bool.true_eq_false, if_true, if_false, ite_true, ite_false, beq_t, beq_f, true_and, and_true, not_true_eq_false, not_false_eq_true, forall_const, gup_get, eq_self, reduceCtorEq, reduceIte, h1, h2]
    obtain ⟨x, hx⟩ : ∃ x, cells[at_.toNat]? = some x := ⟨cells[at_.toNat]'(by omega), List.getElem?_eq_getElem (by omega)⟩
    have e : atI (cells.map D.int) at_ = some (.int x) := by
      have := atI_nat (xs := cells.map D.int) (j := at_.toNat) (v := .int x) (by rw [List.getElem?_map, hx]; rfl)
      rwa [show ((at_.toNat : Nat) : Int) = at_ by omega] at this
    simp only [eOp, eUn, eVar, eC, eTest, eTru, rTru, eCa, aNil, aCons, eTup, eLst, rInt, rIxd, rAdd, rIntOf, rStrOf, rLen, rTupOf, rLstOf, rEq, rIsN, rNeg, rMin, rMax, eIf, bAnd, bOr, bNot, bYes, eMtL, eMtL0, rAppend, rPop, rExtend, rInsert, rReverse, rClear, eGet1, eGet2, rGet, isDic, gNm, gsNil, gsCons, gTp, gSb, rSet, eSl, rSl, oNone, oSome, iAny, iRg1, iRg2, eLc, eDc, dwipe, CT.put, setMany, sNext, sBreak, sCont, sRetN, sNever, keyD, kD, List.getElem?_cons_zero, List.getElem?_cons_succ, List.set_cons_zero, List.set_cons_succ, List.length_cons, List.length_nil, List.cons_append, List.nil_append, atI_0, atI_1, atI_2, atI_3, atI_4, ixN_0, ixN_1, ixN_2, ixN_3, ofString_inj, String.reduceEq, decide_true, decide_false, decide_not, beq_self_eq_true, Bool.not_true, Bool.not_false, Bool.false_eq_true, Bool.true_eq_false, if_true, if_false, ite_true, ite_false, beq_t, beq_f, true_and, and_true, not_true_eq_false, not_false_eq_true, forall_const, gup_get, eq_self, reduceCtorEq, reduceIte, e]
    refine kn _ _ ?_
    try dsimp only [List.set_cons_zero, List.set_cons_succ]
    exact rest_ x (h4 x (List.mem_of_getElem? hx))
  · exact rest_ 0 (by decide)
end Dn.My

namespace Dn.My
open PySem PySem.Spec PyProof.Rows L2 Dn

/-! ### terms -/
inductive Trm where
  | int (n : Int) | name (w : Str) | addr (n : Int) | mv (w : Str)
  | map (es : List (Str × Trm))
  | node (c : Str) (ts : List Trm)
inductive Sy where
  | sum (ps : List (Int × Int)) (n : Int) | name (w : Str) | addr (n : Int) | unk (u : Int)
  | map (es : List (Str × Sy))
  | node (c : Str) (ts : List Sy)
mutual
def Trm.toD : Trm → D
  | .int n => .tup [.str "int", .int n]
  | .name w => .tup [.str "name", .str w]
  | .addr n => .tup [.str "addr", .int n]
  | .mv w => .tup [.str "meta", .str w]
  | .map es => .tup [.str "map", .tup (Trm.esD es)]
  | .node c ts => .tup [.str "node", .str c, .tup (Trm.tsD ts)]
def Trm.esD : List (Str × Trm) → List D
  | [] => []
  | (w, t) :: es => .tup [.str w, t.toD] :: Trm.esD es
def Trm.tsD : List Trm → List D
  | [] => []
  | t :: ts => t.toD :: Trm.tsD ts
end
def psD (ps : List (Int × Int)) : List D := ps.map fun p => .tup [.int p.1, .int p.2]
mutual
def Sy.toD : Sy → D
  | .sum ps n => .tup [.str "sum", .tup (psD ps), .int n]
  | .name w => .tup [.str "name", .str w]
  | .addr n => .tup [.str "addr", .int n]
  | .unk u => .tup [.str "unknown", .int u]
  | .map es => .tup [.str "map", .non, .tup (Sy.esD es)]
  | .node c ts => .tup [.str "node", .str c, .tup (Sy.tsD ts)]
def Sy.esD : List (Str × Sy) → List D
  | [] => []
  | (w, t) :: es => .tup [.tup [.str "name", .str w], t.toD] :: Sy.esD es
def Sy.tsD : List Sy → List D
  | [] => []
  | t :: ts => t.toD :: Sy.tsD ts
end
mutual
def due (T : Str → Sy) : Trm → Sy
  | .int n => .sum [] n
  | .name w => .name w
  | .addr n => .addr n
  | .mv w => T w
  | .map es => .map (dueE T es)
  | .node c ts => .node c (dueS T ts)
def dueE (T : Str → Sy) : List (Str × Trm) → List (Str × Sy)
  | [] => []
  | (w, t) :: es => (w, due T t) :: dueE T es
def dueS (T : Str → Sy) : List Trm → List Sy
  | [] => []
  | t :: ts => due T t :: dueS T ts
end
-- the metavariables are all among those told
mutual
def Trm.all (p : Str → Prop) : Trm → Prop
  | .mv w => p w
  | .map es => Trm.allE p es
  | .node _ ts => Trm.allS p ts
  | _ => True
def Trm.allE (p : Str → Prop) : List (Str × Trm) → Prop
  | [] => True
  | (_, t) :: es => t.all p ∧ Trm.allE p es
def Trm.allS (p : Str → Prop) : List Trm → Prop
  | [] => True
  | t :: ts => t.all p ∧ Trm.allS p ts
end
-- a weight: two for a node or a map, one for anything else
mutual
def Trm.wt : Trm → Nat
  | .map es => 2 + Trm.wtE es
  | .node _ ts => 2 + Trm.wtS ts
  | _ => 1
def Trm.wtE : List (Str × Trm) → Nat
  | [] => 0
  | (_, t) :: es => t.wt + Trm.wtE es
def Trm.wtS : List Trm → Nat
  | [] => 0
  | t :: ts => t.wt + Trm.wtS ts
end
theorem Trm.wt_pos (t : Trm) : 1 ≤ t.wt := by cases t <;> simp [Trm.wt] <;> omega
theorem tsD_map : ∀ ts : List Trm, Trm.tsD ts = ts.map Trm.toD
  | [] => rfl
  | _ :: ts => by rw [Trm.tsD, tsD_map ts]; rfl
theorem esD_map : ∀ es : List (Str × Trm), Trm.esD es = es.map fun p => .tup [.str p.1, p.2.toD]
  | [] => rfl
  | (w, t) :: es => by rw [Trm.esD, esD_map es]; rfl
theorem sD_map : ∀ ts : List Sy, Sy.tsD ts = ts.map Sy.toD
  | [] => rfl
  | _ :: ts => by rw [Sy.tsD, sD_map ts]; rfl
theorem sE_map : ∀ es : List (Str × Sy), Sy.esD es = es.map fun p => .tup [.tup [.str "name", .str p.1], p.2.toD]
  | [] => rfl
  | (w, t) :: es => by rw [Sy.esD, sE_map es]; rfl
theorem dueS_map (T : Str → Sy) : ∀ ts : List Trm, dueS T ts = ts.map (due T)
  | [] => rfl
  | _ :: ts => by rw [dueS, dueS_map T ts]; rfl
theorem dueE_map (T : Str → Sy) : ∀ es : List (Str × Trm), dueE T es = es.map fun p => (p.1, due T p.2)
  | [] => rfl
  | (w, t) :: es => by rw [dueE, dueE_map T es]; rfl

/-! ### the heap grows -/
def Ext (G G' : GP) : Prop := ∀ a o, G a = some o → G' a = some o
theorem Ext.refl {G : GP} : Ext G G := fun _ _ h => h
theorem Ext.trans {G G' G'' : GP} (h : Ext G G') (h' : Ext G' G'') : Ext G G'' := fun a o e => h' a o (h a o e)
theorem ne_none {G : GP} {a p : Addr} {o : DO} (h : G a = some o) (hp : G p = none) : a ≠ p := fun e => by rw [e, hp] at h; cases h
theorem Ext.new {G : GP} {p : Addr} {o : DO} (hp : G p = none) : Ext G (gup G p o) := fun a u h => (gup_ne (ne_none h hp)).trans h
/-- a thing of one's own is changed -/
theorem Ext.put {G0 G : GP} {p : Addr} {o : DO} (h : Ext G0 G) (hp : G0 p = none) : Ext G0 (gup G p o) := fun a u e => (gup_ne (ne_none e hp)).trans (h a u e)

/-! ### integer, leaf -/
def sp_integer : DSp := fun ds G Q => ∃ n, ds = [.int n] ∧ Q (Sy.sum [] n).toD G
theorem sem_integer {E : DEnds} {G : GP} {n : Int} (q : E.rt (Sy.sum [] n).toD G) : rd_integer E (dstart n_integer [.int n]) G := by
  show rd_integer E [some (.int n)] G
  unfold rd_integer
  refine sRet_i ?_
  simp only [eOp, eUn, eVar, eC, eTest, eTru, rTru, eCa, aNil, aCons, eTup, eLst, rInt, rIxd, rAdd, rIntOf, rStrOf, rLen, rTupOf, rLstOf, rEq, rIsN, rNeg, rMin, rMax, eIf, bAnd, bOr, bNot, bYes, eMtL, eMtL0, rAppend, rPop, rExtend, rInsert, rReverse, rClear, eGet1, eGet2, rGet, isDic, gNm, gsNil, gsCons, gTp, gSb, rSet, eSl, rSl, oNone, oSome, iAny, iRg1, iRg2, eLc, eDc, dwipe, CT.put, setMany, sNext, sBreak, sCont, sRetN, sNever, keyD, kD, List.getElem?_cons_zero, List.getElem?_cons_succ, List.set_cons_zero, List.set_cons_succ, List.length_cons, List.length_nil, List.cons_append, List.nil_append, atI_0, atI_1, atI_2, atI_3, atI_4, ixN_0, ixN_1, ixN_2, ixN_3, ofString_inj, String.reduceEq, decide_true, decide_false, decide_not, beq_self_eq_true, Bool.not_true, Bool.not_false, Bool.false_eq_true, Bool.true_eq_false, if_true, if_false, ite_true, ite_false, beq_t, beq_f, true_and, and_true, not_true_eq_false, not_false_eq_true, forall_const, gup_get, eq_self, reduceCtorEq, reduceIte]
  refine ⟨by decide, by decide, q⟩
/-- the dict at tb tells the symbolic terms of these words -/
def Tab (G : GP) (tb : Addr) (T : Str → Sy) (p : Str → Prop) : Prop := ∃ kvs, G tb = some (.dic kvs) ∧ ∀ w, p w → dval kvs (Sum.inr w) = some (T w).toD
theorem Tab.ext {G G' : GP} {tb : Addr} {T : Str → Sy} {p : Str → Prop} (h : Tab G tb T p) (e : Ext G G') : Tab G' tb T p := let ⟨k, a, b⟩ := h; ⟨k, e _ _ a, b⟩
def isLeaf : Trm → Bool
  | .map _ => false
  | .node _ _ => false
  | _ => true
def sp_leaf : DSp := fun ds G Q => ∃ (t : Trm) (tb : Addr) (T : Str → Sy) (p : Str → Prop), ds = [t.toD, .ref tb] ∧ isLeaf t = true ∧ Tab G tb T p ∧ t.all p ∧ Q (due T t).toD G
theorem sem_leaf {E : DEnds} {G : GP} {t : Trm} {tb : Addr} {T : Str → Sy} {p : Str → Prop} (hl : isLeaf t = true) (tab : Tab G tb T p) (ha : t.all p) (q : E.rt (due T t).toD G) :
    rd_leaf sp_integer E (dstart n_leaf [t.toD, .ref tb]) G := by
  obtain ⟨kvs, h1, h2⟩ := tab
  show rd_leaf sp_integer E [some t.toD, some (.ref tb)] G
  unfold rd_leaf
  refine qWhen_i fun k kt kf => ?_
  cases t with
  | map es => simp [isLeaf] at hl
  | node c ts => simp [isLeaf] at hl
  | int n =>
    simp only [eOp, eUn, eVar, eC, eTest, eTru, rTru, eCa, aNil, aCons, eTup, eLst, rInt, rIxd, rAdd, rIntOf, rStrOf, rLen, rTupOf, rLstOf, rEq, rIsN, rNeg, rMin, rMax, eIf, bAnd, bOr, bNot, bYes, eMtL, eMtL0, rAppend, rPop, rExtend, rInsert, rReverse, rClear, eGet1, eGet2, rGet, isDic, gNm, gsNil, gsCons, gTp, gSb, rSet, eSl, rSl, oNone, oSome, iAny, iRg1, iRg2, eLc, eDc, dwipe, CT.put, setMany, sNext, sBreak, sCont, sRetN, sNever, keyD, kD, List.getElem?_cons_zero, List.getElem?_cons_succ, List.set_cons_zero, List.set_cons_succ, List.length_cons, List.length_nil, List.cons_append, List.nil_append, atI_0, atI_1, atI_2, atI_3, atI_4, ixN_0, ixN_1, ixN_2, ixN_3, ofString_inj, String.reduceEq, decide_true, decide_false, decide_not, beq_self_eq_true, Bool.not_true, Bool.not_false, Bool.false_eq_true, Bool.true_eq_false, if_true, if_false, ite_true, ite_false, beq_t, beq_f, true_and, and_true, not_true_eq_false, not_false_eq_true, forall_const, gup_get, eq_self, reduceCtorEq, reduceIte, Trm.toD]
    refine kt _ (sRet_i ?_)
    simp only [eOp, eUn, eVar, eC, eTest, eTru, rTru, eCa, aNil, aCons, eTup, eLst, rInt, rIxd, rAdd, rIntOf, rStrOf, rLen, rTupOf, rLstOf, rEq, rIsN, rNeg, rMin, rMax, eIf, bAnd, bOr, bNot, bYes, eMtL, eMtL0, rAppend, rPop, rExtend, rInsert, rReverse, rClear, eGet1, eGet2, rGet, isDic, gNm, gsNil, gsCons, gTp, gSb, rSet, eSl, rSl, oNone, oSome, iAny, iRg1, iRg2, eLc, eDc, dwipe, CT.put, setMany, sNext, sBreak, sCont, sRetN, sNever, keyD, kD, List.getElem?_cons_zero, List.getElem?_cons_succ, List.set_cons_zero, List.set_cons_succ, List.length_cons, List.length_nil, List.cons_append, List.nil_append, atI_0, atI_1, atI_2, atI_3, atI_4, ixN_0, ixN_1, ixN_2, ixN_3, ofString_inj, String.reduceEq, decide_true, decide_false, decide_not, beq_self_eq_true, Bool.not_true, Bool.not_false, Bool.false_eq_true, Bool.true_eq_false, if_true, if_false, ite_true, ite_false, beq_t, beq_f, true_and, and_true, not_true_eq_false, not_false_eq_true, forall_const, gup_get, eq_self, reduceCtorEq, reduceIte, Trm.toD]
    exact ⟨n, rfl, q⟩
  | name w =>
    simp only [eOp, eUn, eVar, eC, eTest, eTru, rTru, eCa, aNil, aCons, eTup, eLst, rInt, rIxd, rAdd, rIntOf, rStrOf, rLen, rTupOf, rLstOf, rEq, rIsN, rNeg, rMin, rMax, eIf, bAnd, bOr, bNot, bYes, eMtL, eMtL0, rAppend, rPop, rExtend, rInsert, rReverse, rClear, eGet1, eGet2, rGet, isDic, gNm, gsNil, gsCons, gTp, gSb, rSet, eSl, rSl, oNone, oSome, iAny, iRg1, iRg2, eLc, eDc, dwipe, CT.put, setMany, sNext, sBreak, sCont, sRetN, sNever, keyD, kD, List.getElem?_cons_zero, List.getElem?_cons_succ, List.set_cons_zero, List.set_cons_succ, List.length_cons, List.length_nil, List.cons_append, List.nil_append, atI_0, atI_1, atI_2, atI_3, atI_4, ixN_0, ixN_1, ixN_2, ixN_3, ofString_inj, String.reduceEq, decide_true, decide_false, decide_not, beq_self_eq_true, Bool.not_true, Bool.not_false, Bool.false_eq_true, Bool.true_eq_false, if_true, if_false, ite_true, ite_false, beq_t, beq_f, true_and, and_true, not_true_eq_false, not_false_eq_true, forall_const, gup_get, eq_self, reduceCtorEq, reduceIte, Trm.toD]
    refine kf _ (qWhen_i fun k kt kf => ?_)
    simp only [eOp, eUn, eVar, eC, eTest, eTru, rTru, eCa, aNil, aCons, eTup, eLst, rInt, rIxd, rAdd, rIntOf, rStrOf, rLen, rTupOf, rLstOf, rEq, rIsN, rNeg, rMin, rMax, eIf, bAnd, bOr, bNot, bYes, eMtL, eMtL0, rAppend, rPop, rExtend, rInsert, rReverse, rClear, eGet1, eGet2, rGet, isDic, gNm, gsNil, gsCons, gTp, gSb, rSet, eSl, rSl, oNone, oSome, iAny, iRg1, iRg2, eLc, eDc, dwipe, CT.put, setMany, sNext, sBreak, sCont, sRetN, sNever, keyD, kD, List.getElem?_cons_zero, List.getElem?_cons_succ, List.set_cons_zero, List.set_cons_succ, List.length_cons, List.length_nil, List.cons_append, List.nil_append, atI_0, atI_1, atI_2, atI_3, atI_4, ixN_0, ixN_1, ixN_2, ixN_3, ofString_inj, String.reduceEq, decide_true, decide_false, decide_not, beq_self_eq_true, Bool.not_true, Bool.not_false, Bool.false_eq_true, Bool.true_eq_false, if_true, if_false, ite_true, ite_false, beq_t, beq_f, true_and, and_true, not_true_eq_false, not_false_eq_true, forall_const, gup_get, eq_self, reduceCtorEq, reduceIte, Trm.toD]
    refine kf _ (sRet_i ?_)
    simp only [eOp, eUn, eVar, eC, eTest, eTru, rTru, eCa, aNil, aCons, eTup, eLst, rInt, rIxd, rAdd, rIntOf, rStrOf, rLen, rTupOf, rLstOf, rEq, rIsN, rNeg, rMin, rMax, eIf, bAnd, bOr, bNot, bYes, eMtL, eMtL0, rAppend, rPop, rExtend, rInsert, rReverse, rClear, eGet1, eGet2, rGet, isDic, gNm, gsNil, gsCons, gTp, gSb, rSet, eSl, rSl, oNone, oSome, iAny, iRg1, iRg2, eLc, eDc, dwipe, CT.put, setMany, sNext, sBreak, sCont, sRetN, sNever, keyD, kD, List.getElem?_cons_zero, List.getElem?_cons_succ, List.set_cons_zero, List.set_cons_succ, List.length_cons, List.length_nil, List.cons_append, List.nil_append, atI_0, atI_1, atI_2, atI_3, atI_4, ixN_0, ixN_1, ixN_2, ixN_3, ofString_inj, String.reduceEq, decide_true, decide_false, decide_not, beq_self_eq_true, Bool.not_true, Bool.not_false, Bool.false_eq_true, Bool.true_eq_false, if_true, if_false, ite_true, ite_false, beq_t, beq_f, true_and, and_true, not_true_eq_false, not_false_eq_true, forall_const, gup_get, eq_self, reduceCtorEq, reduceIte, Trm.toD]
    exact q
  | addr w =>
    simp only [eOp, eUn, eVar, eC, eTest, eTru, rTru, eCa, aNil, aCons, eTup, eLst, rInt, rIxd, rAdd, rIntOf, rStrOf, rLen, rTupOf, rLstOf, rEq, rIsN, rNeg, rMin, rMax, eIf, bAnd, bOr, bNot, bYes, eMtL, eMtL0, rAppend, rPop, rExtend, rInsert, rReverse, rClear, eGet1, eGet2, rGet, isDic, gNm, gsNil, gsCons, gTp, gSb, rSet, eSl, rSl, oNone, oSome, iAny, iRg1, iRg2, eLc, eDc, dwipe, CT.put, setMany, sNext, sBreak, sCont, sRetN, sNever, keyD, kD, List.getElem?_cons_zero, List.getElem?_cons_succ, List.set_cons_zero, List.set_cons_succ, List.length_cons, List.length_nil, List.cons_append, List.nil_append, atI_0, atI_1, atI_2, atI_3, atI_4, ixN_0, ixN_1, ixN_2, ixN_3, ofString_inj, String.reduceEq, decide_true, decide_false, decide_not, beq_self_eq_true, Bool.not_true, Bool.not_false, Bool.false_eq_true, Bool.true_eq_false, if_true, if_false, ite_true, ite_false, beq_t, beq_f, true_and, and_true, not_true_eq_false, not_false_eq_true, forall_const, gup_get, eq_self, reduceCtorEq, reduceIte, Trm.toD]
    refine kf _ (qWhen_i fun k kt kf => ?_)
    simp only [eOp, eUn, eVar, eC, eTest, eTru, rTru, eCa, aNil, aCons, eTup, eLst, rInt, rIxd, rAdd, rIntOf, rStrOf, rLen, rTupOf, rLstOf, rEq, rIsN, rNeg, rMin, rMax, eIf, bAnd, bOr, bNot, bYes, eMtL, eMtL0, rAppend, rPop, rExtend, rInsert, rReverse, rClear, eGet1, eGet2, rGet, isDic, gNm, gsNil, gsCons, gTp, gSb, rSet, eSl, rSl, oNone, oSome, iAny, iRg1, iRg2, eLc, eDc, dwipe, CT.put, setMany, sNext, sBreak, sCont, sRetN, sNever, keyD, kD, List.getElem?_cons_zero, List.getElem?_cons_succ, List.set_cons_zero, List.set_cons_succ, List.length_cons, List.length_nil, List.cons_append, List.nil_append, atI_0, atI_1, atI_2, atI_3, atI_4, ixN_0, ixN_1, ixN_2, ixN_3, ofString_inj, String.reduceEq, decide_true, decide_false, decide_not, beq_self_eq_true, Bool.not_true, Bool.not_false, Bool.false_eq_true, Bool.true_eq_false, if_true, if_false, ite_true, ite_false, beq_t, beq_f, true_and, and_true, not_true_eq_false, not_false_eq_true, forall_const, gup_get, eq_self, reduceCtorEq, reduceIte, Trm.toD]
    refine kf _ (sRet_i ?_)
    simp only [eOp, eUn, eVar, eC, eTest, eTru, rTru, eCa, aNil, aCons, eTup, eLst, rInt, rIxd, rAdd, rIntOf, rStrOf, rLen, rTupOf, rLstOf, rEq, rIsN, rNeg, rMin, rMax, eIf, bAnd, bOr, bNot, bYes, eMtL, eMtL0, rAppend, rPop, rExtend, rInsert, rReverse, rClear, eGet1, eGet2, rGet, isDic, gNm, gsNil, gsCons, gTp, gSb, rSet, eSl, rSl, oNone, oSome, iAny, iRg1, iRg2, eLc, eDc, dwipe, CT.put, setMany, sNext, sBreak, sCont, sRetN, sNever, keyD, kD, List.getElem?_cons_zero, List.getElem?_cons_succ, List.set_cons_zero, List.set_cons_succ, List.length_cons, List.length_nil, List.cons_append, List.nil_append, atI_0, atI_1, atI_2, atI_3, atI_4, ixN_0, ixN_1, ixN_2, ixN_3, ofString_inj, String.reduceEq, decide_true, decide_false, decide_not, beq_self_eq_true, Bool.not_true, Bool.not_false, Bool.false_eq_true, Bool.true_eq_false, if_true, if_false, ite_true, ite_false, beq_t, beq_f, true_and, and_true, not_true_eq_false, not_false_eq_true, forall_const, gup_get, eq_self, reduceCtorEq, reduceIte, Trm.toD]
    exact q
  | mv w =>
    simp only [eOp, eUn, eVar, eC, eTest, eTru, rTru, eCa, aNil, aCons, eTup, eLst, rInt, rIxd, rAdd, rIntOf, rStrOf, rLen, rTupOf, rLstOf, rEq, rIsN, rNeg, rMin, rMax, eIf, bAnd, bOr, bNot, bYes, eMtL, eMtL0, rAppend, rPop, rExtend, rInsert, rReverse, rClear, eGet1, eGet2, rGet, isDic, gNm, gsNil, gsCons, gTp, gSb, rSet, eSl, rSl, oNone, oSome, iAny, iRg1, iRg2, eLc, eDc, dwipe, CT.put, setMany, sNext, sBreak, sCont, sRetN, sNever, keyD, kD, List.getElem?_cons_zero, List.getElem?_cons_succ, List.set_cons_zero, List.set_cons_succ, List.length_cons, List.length_nil, List.cons_append, List.nil_append, atI_0, atI_1, atI_2, atI_3, atI_4, ixN_0, ixN_1, ixN_2, ixN_3, ofString_inj, String.reduceEq, decide_true, decide_false, decide_not, beq_self_eq_true, Bool.not_true, Bool.not_false, Bool.false_eq_true, Bool.true_eq_false, if_true, if_false, ite_true, ite_false, beq_t, beq_f, true_and, and_true, not_true_eq_false, not_false_eq_true, forall_const, gup_get, eq_self, reduceCtorEq, reduceIte, Trm.toD]
    refine kf _ (qWhen_i fun k kt kf => ?_)
    simp only [eOp, eUn, eVar, eC, eTest, eTru, rTru, eCa, aNil, aCons, eTup, eLst, rInt, rIxd, rAdd, rIntOf, rStrOf, rLen, rTupOf, rLstOf, rEq, rIsN, rNeg, rMin, rMax, eIf, bAnd, bOr, bNot, bYes, eMtL, eMtL0, rAppend, rPop, rExtend, rInsert, rReverse, rClear, eGet1, eGet2, rGet, isDic, gNm, gsNil, gsCons, gTp, gSb, rSet, eSl, rSl, oNone, oSome, iAny, iRg1, iRg2, eLc, eDc, dwipe, CT.put, setMany, sNext, sBreak, sCont, sRetN, sNever, keyD, kD, List.getElem?_cons_zero, List.getElem?_cons_succ, List.set_cons_zero, List.set_cons_succ, List.length_cons, List.length_nil, List.cons_append, List.nil_append, atI_0, atI_1, atI_2, atI_3, atI_4, ixN_0, ixN_1, ixN_2, ixN_3, ofString_inj, String.reduceEq, decide_true, decide_false, decide_not, beq_self_eq_true, Bool.not_true, Bool.not_false, Bool.false_eq_true, Bool.true_eq_false, if_true, if_false, ite_true, ite_false, beq_t, beq_f, true_and, and_true, not_true_eq_false, not_false_eq_true, forall_const, gup_get, eq_self, reduceCtorEq, reduceIte, Trm.toD]
    refine kt _ (sRet_i ?_)
    simp only [eOp, eUn, eVar, eC, eTest, eTru, rTru, eCa, aNil, aCons, eTup, eLst, rInt, rIxd, rAdd, rIntOf, rStrOf, rLen, rTupOf, rLstOf, rEq, rIsN, rNeg, rMin, rMax, eIf, bAnd, bOr, bNot, bYes, eMtL, eMtL0, rAppend, rPop, rExtend, rInsert, rReverse, rClear, eGet1, eGet2, rGet, isDic, gNm, gsNil, gsCons, gTp, gSb, rSet, eSl, rSl, oNone, oSome, iAny, iRg1, iRg2, eLc, eDc, dwipe, CT.put, setMany, sNext, sBreak, sCont, sRetN, sNever, keyD, kD, List.getElem?_cons_zero, List.getElem?_cons_succ, List.set_cons_zero, List.set_cons_succ, List.length_cons, List.length_nil, List.cons_append, List.nil_append, atI_0, atI_1, atI_2, atI_3, atI_4, ixN_0, ixN_1, ixN_2, ixN_3, ofString_inj, String.reduceEq, decide_true, decide_false, decide_not, beq_self_eq_true, Bool.not_true, Bool.not_false, Bool.false_eq_true, Bool.true_eq_false, if_true, if_false, ite_true, ite_false, beq_t, beq_f, true_and, and_true, not_true_eq_false, not_false_eq_true, forall_const, gup_get, eq_self, reduceCtorEq, reduceIte, Trm.toD, h1, h2 w ha]
    exact q
end Dn.My

namespace Dn.My
open PySem PySem.Spec PyProof.Rows L2 Dn

/-- all but what stands at m is kept -/
def Exb (m : Addr) (G G' : GP) : Prop := ∀ a o, a ≠ m → G a = some o → G' a = some o
theorem lcL_pure {sb : GP → Prop} {ct : CT} {te : DTE} {σ : DS} {G : GP} {f : D → D} : ∀ {xs acc : List D} {Q : List D → GP → Prop}, (∀ x ∈ xs, ∃ σ2, ct.put x σ = some σ2 ∧ ∀ k : DVK, k (f x) G → te σ2 G k) → sb G → acc.length + xs.length ≤ sizeLine →
    Q (acc ++ xs.map f) G → lcL sb ct bYes te σ Q xs acc G
  | [], acc, Q, _, hsb, _, q => ⟨hsb, by simpa using q⟩
  | x :: xs, acc, Q, h, hsb, hz, q => by
    obtain ⟨σ2, e, ht⟩ := h x List.mem_cons_self
    refine ⟨hsb, ?_⟩
    rw [e]
    show (if true = true then te σ2 G (fun y G4 => acc.length < sizeLine ∧ lcL sb ct bYes te σ Q xs (acc ++ [y]) G4) else lcL sb ct bYes te σ Q xs acc G)
    rw [if_pos rfl]
    refine ht _ ⟨by simp only [List.length_cons] at hz; omega, lcL_pure (f := f) (fun y hy => h y (List.mem_cons_of_mem _ hy)) hsb ?_ ?_⟩
    · simp only [List.length_append, List.length_cons, List.length_nil] at hz ⊢; omega
    · simpa using q
theorem dcut_from {xs : List D} {k : Nat} (h : k ≤ xs.length) : dcut xs (some (k : Int)) none = xs.drop k := by
  unfold dcut
  rw [HT.sIx_none, HT.sIx_nat, Nat.min_eq_left h]
  exact List.take_of_length_le (by simp)
def bres (head : Str) (ws : List Str) (c : Str) (inner : List D) : D :=
  if head = "node" then .tup [.str "node", .str c, .tup inner] else .tup [.str "map", .non, .tup (List.zipWith (fun w d => .tup [.tup [.str "name", .str w], d]) ws inner)]
def sp_built : DSp := fun ds G Q => ∃ (m : Addr) (rest inner : List D) (it res : D), ds = [.ref m, it] ∧ G m = some (.lst (rest ++ inner)) ∧ rest.length < sizeLine ∧
  ((∃ c : Str, it = .tup [.str "node", .str c, .int inner.length] ∧ res = .tup [.str "node", .str c, .tup inner]) ∨
   (∃ ws : List Str, it = .tup [.str "map", .tup (ws.map D.str), .int inner.length] ∧ ws.length = inner.length ∧ res = .tup [.str "map", .non, .tup (List.zipWith (fun w d => .tup [.tup [.str "name", .str w], d]) ws inner)])) ∧
  inner.length < sizeLine ∧ ∀ G', Exb m G G' → G' m = some (.lst (rest ++ [res])) → Q .non G'
theorem sem_built {E : DEnds} {G : GP} {m : Addr} {rest inner : List D} {it res : D} (hm : G m = some (.lst (rest ++ inner))) (hr : rest.length < sizeLine)
    (hi : (∃ c : Str, it = .tup [.str "node", .str c, .int inner.length] ∧ res = .tup [.str "node", .str c, .tup inner]) ∨
   (∃ ws : List Str, it = .tup [.str "map", .tup (ws.map D.str), .int inner.length] ∧ ws.length = inner.length ∧ res = .tup [.str "map", .non, .tup (List.zipWith (fun w d => .tup [.tup [.str "name", .str w], d]) ws inner)]))
    (hz : inner.length < sizeLine) (q : ∀ G', Exb m G G' → G' m = some (.lst (rest ++ [res])) → E.rt .non G') (qn : ∀ σ G', E.rt .non G' → E.nx σ G') :
    rd_built E (dstart n_built [.ref m, it]) G := by
  have key : ∀ (head : Str) (det : D), it = .tup [.str head, det, .int inner.length] → (head = "node" ∧ (∃ c : Str, det = .str c ∧ res = .tup [.str "node", .str c, .tup inner]) ∨ head = "map" ∧ ∃ ws : List Str, det = .tup (ws.map D.str) ∧ ws.length = inner.length ∧ res = .tup [.str "map", .non, .tup (List.zipWith (fun w d => .tup [.tup [.str "name", .str w], d]) ws inner)]) →
      rd_built E (dstart n_built [.ref m, it]) G := by
    intro head det hit hh
    subst hit
    show rd_built E [some (.ref m), some (.tup [.str head, det, .int inner.length]), none, none, none, none, none, none] G
    unfold rd_built
    refine qAsg_i fun k kn => ?_
    simp only [eOp, eUn, eVar, eC, eTest, eTru, rTru, eCa, aNil, aCons, eTup, eLst, rInt, rIxd, rAdd, rIntOf, rStrOf, rLen, rTupOf, rLstOf, rEq, rIsN, rNeg, rMin, rMax, eIf, bAnd, bOr, bNot, bYes, eMtL, eMtL0, rAppend, rPop, rExtend, rInsert, rReverse, rClear, eGet1, eGet2, rGet, isDic, gNm, gsNil, gsCons, gTp, gSb, rSet, eSl, rSl, oNone, oSome, iAny, iRg1, iRg2, eLc, eDc, dwipe, CT.put, setMany, sNext, sBreak, sCont, sRetN, sNever, keyD, kD, List.getElem?_cons_zero, List.getElem?_cons_succ, List.set_cons_zero, List.set_cons_succ, List.length_cons, List.length_nil, List.cons_append, List.nil_append, atI_0, atI_1, atI_2, atI_3, atI_4, ixN_0, ixN_1, ixN_2, ixN_3, ofString_inj, String.reduceEq, decide_true, decide_false, decide_not, beq_self_eq_true, Bool.not_true, Bool.not_false, Bool.false_eq_true, Bool.true_eq_false, if_true, if_false, ite_true, ite_false, beq_t, beq_f, true_and, and_true, not_true_eq_false, not_false_eq_true, forall_const, gup_get, eq_self, reduceCtorEq, reduceIte]
    refine kn _ _ ?_
    simp only [eOp, eUn, eVar, eC, eTest, eTru, rTru, eCa, aNil, aCons, eTup, eLst, rInt, rIxd, rAdd, rIntOf, rStrOf, rLen, rTupOf, rLstOf, rEq, rIsN, rNeg, rMin, rMax, eIf, bAnd, bOr, bNot, bYes, eMtL, eMtL0, rAppend, rPop, rExtend, rInsert, rReverse, rClear, eGet1, eGet2, rGet, isDic, gNm, gsNil, gsCons, gTp, gSb, rSet, eSl, rSl, oNone, oSome, iAny, iRg1, iRg2, eLc, eDc, dwipe, CT.put, setMany, sNext, sBreak, sCont, sRetN, sNever, keyD, kD, List.getElem?_cons_zero, List.getElem?_cons_succ, List.set_cons_zero, List.set_cons_succ, List.length_cons, List.length_nil, List.cons_append, List.nil_append, atI_0, atI_1, atI_2, atI_3, atI_4, ixN_0, ixN_1, ixN_2, ixN_3, ofString_inj, String.reduceEq, decide_true, decide_false, decide_not, beq_self_eq_true, Bool.not_true, Bool.not_false, Bool.false_eq_true, Bool.true_eq_false, if_true, if_false, ite_true, ite_false, beq_t, beq_f, true_and, and_true, not_true_eq_false, not_false_eq_true, forall_const, gup_get, eq_self, reduceCtorEq, reduceIte]
    refine qSet_i fun k kn => ?_
    simp only [eOp, eUn, eVar, eC, eTest, eTru, rTru, eCa, aNil, aCons, eTup, eLst, rInt, rIxd, rAdd, rIntOf, rStrOf, rLen, rTupOf, rLstOf, rEq, rIsN, rNeg, rMin, rMax, eIf, bAnd, bOr, bNot, bYes, eMtL, eMtL0, rAppend, rPop, rExtend, rInsert, rReverse, rClear, eGet1, eGet2, rGet, isDic, gNm, gsNil, gsCons, gTp, gSb, rSet, eSl, rSl, oNone, oSome, iAny, iRg1, iRg2, eLc, eDc, dwipe, CT.put, setMany, sNext, sBreak, sCont, sRetN, sNever, keyD, kD, List.getElem?_cons_zero, List.getElem?_cons_succ, List.set_cons_zero, List.set_cons_succ, List.length_cons, List.length_nil, List.cons_append, List.nil_append, atI_0, atI_1, atI_2, atI_3, atI_4, ixN_0, ixN_1, ixN_2, ixN_3, ofString_inj, String.reduceEq, decide_true, decide_false, decide_not, beq_self_eq_true, Bool.not_true, Bool.not_false, Bool.false_eq_true, Bool.true_eq_false, if_true, if_false, ite_true, ite_false, beq_t, beq_f, true_and, and_true, not_true_eq_false, not_false_eq_true, forall_const, gup_get, eq_self, reduceCtorEq, reduceIte, hm]
    have e1 : (((rest ++ inner).length : Nat) : Int) - ((inner.length : Nat) : Int) = (rest.length : Int) := by rw [List.length_append]; omega
    rw [e1]
    intro p hp
    have nmp : m ≠ p := ne_none hm hp
    rw [dcut_from (by rw [List.length_append]; omega), List.drop_left]
    refine kn _ _ ?_
    try dsimp only [List.set_cons_zero, List.set_cons_succ]
    have hm1 : gup G p (.lst inner) m = some (.lst (rest ++ inner)) := (gup_ne nmp).trans hm
    show sDelFrom _ _ { E with nx := _ } _ _
    unfold sDelFrom
    simp only [oSome]
    simp only [eOp, eUn, eVar, eC, eTest, eTru, rTru, eCa, aNil, aCons, eTup, eLst, rInt, rIxd, rAdd, rIntOf, rStrOf, rLen, rTupOf, rLstOf, rEq, rIsN, rNeg, rMin, rMax, eIf, bAnd, bOr, bNot, bYes, eMtL, eMtL0, rAppend, rPop, rExtend, rInsert, rReverse, rClear, eGet1, eGet2, rGet, isDic, gNm, gsNil, gsCons, gTp, gSb, rSet, eSl, rSl, oNone, oSome, iAny, iRg1, iRg2, eLc, eDc, dwipe, CT.put, setMany, sNext, sBreak, sCont, sRetN, sNever, keyD, kD, List.getElem?_cons_zero, List.getElem?_cons_succ, List.set_cons_zero, List.set_cons_succ, List.length_cons, List.length_nil, List.cons_append, List.nil_append, atI_0, atI_1, atI_2, atI_3, atI_4, ixN_0, ixN_1, ixN_2, ixN_3, ofString_inj, String.reduceEq, decide_true, decide_false, decide_not, beq_self_eq_true, Bool.not_true, Bool.not_false, Bool.false_eq_true, Bool.true_eq_false, if_true, if_false, ite_true, ite_false, beq_t, beq_f, true_and, and_true, not_true_eq_false, not_false_eq_true, forall_const, gup_get, eq_self, reduceCtorEq, reduceIte, nmp, hm]
    rw [e1]
    refine ⟨by omega, by rw [List.length_append]; omega, ?_⟩
    have e2 : (rest ++ inner).take ((rest.length : Int)).toNat = rest := by simp
    rw [e2]
    have hm2 : gup (gup G p (.lst inner)) m (.lst rest) m = some (.lst rest) := gup_same
    have hp2 : gup (gup G p (.lst inner)) m (.lst rest) p = some (.lst inner) := (gup_ne (Ne.symm nmp)).trans gup_same
    generalize hG2 : gup (gup G p (.lst inner)) m (.lst rest) = G2 at hm2 hp2
    have ex2 : Exb m G G2 := fun a o ha h => by rw [← hG2, gup_ne ha]; exact Ext.new hp a o h
    refine qWhen_i fun k kt kf => ?_
    simp only [eOp, eUn, eVar, eC, eTest, eTru, rTru, eCa, aNil, aCons, eTup, eLst, rInt, rIxd, rAdd, rIntOf, rStrOf, rLen, rTupOf, rLstOf, rEq, rIsN, rNeg, rMin, rMax, eIf, bAnd, bOr, bNot, bYes, eMtL, eMtL0, rAppend, rPop, rExtend, rInsert, rReverse, rClear, eGet1, eGet2, rGet, isDic, gNm, gsNil, gsCons, gTp, gSb, rSet, eSl, rSl, oNone, oSome, iAny, iRg1, iRg2, eLc, eDc, dwipe, CT.put, setMany, sNext, sBreak, sCont, sRetN, sNever, keyD, kD, List.getElem?_cons_zero, List.getElem?_cons_succ, List.set_cons_zero, List.set_cons_succ, List.length_cons, List.length_nil, List.cons_append, List.nil_append, atI_0, atI_1, atI_2, atI_3, atI_4, ixN_0, ixN_1, ixN_2, ixN_3, ofString_inj, String.reduceEq, decide_true, decide_false, decide_not, beq_self_eq_true, Bool.not_true, Bool.not_false, Bool.false_eq_true, Bool.true_eq_false, if_true, if_false, ite_true, ite_false, beq_t, beq_f, true_and, and_true, not_true_eq_false, not_false_eq_true, forall_const, gup_get, eq_self, reduceCtorEq, reduceIte]
    rcases hh with ⟨rfl, c, rfl, rfl⟩ | ⟨rfl, ws, rfl, hl, rfl⟩
    · simp only [eOp, eUn, eVar, eC, eTest, eTru, rTru, eCa, aNil, aCons, eTup, eLst, rInt, rIxd, rAdd, rIntOf, rStrOf, rLen, rTupOf, rLstOf, rEq, rIsN, rNeg, rMin, rMax, eIf, bAnd, bOr, bNot, bYes, eMtL, eMtL0, rAppend, rPop, rExtend, rInsert, rReverse, rClear, eGet1, eGet2, rGet, isDic, gNm, gsNil, gsCons, gTp, gSb, rSet, eSl, rSl, oNone, oSome, iAny, iRg1, iRg2, eLc, eDc, dwipe, CT.put, setMany, sNext, sBreak, sCont, sRetN, sNever, keyD, kD, List.getElem?_cons_zero, List.getElem?_cons_succ, List.set_cons_zero, List.set_cons_succ, List.length_cons, List.length_nil, List.cons_append, List.nil_append, atI_0, atI_1, atI_2, atI_3, atI_4, ixN_0, ixN_1, ixN_2, ixN_3, ofString_inj, String.reduceEq, decide_true, decide_false, decide_not, beq_self_eq_true, Bool.not_true, Bool.not_false, Bool.false_eq_true, Bool.true_eq_false, if_true, if_false, ite_true, ite_false, beq_t, beq_f, true_and, and_true, not_true_eq_false, not_false_eq_true, forall_const, gup_get, eq_self, reduceCtorEq, reduceIte]
      refine kt _ (qDrop_i fun k kn => ?_)
      simp only [eOp, eUn, eVar, eC, eTest, eTru, rTru, eCa, aNil, aCons, eTup, eLst, rInt, rIxd, rAdd, rIntOf, rStrOf, rLen, rTupOf, rLstOf, rEq, rIsN, rNeg, rMin, rMax, eIf, bAnd, bOr, bNot, bYes, eMtL, eMtL0, rAppend, rPop, rExtend, rInsert, rReverse, rClear, eGet1, eGet2, rGet, isDic, gNm, gsNil, gsCons, gTp, gSb, rSet, eSl, rSl, oNone, oSome, iAny, iRg1, iRg2, eLc, eDc, dwipe, CT.put, setMany, sNext, sBreak, sCont, sRetN, sNever, keyD, kD, List.getElem?_cons_zero, List.getElem?_cons_succ, List.set_cons_zero, List.set_cons_succ, List.length_cons, List.length_nil, List.cons_append, List.nil_append, atI_0, atI_1, atI_2, atI_3, atI_4, ixN_0, ixN_1, ixN_2, ixN_3, ofString_inj, String.reduceEq, decide_true, decide_false, decide_not, beq_self_eq_true, Bool.not_true, Bool.not_false, Bool.false_eq_true, Bool.true_eq_false, if_true, if_false, ite_true, ite_false, beq_t, beq_f, true_and, and_true, not_true_eq_false, not_false_eq_true, forall_const, gup_get, eq_self, reduceCtorEq, reduceIte, hm2, hp2]
      refine ⟨by decide, hr, kn _ _ ?_⟩
      exact q _ (fun a o ha h => (gup_ne ha).trans (ex2 a o ha h)) gup_same
    · simp only [eOp, eUn, eVar, eC, eTest, eTru, rTru, eCa, aNil, aCons, eTup, eLst, rInt, rIxd, rAdd, rIntOf, rStrOf, rLen, rTupOf, rLstOf, rEq, rIsN, rNeg, rMin, rMax, eIf, bAnd, bOr, bNot, bYes, eMtL, eMtL0, rAppend, rPop, rExtend, rInsert, rReverse, rClear, eGet1, eGet2, rGet, isDic, gNm, gsNil, gsCons, gTp, gSb, rSet, eSl, rSl, oNone, oSome, iAny, iRg1, iRg2, eLc, eDc, dwipe, CT.put, setMany, sNext, sBreak, sCont, sRetN, sNever, keyD, kD, List.getElem?_cons_zero, List.getElem?_cons_succ, List.set_cons_zero, List.set_cons_succ, List.length_cons, List.length_nil, List.cons_append, List.nil_append, atI_0, atI_1, atI_2, atI_3, atI_4, ixN_0, ixN_1, ixN_2, ixN_3, ofString_inj, String.reduceEq, decide_true, decide_false, decide_not, beq_self_eq_true, Bool.not_true, Bool.not_false, Bool.false_eq_true, Bool.true_eq_false, if_true, if_false, ite_true, ite_false, beq_t, beq_f, true_and, and_true, not_true_eq_false, not_false_eq_true, forall_const, gup_get, eq_self, reduceCtorEq, reduceIte]
      refine kf _ (qSet_i fun k kn => ?_)
      simp only [eOp, eUn, eVar, eC, eTest, eTru, rTru, eCa, aNil, aCons, eTup, eLst, rInt, rIxd, rAdd, rIntOf, rStrOf, rLen, rTupOf, rLstOf, rEq, rIsN, rNeg, rMin, rMax, eIf, bAnd, bOr, bNot, bYes, eMtL, eMtL0, rAppend, rPop, rExtend, rInsert, rReverse, rClear, eGet1, eGet2, rGet, isDic, gNm, gsNil, gsCons, gTp, gSb, rSet, eSl, rSl, oNone, oSome, iAny, iRg1, iRg2, eLc, eDc, dwipe, CT.put, setMany, sNext, sBreak, sCont, sRetN, sNever, keyD, kD, List.getElem?_cons_zero, List.getElem?_cons_succ, List.set_cons_zero, List.set_cons_succ, List.length_cons, List.length_nil, List.cons_append, List.nil_append, atI_0, atI_1, atI_2, atI_3, atI_4, ixN_0, ixN_1, ixN_2, ixN_3, ofString_inj, String.reduceEq, decide_true, decide_false, decide_not, beq_self_eq_true, Bool.not_true, Bool.not_false, Bool.false_eq_true, Bool.true_eq_false, if_true, if_false, ite_true, ite_false, beq_t, beq_f, true_and, and_true, not_true_eq_false, not_false_eq_true, forall_const, gup_get, eq_self, reduceCtorEq, reduceIte, hm2, hp2]
      have hsl : (inner.length : Int) < 2 ^ 62 := by have := sizeLine_eq; omega
      refine ⟨⟨by omega, hsl⟩, ?_⟩
      have fin : ((rngDs 0 ((inner.length : Int)).toNat).map fun d => match d with
          | .int i => D.tup [.tup [.str "name", (ws.map D.str)[i.toNat]?.getD .non], inner[i.toNat]?.getD .non]
          | _ => .non) = List.zipWith (fun w d => D.tup [.tup [.str "name", .str w], d]) ws inner := by
        apply List.ext_getElem?
        intro j
        rw [Int.toNat_natCast]
        unfold rngDs
        rw [List.map_map, List.getElem?_map, List.getElem?_zipWith]
        by_cases hj : j < inner.length
        · rw [List.getElem?_range hj, List.getElem?_eq_getElem hj, List.getElem?_eq_getElem (show j < ws.length by omega)]
          simp [hl, hj]
        · rw [List.getElem?_eq_none (by simpa using hj), List.getElem?_eq_none (show ws.length ≤ j by omega)]
          rfl
      refine lcL_pure (f := fun d => match d with
          | .int i => D.tup [.tup [.str "name", (ws.map D.str)[i.toNat]?.getD .non], inner[i.toNat]?.getD .non]
          | _ => .non) (fun x hx => ?_) trivial (by simp [rngDs]; omega) ?_
      · unfold rngDs at hx
        obtain ⟨j, hj, rfl⟩ := List.mem_map.mp hx
        have hj' : j < inner.length := by simpa using List.mem_range.mp hj
        refine ⟨_, rfl, fun k hk => ?_⟩
        have e3 : atI (ws.map D.str) (0 + (j : Int)) = some (.str (ws[j]'(by omega))) := by
          rw [Int.zero_add, atI_of_nat, List.getElem?_map, List.getElem?_eq_getElem (by omega)]; rfl
        have e4 : atI inner (0 + (j : Int)) = some inner[j] := by
          rw [Int.zero_add, atI_of_nat, List.getElem?_eq_getElem]
        simp only [eOp, eUn, eVar, eC, eTest, eTru, rTru, eCa, aNil, aCons, eTup, eLst, rInt, rIxd, rAdd, rIntOf, rStrOf, rLen, rTupOf, rLstOf, rEq, rIsN, rNeg, rMin, rMax, eIf, bAnd, bOr, bNot, bYes, eMtL, eMtL0, rAppend, rPop, rExtend, rInsert, rReverse, rClear, eGet1, eGet2, rGet, isDic, gNm, gsNil, gsCons, gTp, gSb, rSet, eSl, rSl, oNone, oSome, iAny, iRg1, iRg2, eLc, eDc, dwipe, CT.put, setMany, sNext, sBreak, sCont, sRetN, sNever, keyD, kD, List.getElem?_cons_zero, List.getElem?_cons_succ, List.set_cons_zero, List.set_cons_succ, List.length_cons, List.length_nil, List.cons_append, List.nil_append, atI_0, atI_1, atI_2, atI_3, atI_4, ixN_0, ixN_1, ixN_2, ixN_3, ofString_inj, String.reduceEq, decide_true, decide_false, decide_not, beq_self_eq_true, Bool.not_true, Bool.not_false, Bool.false_eq_true, Bool.true_eq_false, if_true, if_false, ite_true, ite_false, beq_t, beq_f, true_and, and_true, not_true_eq_false, not_false_eq_true, forall_const, gup_get, eq_self, reduceCtorEq, reduceIte, hp2, e3, e4]
        refine ⟨by decide, by decide, ?_⟩
        simpa [hj', hl] using hk
      · rw [fin]
        intro e he
        have nme : m ≠ e := ne_none hm2 he
        rw [List.nil_append]
        refine kn _ _ ?_
        try dsimp only [List.set_cons_zero, List.set_cons_succ]
        refine sDrop_i fun k kn => ?_
        simp only [eOp, eUn, eVar, eC, eTest, eTru, rTru, eCa, aNil, aCons, eTup, eLst, rInt, rIxd, rAdd, rIntOf, rStrOf, rLen, rTupOf, rLstOf, rEq, rIsN, rNeg, rMin, rMax, eIf, bAnd, bOr, bNot, bYes, eMtL, eMtL0, rAppend, rPop, rExtend, rInsert, rReverse, rClear, eGet1, eGet2, rGet, isDic, gNm, gsNil, gsCons, gTp, gSb, rSet, eSl, rSl, oNone, oSome, iAny, iRg1, iRg2, eLc, eDc, dwipe, CT.put, setMany, sNext, sBreak, sCont, sRetN, sNever, keyD, kD, List.getElem?_cons_zero, List.getElem?_cons_succ, List.set_cons_zero, List.set_cons_succ, List.length_cons, List.length_nil, List.cons_append, List.nil_append, atI_0, atI_1, atI_2, atI_3, atI_4, ixN_0, ixN_1, ixN_2, ixN_3, ofString_inj, String.reduceEq, decide_true, decide_false, decide_not, beq_self_eq_true, Bool.not_true, Bool.not_false, Bool.false_eq_true, Bool.true_eq_false, if_true, if_false, ite_true, ite_false, beq_t, beq_f, true_and, and_true, not_true_eq_false, not_false_eq_true, forall_const, gup_get, eq_self, reduceCtorEq, reduceIte, nme, hm2]
        refine ⟨by decide, hr, kn _ _ (qn _ _ ?_)⟩
        refine q _ (fun a o ha h => (gup_ne ha).trans (Ext.new he a o (ex2 a o ha h))) gup_same
  rcases hi with ⟨c, e1, e2⟩ | ⟨ws, e1, e2, e3⟩
  · exact key "node" (.str c) e1 (.inl ⟨rfl, c, rfl, e2⟩)
  · exact key "map" _ e1 (.inr ⟨rfl, ws, rfl, e2, e3⟩)
end Dn.My

namespace Dn.My
open PySem PySem.Spec PyProof.Rows L2 Dn

/-! ### symbolic: a stack of what is to be done -/
inductive Ins where
  | term (t : Trm)
  | bnode (c : Str) (n : Nat)
  | bmap (ws : List Str)
def Ins.toD : Ins → D
  | .term t => .tup [.str "term", t.toD]
  | .bnode c n => .tup [.str "build", .tup [.str "node", .str c, .int n]]
  | .bmap ws => .tup [.str "build", .tup [.str "map", .tup (ws.map D.str), .int ws.length]]
def Ins.wt : Ins → Nat
  | .term t => t.wt
  | _ => 1
def wts (is : List Ins) : Nat := (is.map Ins.wt).sum
/-- what the stacks come to; the topmost first -/
def runI (T : Str → Sy) : List Ins → List Sy → Option (List Sy)
  | [], made => some made
  | .term t :: is, made => runI T is (due T t :: made)
  | .bnode c n :: is, made => if n ≤ made.length then runI T is (.node c (made.take n).reverse :: made.drop n) else none
  | .bmap ws :: is, made => if ws.length ≤ made.length then runI T is (.map (List.zip ws (made.take ws.length).reverse) :: made.drop ws.length) else none
theorem runI_terms (T : Str → Sy) : ∀ (ts : List Trm) (is : List Ins) (made : List Sy), runI T (ts.map Ins.term ++ is) made = runI T is ((ts.map (due T)).reverse ++ made)
  | [], is, made => by simp
  | t :: ts, is, made => by
    simp only [List.map_cons, List.cons_append, runI, List.reverse_cons, List.append_assoc, List.nil_append]
    exact runI_terms T ts is _
theorem runI_node (T : Str → Sy) (c : Str) (ts : List Trm) (is : List Ins) (made : List Sy) :
    runI T (ts.map Ins.term ++ .bnode c ts.length :: is) made = runI T (.term (.node c ts) :: is) made := by
  rw [runI_terms]
  simp only [runI]
  rw [if_pos (by simp)]
  have e1 : (((ts.map (due T)).reverse ++ made).take ts.length).reverse = dueS T ts := by
    rw [List.take_left' (by simp), List.reverse_reverse, dueS_map]
  have e2 : (((ts.map (due T)).reverse ++ made).drop ts.length) = made := List.drop_left' (by simp)
  rw [e1, e2, due]
theorem runI_map (T : Str → Sy) (es : List (Str × Trm)) (is : List Ins) (made : List Sy) :
    runI T ((es.map (·.2)).map Ins.term ++ .bmap (es.map (·.1)) :: is) made = runI T (.term (.map es) :: is) made := by
  rw [runI_terms]
  simp only [runI]
  rw [if_pos (by simp)]
  have e1 : (((((es.map (·.2)).map (due T)).reverse ++ made).take (es.map (·.1)).length).reverse) = (es.map (·.2)).map (due T) := by
    rw [List.take_left' (by simp), List.reverse_reverse]
  have e2 : ((((es.map (·.2)).map (due T)).reverse ++ made).drop (es.map (·.1)).length) = made := List.drop_left' (by simp)
  rw [e1, e2, due, dueE_map]
  congr 3
  induction es with
  | nil => rfl
  | cons p es ih => simp only [List.map_cons, List.zip_cons_cons]; rw [ih (by simp) (by simp)]
theorem wts_cons (i : Ins) (is : List Ins) : wts (i :: is) = i.wt + wts is := by simp [wts]
theorem wts_append (is js : List Ins) : wts (is ++ js) = wts is + wts js := by simp [wts]
theorem wtS_sum : ∀ ts : List Trm, Trm.wtS ts = wts (ts.map Ins.term)
  | [] => rfl
  | t :: ts => by rw [Trm.wtS, wtS_sum ts, List.map_cons, wts_cons]; rfl
theorem wtE_sum : ∀ es : List (Str × Trm), Trm.wtE es = wts ((es.map (·.2)).map Ins.term)
  | [] => rfl
  | (w, t) :: es => by rw [Trm.wtE, wtE_sum es, List.map_cons, List.map_cons, wts_cons]; rfl
theorem len_wts : ∀ is : List Ins, is.length ≤ wts is
  | [] => Nat.zero_le _
  | i :: is => by
    rw [wts_cons, List.length_cons]
    have := len_wts is
    have : 1 ≤ i.wt := by cases i <;> simp [Ins.wt]; exact Trm.wt_pos _
    omega
def Ins.all (p : Str → Prop) : Ins → Prop
  | .term t => t.all p
  | _ => True
theorem allS_iff (p : Str → Prop) : ∀ ts : List Trm, Trm.allS p ts ↔ ∀ t ∈ ts, t.all p
  | [] => by simp [Trm.allS]
  | t :: ts => by simp [Trm.allS, allS_iff p ts]
theorem allE_iff (p : Str → Prop) : ∀ es : List (Str × Trm), Trm.allE p es ↔ ∀ e ∈ es, e.2.all p
  | [] => by simp [Trm.allE]
  | (w, t) :: es => by simp [Trm.allE, allE_iff p es]
def stk {α : Type} (f : α → D) (xs : List α) : List D := (xs.map f).reverse
theorem stk_cons {α : Type} (f : α → D) (x : α) (xs : List α) : stk f (x :: xs) = stk f xs ++ [f x] := by simp [stk]
theorem rPop_stk {α : Type} {f : α → D} {x : α} {xs : List α} {a : Addr} {G : GP} {Q : DVK} (h : G a = some (.lst (stk f (x :: xs)))) (q : Q (f x) (gup G a (.lst (stk f xs)))) : rPop (.ref a) [] G Q := by
  have e1 : (stk f (x :: xs))[(stk f (x :: xs)).length - 1]? = some (f x) := by rw [stk_cons]; simp
  have e2 : (stk f (x :: xs)).dropLast = stk f xs := by rw [stk_cons]; simp
  simp only [rPop, h, e1, e2]
  exact q
/-- a loop that appends what it makes of each item -/
theorem forL_push {sb : GP → Prop} {g : DTG} {tb : DTS} {E : DEnds} {a : Addr} (f : D → D) (i : Nat) (K : List D → DS → GP → Prop)
    (turn : ∀ (x : D) (xs ys : List D) (σ : DS) (G : GP) (k : DS → GP → Prop), G a = some (.lst ys) → K (x :: xs) σ G → ys.length < sizeLine → (∀ σ', K xs σ' (gup G a (.lst (ys ++ [f x]))) → k σ' (gup G a (.lst (ys ++ [f x])))) → sb G ∧ g x σ G fun σ2 G2 => tb { E with nx := k, ct := k, bk := E.nx } σ2 G2)
    (fin : ∀ σ G, K [] σ G → sb G ∧ E.nx σ G) : ∀ (xs ys : List D) (σ : DS) (G : GP), G a = some (.lst ys) → K xs σ G → ys.length + xs.length ≤ sizeLine → forL sb g tb E xs σ G
  | [], ys, σ, G, h, k, _ => fin σ G k
  | x :: xs, ys, σ, G, h, k, hz => turn x xs ys σ G _ h k (by simp only [List.length_cons] at hz; omega) fun σ' k' => forL_push f i K turn fin xs (ys ++ [f x]) σ' _ gup_same k' (by simp only [List.length_append, List.length_cons, List.length_nil] at hz ⊢; omega)
end Dn.My

namespace Dn.My
open PySem PySem.Spec PyProof.Rows L2 Dn

theorem forL_rule {sb : GP → Prop} {g : DTG} {tb : DTS} {E : DEnds} {I : List D → DS → GP → Prop}
    (turn : ∀ (x : D) (xs : List D) (σ : DS) (G : GP) (k : DS → GP → Prop), I (x :: xs) σ G → (∀ σ' G', I xs σ' G' → k σ' G') → sb G ∧ g x σ G fun σ2 G2 => tb { E with nx := k, ct := k, bk := E.nx } σ2 G2)
    (fin : ∀ σ G, I [] σ G → sb G ∧ E.nx σ G) : ∀ (xs : List D) (σ : DS) (G : GP), I xs σ G → forL sb g tb E xs σ G
  | [], σ, G, h => fin σ G h
  | x :: xs, σ, G, h => turn x xs σ G _ h fun σ' G' h' => forL_rule turn fin xs σ' G' h'
theorem sWhile_i {c : DTT} {tb : DTS} {E : DEnds} {σ : DS} {G : GP} (W : Nat → DS → GP → Prop) {m : Nat} (h0 : W m σ G)
    (h : ∀ m σ G (k1 : DS → GP → Prop) (k : Bool → GP → Prop), W m σ G → (∀ m' σ' G', m' < m → W m' σ' G' → k1 σ' G') → (∀ G1, tb { E with nx := k1, ct := k1, bk := E.nx } σ G1 → k true G1) → (∀ G1, E.nx σ G1 → k false G1) → c σ G k) : sWhile c tb E σ G := by
  refine ⟨W, ⟨m, h0⟩, fun m σ G w => ?_⟩
  refine h m σ G (fun σ' G' => ∃ m', m' < m ∧ W m' σ' G') _ w (fun m' σ' G' l w' => ?_) (fun _ q => ?_) fun _ q => ?_
  · exact ⟨m', l, w'⟩
  · rw [if_pos rfl]; exact q
  · rw [if_neg (by decide)]; exact q
theorem qWhile_i {c : DTT} {tb u : DTS} {E : DEnds} {σ : DS} {G : GP} (W : Nat → DS → GP → Prop) {m : Nat} (h0 : W m σ G)
    (h : ∀ m σ G (k1 : DS → GP → Prop) (k : Bool → GP → Prop), W m σ G → (∀ m' σ' G', m' < m → W m' σ' G' → k1 σ' G') → (∀ G1, tb { E with nx := k1, ct := k1, bk := u E } σ G1 → k true G1) → (∀ G1, u E σ G1 → k false G1) → c σ G k) : sSeq (sWhile c tb) u E σ G :=
  sWhile_i (E := { E with nx := u E }) W h0 h
theorem gTp2_i {i j : Nat} {a b : D} {σ : DS} {G : GP} {k : DS → GP → Prop} (h : k ((σ.set i (some a)).set j (some b)) G) : gTp 2 (gsCons (gNm i) (gsCons (gNm j) gsNil)) (.tup [a, b]) σ G k := by
  simp only [eOp, eUn, eVar, eC, eTest, eTru, rTru, eCa, aNil, aCons, eTup, eLst, rInt, rIxd, rAdd, rIntOf, rStrOf, rLen, rTupOf, rLstOf, rEq, rIsN, rNeg, rMin, rMax, eIf, bAnd, bOr, bNot, bYes, eMtL, eMtL0, rAppend, rPop, rExtend, rInsert, rReverse, rClear, eGet1, eGet2, rGet, isDic, gNm, gsNil, gsCons, gTp, gSb, rSet, eSl, rSl, oNone, oSome, iAny, iRg1, iRg2, eLc, eDc, dwipe, CT.put, setMany, sNext, sBreak, sCont, sRetN, sNever, keyD, kD, List.getElem?_cons_zero, List.getElem?_cons_succ, List.set_cons_zero, List.set_cons_succ, List.length_cons, List.length_nil, List.cons_append, List.nil_append, atI_0, atI_1, atI_2, atI_3, atI_4, ixN_0, ixN_1, ixN_2, ixN_3, ofString_inj, String.reduceEq, decide_true, decide_false, decide_not, beq_self_eq_true, Bool.not_true, Bool.not_false, Bool.false_eq_true, Bool.true_eq_false, if_true, if_false, ite_true, ite_false, beq_t, beq_f, true_and, and_true, not_true_eq_false, not_false_eq_true, forall_const, gup_get, eq_self, reduceCtorEq, reduceIte]
  exact h
theorem stk_empty {α : Type} {f : α → D} {xs : List α} : (!(stk f xs).isEmpty) = (!xs.isEmpty) := by cases xs <;> simp [stk]
theorem stk_app {α : Type} (f : α → D) (xs ys : List α) : stk f (xs ++ ys) = stk f ys ++ (xs.map f).reverse := by simp [stk]
theorem push_loop {α : Type} {S : DS → Prop} {g : DTG} {E : DEnds} {sb : GP → Prop} {J : GP → Prop} {w : Addr} (item : α → D) (tm : α → Trm) (hS : ∀ σ, S σ → σ[3]? = some (some (.ref w)))
    (hg : ∀ u σ G (k : DS → GP → Prop), S σ → (∀ σ2, S σ2 → σ2[6]? = some (some (tm u).toD) → k σ2 G) → g (item u) σ G k) (hJ : ∀ G o, J G → J (gup G w o)) (hsb : ∀ G, J G → sb G) :
    ∀ (rs : List α) (st : List Ins) (σ : DS) (G : GP), S σ → J G → G w = some (.lst (stk Ins.toD st)) → st.length + rs.length ≤ sizeLine →
      (∀ σ G, S σ → J G → G w = some (.lst (stk Ins.toD ((rs.map fun u => Ins.term (tm u)).reverse ++ st))) → E.nx σ G) →
      forL sb g (sDrop (eMtL rAppend (eVar 3) (aCons (eTup (aCons (eC (.str "term")) (aCons (eVar 6) aNil))) aNil))) E (rs.map item) σ G
  | [], st, σ, G, hs, hj, hw, _, q => ⟨hsb _ hj, q _ _ hs hj (by simpa using hw)⟩
  | u :: rs, st, σ, G, hs, hj, hw, hz, q => by
    refine ⟨hsb _ hj, hg u σ G _ hs fun σ2 hs2 h6 => ?_⟩
    refine sDrop_i fun k kn => ?_
    simp only [List.length_cons] at hz
    simp only [eOp, eUn, eVar, eC, eTest, eTru, rTru, eCa, aNil, aCons, eTup, eLst, rInt, rIxd, rAdd, rIntOf, rStrOf, rLen, rTupOf, rLstOf, rEq, rIsN, rNeg, rMin, rMax, eIf, bAnd, bOr, bNot, bYes, eMtL, eMtL0, rAppend, rPop, rExtend, rInsert, rReverse, rClear, eGet1, eGet2, rGet, isDic, gNm, gsNil, gsCons, gTp, gSb, rSet, eSl, rSl, oNone, oSome, iAny, iRg1, iRg2, eLc, eDc, dwipe, CT.put, setMany, sNext, sBreak, sCont, sRetN, sNever, keyD, kD, List.getElem?_cons_zero, List.getElem?_cons_succ, List.set_cons_zero, List.set_cons_succ, List.length_cons, List.length_nil, List.cons_append, List.nil_append, atI_0, atI_1, atI_2, atI_3, atI_4, ixN_0, ixN_1, ixN_2, ixN_3, ofString_inj, String.reduceEq, decide_true, decide_false, decide_not, beq_self_eq_true, Bool.not_true, Bool.not_false, Bool.false_eq_true, Bool.true_eq_false, if_true, if_false, ite_true, ite_false, beq_t, beq_f, true_and, and_true, not_true_eq_false, not_false_eq_true, forall_const, gup_get, eq_self, reduceCtorEq, reduceIte, hS _ hs2, h6, hw]
    refine ⟨by decide, by simp [stk]; omega, kn _ _ ?_⟩
    refine push_loop item tm hS hg hJ hsb rs (Ins.term (tm u) :: st) σ2 _ hs2 (hJ _ _ hj) ?_ (by simp only [List.length_cons]; omega) fun σ3 G3 hs3 hj3 h => q _ _ hs3 hj3 (by simpa using h)
    rw [gup_same, stk_cons]
    rfl
def sp_symbolic : DSp := fun ds G Q => ∃ (t : Trm) (tb : Addr) (T : Str → Sy) (p : Str → Prop), ds = [t.toD, .ref tb] ∧ Tab G tb T p ∧ t.all p ∧ t.wt < sizeLine ∧ ∀ G', Ext G G' → Q (due T t).toD G'
theorem sem_symbolic {E : DEnds} {G0 : GP} {t : Trm} {tb : Addr} {T : Str → Sy} {p : Str → Prop} (tab : Tab G0 tb T p) (ha : t.all p) (hz : t.wt < sizeLine) (q : ∀ G', Ext G0 G' → E.rt (due T t).toD G') :
    rd_symbolic sp_built sp_leaf E (dstart n_symbolic [t.toD, .ref tb]) G0 := by
  show rd_symbolic sp_built sp_leaf E [some t.toD, some (.ref tb), none, none, none, none, none, none, none] G0
  unfold rd_symbolic
  refine qSet_i fun k kn => ?_
  simp only [eOp, eUn, eVar, eC, eTest, eTru, rTru, eCa, aNil, aCons, eTup, eLst, rInt, rIxd, rAdd, rIntOf, rStrOf, rLen, rTupOf, rLstOf, rEq, rIsN, rNeg, rMin, rMax, eIf, bAnd, bOr, bNot, bYes, eMtL, eMtL0, rAppend, rPop, rExtend, rInsert, rReverse, rClear, eGet1, eGet2, rGet, isDic, gNm, gsNil, gsCons, gTp, gSb, rSet, eSl, rSl, oNone, oSome, iAny, iRg1, iRg2, eLc, eDc, dwipe, CT.put, setMany, sNext, sBreak, sCont, sRetN, sNever, keyD, kD, List.getElem?_cons_zero, List.getElem?_cons_succ, List.set_cons_zero, List.set_cons_succ, List.length_cons, List.length_nil, List.cons_append, List.nil_append, atI_0, atI_1, atI_2, atI_3, atI_4, ixN_0, ixN_1, ixN_2, ixN_3, ofString_inj, String.reduceEq, decide_true, decide_false, decide_not, beq_self_eq_true, Bool.not_true, Bool.not_false, Bool.false_eq_true, Bool.true_eq_false, if_true, if_false, ite_true, ite_false, beq_t, beq_f, true_and, and_true, not_true_eq_false, not_false_eq_true, forall_const, gup_get, eq_self, reduceCtorEq, reduceIte]
  refine ⟨Nat.zero_le _, fun m hm => ?_⟩
  refine kn _ _ ?_
  try dsimp only [List.set_cons_zero, List.set_cons_succ]
  refine qSet_i fun k kn => ?_
  simp only [eOp, eUn, eVar, eC, eTest, eTru, rTru, eCa, aNil, aCons, eTup, eLst, rInt, rIxd, rAdd, rIntOf, rStrOf, rLen, rTupOf, rLstOf, rEq, rIsN, rNeg, rMin, rMax, eIf, bAnd, bOr, bNot, bYes, eMtL, eMtL0, rAppend, rPop, rExtend, rInsert, rReverse, rClear, eGet1, eGet2, rGet, isDic, gNm, gsNil, gsCons, gTp, gSb, rSet, eSl, rSl, oNone, oSome, iAny, iRg1, iRg2, eLc, eDc, dwipe, CT.put, setMany, sNext, sBreak, sCont, sRetN, sNever, keyD, kD, List.getElem?_cons_zero, List.getElem?_cons_succ, List.set_cons_zero, List.set_cons_succ, List.length_cons, List.length_nil, List.cons_append, List.nil_append, atI_0, atI_1, atI_2, atI_3, atI_4, ixN_0, ixN_1, ixN_2, ixN_3, ofString_inj, String.reduceEq, decide_true, decide_false, decide_not, beq_self_eq_true, Bool.not_true, Bool.not_false, Bool.false_eq_true, Bool.true_eq_false, if_true, if_false, ite_true, ite_false, beq_t, beq_f, true_and, and_true, not_true_eq_false, not_false_eq_true, forall_const, gup_get, eq_self, reduceCtorEq, reduceIte]
  refine ⟨by decide, by decide, fun w hw => ?_⟩
  have hw : gup G0 m (.lst []) w = none := hw
  have nmw : m ≠ w := fun e => by rw [e, gup_same] at hw; cases hw
  have hw0 : G0 w = none := by rw [gup_ne (Ne.symm nmw)] at hw; exact hw
  refine kn _ _ ?_
  try dsimp only [List.set_cons_zero, List.set_cons_succ]
  refine qWhile_i (fun n σ G => ∃ (is : List Ins) (made : List Sy) (x4 x5 x6 x7 x8 : Option D), σ = [some t.toD, some (.ref tb), some (.ref m), some (.ref w), x4, x5, x6, x7, x8] ∧ n = wts is ∧ G m = some (.lst (stk Sy.toD made)) ∧ G w = some (.lst (stk Ins.toD is)) ∧ Ext G0 G ∧ runI T is made = some [due T t] ∧ (∀ i ∈ is, i.all p) ∧ made.length + wts is ≤ t.wt) (m := t.wt) ?_ ?_
  · refine ⟨[.term t], [], _, _, _, _, _, rfl, by simp [wts, Ins.wt], (gup_ne nmw).trans gup_same, gup_same, (Ext.new hm).trans (Ext.new hw), rfl, ?_, by simp [wts, Ins.wt]⟩
    intro i hi
    rw [List.mem_singleton.mp hi]
    exact ha
  rintro n σ G k1 k ⟨is, made, x4, x5, x6, x7, x8, rfl, rfl, h1, h2, ex, run, hall, hb⟩ again kt kf
  simp only [eOp, eUn, eVar, eC, eTest, eTru, rTru, eCa, aNil, aCons, eTup, eLst, rInt, rIxd, rAdd, rIntOf, rStrOf, rLen, rTupOf, rLstOf, rEq, rIsN, rNeg, rMin, rMax, eIf, bAnd, bOr, bNot, bYes, eMtL, eMtL0, rAppend, rPop, rExtend, rInsert, rReverse, rClear, eGet1, eGet2, rGet, isDic, gNm, gsNil, gsCons, gTp, gSb, rSet, eSl, rSl, oNone, oSome, iAny, iRg1, iRg2, eLc, eDc, dwipe, CT.put, setMany, sNext, sBreak, sCont, sRetN, sNever, keyD, kD, List.getElem?_cons_zero, List.getElem?_cons_succ, List.set_cons_zero, List.set_cons_succ, List.length_cons, List.length_nil, List.cons_append, List.nil_append, atI_0, atI_1, atI_2, atI_3, atI_4, ixN_0, ixN_1, ixN_2, ixN_3, ofString_inj, String.reduceEq, decide_true, decide_false, decide_not, beq_self_eq_true, Bool.not_true, Bool.not_false, Bool.false_eq_true, Bool.true_eq_false, if_true, if_false, ite_true, ite_false, beq_t, beq_f, true_and, and_true, not_true_eq_false, not_false_eq_true, forall_const, gup_get, eq_self, reduceCtorEq, reduceIte, h2, stk_empty]
  have lm : ∀ {n : Nat}, n ≤ made.length → n < sizeLine := fun h => by omega
  cases is with
  | nil =>
    refine kf _ (sRet_i ?_)
    have e1 : made = [due T t] := by simpa [runI] using run
    subst e1
    simp only [eOp, eUn, eVar, eC, eTest, eTru, rTru, eCa, aNil, aCons, eTup, eLst, rInt, rIxd, rAdd, rIntOf, rStrOf, rLen, rTupOf, rLstOf, rEq, rIsN, rNeg, rMin, rMax, eIf, bAnd, bOr, bNot, bYes, eMtL, eMtL0, rAppend, rPop, rExtend, rInsert, rReverse, rClear, eGet1, eGet2, rGet, isDic, gNm, gsNil, gsCons, gTp, gSb, rSet, eSl, rSl, oNone, oSome, iAny, iRg1, iRg2, eLc, eDc, dwipe, CT.put, setMany, sNext, sBreak, sCont, sRetN, sNever, keyD, kD, List.getElem?_cons_zero, List.getElem?_cons_succ, List.set_cons_zero, List.set_cons_succ, List.length_cons, List.length_nil, List.cons_append, List.nil_append, atI_0, atI_1, atI_2, atI_3, atI_4, ixN_0, ixN_1, ixN_2, ixN_3, ofString_inj, String.reduceEq, decide_true, decide_false, decide_not, beq_self_eq_true, Bool.not_true, Bool.not_false, Bool.false_eq_true, Bool.true_eq_false, if_true, if_false, ite_true, ite_false, beq_t, beq_f, true_and, and_true, not_true_eq_false, not_false_eq_true, forall_const, gup_get, eq_self, reduceCtorEq, reduceIte, h1, stk]
    exact q _ ex
  | cons i is =>
  rw [wts_cons] at hb
  have hi := hall i List.mem_cons_self
  have hall' : ∀ i ∈ is, i.all p := fun j hj => hall j (List.mem_cons_of_mem _ hj)
  have lis := len_wts is
  have h1' : gup G w (.lst (stk Ins.toD is)) m = some (.lst (stk Sy.toD made)) := (gup_ne nmw).trans h1
  have h2' : gup G w (.lst (stk Ins.toD is)) w = some (.lst (stk Ins.toD is)) := gup_same
  have ex' : Ext G0 (gup G w (.lst (stk Ins.toD is))) := ex.put hw0
  refine kt _ (qAsg_i fun k kn => ?_)
  simp only [eOp, eUn, eVar, eC, eTest, eTru, rTru, eCa, aNil, aCons, eTup, eLst, rInt, rIxd, rAdd, rIntOf, rStrOf, rLen, rTupOf, rLstOf, rEq, rIsN, rNeg, rMin, rMax, eIf, bAnd, bOr, bNot, bYes, eMtL, eMtL0, rAppend, rPop, rExtend, rInsert, rReverse, rClear, eGet1, eGet2, rGet, isDic, gNm, gsNil, gsCons, gTp, gSb, rSet, eSl, rSl, oNone, oSome, iAny, iRg1, iRg2, eLc, eDc, dwipe, CT.put, setMany, sNext, sBreak, sCont, sRetN, sNever, keyD, kD, List.getElem?_cons_zero, List.getElem?_cons_succ, List.set_cons_zero, List.set_cons_succ, List.length_cons, List.length_nil, List.cons_append, List.nil_append, atI_0, atI_1, atI_2, atI_3, atI_4, ixN_0, ixN_1, ixN_2, ixN_3, ofString_inj, String.reduceEq, decide_true, decide_false, decide_not, beq_self_eq_true, Bool.not_true, Bool.not_false, Bool.false_eq_true, Bool.true_eq_false, if_true, if_false, ite_true, ite_false, beq_t, beq_f, true_and, and_true, not_true_eq_false, not_false_eq_true, forall_const, gup_get, eq_self, reduceCtorEq, reduceIte]
  have p1 : (stk Ins.toD (i :: is))[(stk Ins.toD (i :: is)).length - 1]? = some i.toD := by rw [stk_cons]; simp
  have p2 : (stk Ins.toD (i :: is)).dropLast = stk Ins.toD is := by rw [stk_cons]; simp
  simp only [h2, p1, p2]
  generalize gup G w (.lst (stk Ins.toD is)) = G1 at h1' h2' ex' ⊢
  -- what is built
  have bld : ∀ (cnt : Nat) (it : D) (s : Sy) (nm : Nat), runI T is (s :: made.drop cnt) = some [due T t] → cnt ≤ made.length →
      ((∃ c : Str, it = .tup [.str "node", .str c, .int cnt] ∧ s.toD = .tup [.str "node", .str c, .tup ((made.take cnt).reverse.map Sy.toD)]) ∨
       (∃ ws : List Str, it = .tup [.str "map", .tup (ws.map D.str), .int cnt] ∧ ws.length = cnt ∧ s.toD = .tup [.str "map", .non, .tup (List.zipWith (fun w d => .tup [.tup [.str "name", .str w], d]) ws ((made.take cnt).reverse.map Sy.toD))])) →
      ∀ (σ : DS) (k : DVK), (∃ x4 x5 x6 x7 x8, σ = [some t.toD, some (.ref tb), some (.ref m), some (.ref w), x4, x5, x6, x7, x8]) → i.wt = 1 → (∀ d G', k1 σ G' → k d G') → sp_built [.ref m, it] G1 k := by
    rintro cnt it s nm hr hc hh σ k ⟨x4, x5, x6, x7, x8, rfl⟩ hwt kn
    have e : stk Sy.toD made = stk Sy.toD (made.drop cnt) ++ (made.take cnt).reverse.map Sy.toD := by
      have e0 := stk_app Sy.toD (made.take cnt) (made.drop cnt)
      rw [List.take_append_drop] at e0
      rw [e0, List.map_reverse]
    have el : ((made.take cnt).reverse.map Sy.toD).length = cnt := by simp [Nat.min_eq_left hc]
    refine ⟨m, stk Sy.toD (made.drop cnt), (made.take cnt).reverse.map Sy.toD, it, s.toD, rfl, h1'.trans (by rw [← e]), by simp [stk]; omega, by rw [el]; exact hh, by rw [el]; omega, fun G' eb eg => ?_⟩
    refine kn _ _ (again (wts is) _ _ (by rw [wts_cons]; omega) ⟨is, s :: made.drop cnt, x4, x5, x6, x7, x8, rfl, rfl, by rw [eg, stk_cons], eb _ _ (Ne.symm nmw) h2', ?_, hr, hall', by simp; omega⟩)
    exact fun a o e => eb _ _ (ne_none e hm) (ex' _ _ e)
  cases i with
  | bnode c cnt =>
    simp only [runI] at run
    have hc : cnt ≤ made.length := by by_cases h : cnt ≤ made.length; · exact h
                                      · rw [if_neg h] at run; cases run
    rw [if_pos hc] at run
    simp only [eOp, eUn, eVar, eC, eTest, eTru, rTru, eCa, aNil, aCons, eTup, eLst, rInt, rIxd, rAdd, rIntOf, rStrOf, rLen, rTupOf, rLstOf, rEq, rIsN, rNeg, rMin, rMax, eIf, bAnd, bOr, bNot, bYes, eMtL, eMtL0, rAppend, rPop, rExtend, rInsert, rReverse, rClear, eGet1, eGet2, rGet, isDic, gNm, gsNil, gsCons, gTp, gSb, rSet, eSl, rSl, oNone, oSome, iAny, iRg1, iRg2, eLc, eDc, dwipe, CT.put, setMany, sNext, sBreak, sCont, sRetN, sNever, keyD, kD, List.getElem?_cons_zero, List.getElem?_cons_succ, List.set_cons_zero, List.set_cons_succ, List.length_cons, List.length_nil, List.cons_append, List.nil_append, atI_0, atI_1, atI_2, atI_3, atI_4, ixN_0, ixN_1, ixN_2, ixN_3, ofString_inj, String.reduceEq, decide_true, decide_false, decide_not, beq_self_eq_true, Bool.not_true, Bool.not_false, Bool.false_eq_true, Bool.true_eq_false, if_true, if_false, ite_true, ite_false, beq_t, beq_f, true_and, and_true, not_true_eq_false, not_false_eq_true, forall_const, gup_get, eq_self, reduceCtorEq, reduceIte, Ins.toD]
    refine kn _ _ (gTp2_i ?_)
    try dsimp only [List.set_cons_zero, List.set_cons_succ]
    refine sIf_i fun k kt kf => ?_
    simp only [eOp, eUn, eVar, eC, eTest, eTru, rTru, eCa, aNil, aCons, eTup, eLst, rInt, rIxd, rAdd, rIntOf, rStrOf, rLen, rTupOf, rLstOf, rEq, rIsN, rNeg, rMin, rMax, eIf, bAnd, bOr, bNot, bYes, eMtL, eMtL0, rAppend, rPop, rExtend, rInsert, rReverse, rClear, eGet1, eGet2, rGet, isDic, gNm, gsNil, gsCons, gTp, gSb, rSet, eSl, rSl, oNone, oSome, iAny, iRg1, iRg2, eLc, eDc, dwipe, CT.put, setMany, sNext, sBreak, sCont, sRetN, sNever, keyD, kD, List.getElem?_cons_zero, List.getElem?_cons_succ, List.set_cons_zero, List.set_cons_succ, List.length_cons, List.length_nil, List.cons_append, List.nil_append, atI_0, atI_1, atI_2, atI_3, atI_4, ixN_0, ixN_1, ixN_2, ixN_3, ofString_inj, String.reduceEq, decide_true, decide_false, decide_not, beq_self_eq_true, Bool.not_true, Bool.not_false, Bool.false_eq_true, Bool.true_eq_false, if_true, if_false, ite_true, ite_false, beq_t, beq_f, true_and, and_true, not_true_eq_false, not_false_eq_true, forall_const, gup_get, eq_self, reduceCtorEq, reduceIte]
    refine kt _ (sDrop_i fun k kn => ?_)
    simp only [eOp, eUn, eVar, eC, eTest, eTru, rTru, eCa, aNil, aCons, eTup, eLst, rInt, rIxd, rAdd, rIntOf, rStrOf, rLen, rTupOf, rLstOf, rEq, rIsN, rNeg, rMin, rMax, eIf, bAnd, bOr, bNot, bYes, eMtL, eMtL0, rAppend, rPop, rExtend, rInsert, rReverse, rClear, eGet1, eGet2, rGet, isDic, gNm, gsNil, gsCons, gTp, gSb, rSet, eSl, rSl, oNone, oSome, iAny, iRg1, iRg2, eLc, eDc, dwipe, CT.put, setMany, sNext, sBreak, sCont, sRetN, sNever, keyD, kD, List.getElem?_cons_zero, List.getElem?_cons_succ, List.set_cons_zero, List.set_cons_succ, List.length_cons, List.length_nil, List.cons_append, List.nil_append, atI_0, atI_1, atI_2, atI_3, atI_4, ixN_0, ixN_1, ixN_2, ixN_3, ofString_inj, String.reduceEq, decide_true, decide_false, decide_not, beq_self_eq_true, Bool.not_true, Bool.not_false, Bool.false_eq_true, Bool.true_eq_false, if_true, if_false, ite_true, ite_false, beq_t, beq_f, true_and, and_true, not_true_eq_false, not_false_eq_true, forall_const, gup_get, eq_self, reduceCtorEq, reduceIte]
    exact bld cnt _ _ 0 run hc (.inl ⟨c, rfl, by rw [Sy.toD, sD_map]⟩) _ _ ⟨_, _, _, _, _, rfl⟩ rfl kn
  | bmap ws =>
    simp only [runI] at run
    have hc : ws.length ≤ made.length := by by_cases h : ws.length ≤ made.length; · exact h
                                            · rw [if_neg h] at run; cases run
    rw [if_pos hc] at run
    simp only [eOp, eUn, eVar, eC, eTest, eTru, rTru, eCa, aNil, aCons, eTup, eLst, rInt, rIxd, rAdd, rIntOf, rStrOf, rLen, rTupOf, rLstOf, rEq, rIsN, rNeg, rMin, rMax, eIf, bAnd, bOr, bNot, bYes, eMtL, eMtL0, rAppend, rPop, rExtend, rInsert, rReverse, rClear, eGet1, eGet2, rGet, isDic, gNm, gsNil, gsCons, gTp, gSb, rSet, eSl, rSl, oNone, oSome, iAny, iRg1, iRg2, eLc, eDc, dwipe, CT.put, setMany, sNext, sBreak, sCont, sRetN, sNever, keyD, kD, List.getElem?_cons_zero, List.getElem?_cons_succ, List.set_cons_zero, List.set_cons_succ, List.length_cons, List.length_nil, List.cons_append, List.nil_append, atI_0, atI_1, atI_2, atI_3, atI_4, ixN_0, ixN_1, ixN_2, ixN_3, ofString_inj, String.reduceEq, decide_true, decide_false, decide_not, beq_self_eq_true, Bool.not_true, Bool.not_false, Bool.false_eq_true, Bool.true_eq_false, if_true, if_false, ite_true, ite_false, beq_t, beq_f, true_and, and_true, not_true_eq_false, not_false_eq_true, forall_const, gup_get, eq_self, reduceCtorEq, reduceIte, Ins.toD]
    refine kn _ _ (gTp2_i ?_)
    try dsimp only [List.set_cons_zero, List.set_cons_succ]
    refine sIf_i fun k kt kf => ?_
    simp only [eOp, eUn, eVar, eC, eTest, eTru, rTru, eCa, aNil, aCons, eTup, eLst, rInt, rIxd, rAdd, rIntOf, rStrOf, rLen, rTupOf, rLstOf, rEq, rIsN, rNeg, rMin, rMax, eIf, bAnd, bOr, bNot, bYes, eMtL, eMtL0, rAppend, rPop, rExtend, rInsert, rReverse, rClear, eGet1, eGet2, rGet, isDic, gNm, gsNil, gsCons, gTp, gSb, rSet, eSl, rSl, oNone, oSome, iAny, iRg1, iRg2, eLc, eDc, dwipe, CT.put, setMany, sNext, sBreak, sCont, sRetN, sNever, keyD, kD, List.getElem?_cons_zero, List.getElem?_cons_succ, List.set_cons_zero, List.set_cons_succ, List.length_cons, List.length_nil, List.cons_append, List.nil_append, atI_0, atI_1, atI_2, atI_3, atI_4, ixN_0, ixN_1, ixN_2, ixN_3, ofString_inj, String.reduceEq, decide_true, decide_false, decide_not, beq_self_eq_true, Bool.not_true, Bool.not_false, Bool.false_eq_true, Bool.true_eq_false, if_true, if_false, ite_true, ite_false, beq_t, beq_f, true_and, and_true, not_true_eq_false, not_false_eq_true, forall_const, gup_get, eq_self, reduceCtorEq, reduceIte]
    refine kt _ (sDrop_i fun k kn => ?_)
    simp only [eOp, eUn, eVar, eC, eTest, eTru, rTru, eCa, aNil, aCons, eTup, eLst, rInt, rIxd, rAdd, rIntOf, rStrOf, rLen, rTupOf, rLstOf, rEq, rIsN, rNeg, rMin, rMax, eIf, bAnd, bOr, bNot, bYes, eMtL, eMtL0, rAppend, rPop, rExtend, rInsert, rReverse, rClear, eGet1, eGet2, rGet, isDic, gNm, gsNil, gsCons, gTp, gSb, rSet, eSl, rSl, oNone, oSome, iAny, iRg1, iRg2, eLc, eDc, dwipe, CT.put, setMany, sNext, sBreak, sCont, sRetN, sNever, keyD, kD, List.getElem?_cons_zero, List.getElem?_cons_succ, List.set_cons_zero, List.set_cons_succ, List.length_cons, List.length_nil, List.cons_append, List.nil_append, atI_0, atI_1, atI_2, atI_3, atI_4, ixN_0, ixN_1, ixN_2, ixN_3, ofString_inj, String.reduceEq, decide_true, decide_false, decide_not, beq_self_eq_true, Bool.not_true, Bool.not_false, Bool.false_eq_true, Bool.true_eq_false, if_true, if_false, ite_true, ite_false, beq_t, beq_f, true_and, and_true, not_true_eq_false, not_false_eq_true, forall_const, gup_get, eq_self, reduceCtorEq, reduceIte]
    refine bld ws.length _ _ 0 run hc (.inr ⟨ws, rfl, rfl, ?_⟩) _ _ ⟨_, _, _, _, _, rfl⟩ rfl kn
    rw [Sy.toD, sE_map]
    congr 4
    rw [List.zipWith_map_right, List.zip, List.map_zipWith]
  | term u =>
    simp only [eOp, eUn, eVar, eC, eTest, eTru, rTru, eCa, aNil, aCons, eTup, eLst, rInt, rIxd, rAdd, rIntOf, rStrOf, rLen, rTupOf, rLstOf, rEq, rIsN, rNeg, rMin, rMax, eIf, bAnd, bOr, bNot, bYes, eMtL, eMtL0, rAppend, rPop, rExtend, rInsert, rReverse, rClear, eGet1, eGet2, rGet, isDic, gNm, gsNil, gsCons, gTp, gSb, rSet, eSl, rSl, oNone, oSome, iAny, iRg1, iRg2, eLc, eDc, dwipe, CT.put, setMany, sNext, sBreak, sCont, sRetN, sNever, keyD, kD, List.getElem?_cons_zero, List.getElem?_cons_succ, List.set_cons_zero, List.set_cons_succ, List.length_cons, List.length_nil, List.cons_append, List.nil_append, atI_0, atI_1, atI_2, atI_3, atI_4, ixN_0, ixN_1, ixN_2, ixN_3, ofString_inj, String.reduceEq, decide_true, decide_false, decide_not, beq_self_eq_true, Bool.not_true, Bool.not_false, Bool.false_eq_true, Bool.true_eq_false, if_true, if_false, ite_true, ite_false, beq_t, beq_f, true_and, and_true, not_true_eq_false, not_false_eq_true, forall_const, gup_get, eq_self, reduceCtorEq, reduceIte, Ins.toD]
    refine kn _ _ (gTp2_i ?_)
    try dsimp only [List.set_cons_zero, List.set_cons_succ]
    refine sIf_i fun k kt kf => ?_
    simp only [eOp, eUn, eVar, eC, eTest, eTru, rTru, eCa, aNil, aCons, eTup, eLst, rInt, rIxd, rAdd, rIntOf, rStrOf, rLen, rTupOf, rLstOf, rEq, rIsN, rNeg, rMin, rMax, eIf, bAnd, bOr, bNot, bYes, eMtL, eMtL0, rAppend, rPop, rExtend, rInsert, rReverse, rClear, eGet1, eGet2, rGet, isDic, gNm, gsNil, gsCons, gTp, gSb, rSet, eSl, rSl, oNone, oSome, iAny, iRg1, iRg2, eLc, eDc, dwipe, CT.put, setMany, sNext, sBreak, sCont, sRetN, sNever, keyD, kD, List.getElem?_cons_zero, List.getElem?_cons_succ, List.set_cons_zero, List.set_cons_succ, List.length_cons, List.length_nil, List.cons_append, List.nil_append, atI_0, atI_1, atI_2, atI_3, atI_4, ixN_0, ixN_1, ixN_2, ixN_3, ofString_inj, String.reduceEq, decide_true, decide_false, decide_not, beq_self_eq_true, Bool.not_true, Bool.not_false, Bool.false_eq_true, Bool.true_eq_false, if_true, if_false, ite_true, ite_false, beq_t, beq_f, true_and, and_true, not_true_eq_false, not_false_eq_true, forall_const, gup_get, eq_self, reduceCtorEq, reduceIte]
    refine kf _ (sIf_i fun k kt kf => ?_)
    have leafy : isLeaf u = true → ∀ (k : DVK), (∀ d G', k1 [some t.toD, some (.ref tb), some (.ref m), some (.ref w), some (.str "term"), some u.toD, x6, x7, x8] G' → k d G') → sp_leaf [u.toD, .ref tb] G1 fun x G2 => match G2 m with
      | some (.lst xs) => xs.length < sizeLine ∧ k .non (gup G2 m (.lst (xs ++ [x])))
      | _ => False := by
      intro hl k kn
      refine ⟨u, tb, T, p, rfl, hl, tab.ext ex', hi, ?_⟩
      simp only [eOp, eUn, eVar, eC, eTest, eTru, rTru, eCa, aNil, aCons, eTup, eLst, rInt, rIxd, rAdd, rIntOf, rStrOf, rLen, rTupOf, rLstOf, rEq, rIsN, rNeg, rMin, rMax, eIf, bAnd, bOr, bNot, bYes, eMtL, eMtL0, rAppend, rPop, rExtend, rInsert, rReverse, rClear, eGet1, eGet2, rGet, isDic, gNm, gsNil, gsCons, gTp, gSb, rSet, eSl, rSl, oNone, oSome, iAny, iRg1, iRg2, eLc, eDc, dwipe, CT.put, setMany, sNext, sBreak, sCont, sRetN, sNever, keyD, kD, List.getElem?_cons_zero, List.getElem?_cons_succ, List.set_cons_zero, List.set_cons_succ, List.length_cons, List.length_nil, List.cons_append, List.nil_append, atI_0, atI_1, atI_2, atI_3, atI_4, ixN_0, ixN_1, ixN_2, ixN_3, ofString_inj, String.reduceEq, decide_true, decide_false, decide_not, beq_self_eq_true, Bool.not_true, Bool.not_false, Bool.false_eq_true, Bool.true_eq_false, if_true, if_false, ite_true, ite_false, beq_t, beq_f, true_and, and_true, not_true_eq_false, not_false_eq_true, forall_const, gup_get, eq_self, reduceCtorEq, reduceIte, h1']
      have e1 : u.wt = 1 := by cases u <;> first | rfl | simp [isLeaf] at hl
      simp only [Ins.wt] at hb
      refine ⟨by simp [stk]; omega, kn _ _ (again (wts is) _ _ (by rw [wts_cons]; simp only [Ins.wt]; omega) ⟨is, due T u :: made, _, _, _, _, _, rfl, rfl, gup_same.trans (by rw [stk_cons]), (gup_ne (Ne.symm nmw)).trans h2', ex'.put hm, run, hall', by simp; omega⟩)⟩
    have lw : ∀ is : List Ins, is.length ≤ wts is := len_wts
    -- behind the loop
    have aft : ∀ (is' : List Ins) (σ : DS) (G : GP), (∃ x4 x5 x6 x7 x8, σ = [some t.toD, some (.ref tb), some (.ref m), some (.ref w), x4, x5, x6, x7, x8]) → G m = some (.lst (stk Sy.toD made)) → Ext G0 G → G w = some (.lst (stk Ins.toD is')) → runI T is' made = some [due T t] → (∀ i ∈ is', i.all p) → wts is' + 1 = u.wt + wts is → k1 σ G := by
      rintro is' σ G ⟨x4, x5, x6, x7, x8, rfl⟩ hm' hex hw' hr ha' hwt
      simp only [Ins.wt] at hb
      exact again (wts is') _ _ (by rw [wts_cons]; simp only [Ins.wt]; omega) ⟨is', made, x4, x5, x6, x7, x8, rfl, rfl, hm', hw', hex, hr, ha', by omega⟩
    cases u with
    | int n =>
      simp only [eOp, eUn, eVar, eC, eTest, eTru, rTru, eCa, aNil, aCons, eTup, eLst, rInt, rIxd, rAdd, rIntOf, rStrOf, rLen, rTupOf, rLstOf, rEq, rIsN, rNeg, rMin, rMax, eIf, bAnd, bOr, bNot, bYes, eMtL, eMtL0, rAppend, rPop, rExtend, rInsert, rReverse, rClear, eGet1, eGet2, rGet, isDic, gNm, gsNil, gsCons, gTp, gSb, rSet, eSl, rSl, oNone, oSome, iAny, iRg1, iRg2, eLc, eDc, dwipe, CT.put, setMany, sNext, sBreak, sCont, sRetN, sNever, keyD, kD, List.getElem?_cons_zero, List.getElem?_cons_succ, List.set_cons_zero, List.set_cons_succ, List.length_cons, List.length_nil, List.cons_append, List.nil_append, atI_0, atI_1, atI_2, atI_3, atI_4, ixN_0, ixN_1, ixN_2, ixN_3, ofString_inj, String.reduceEq, decide_true, decide_false, decide_not, beq_self_eq_true, Bool.not_true, Bool.not_false, Bool.false_eq_true, Bool.true_eq_false, if_true, if_false, ite_true, ite_false, beq_t, beq_f, true_and, and_true, not_true_eq_false, not_false_eq_true, forall_const, gup_get, eq_self, reduceCtorEq, reduceIte, Trm.toD]
      refine kf _ (sIf_i fun k kt kf => ?_)
      simp only [eOp, eUn, eVar, eC, eTest, eTru, rTru, eCa, aNil, aCons, eTup, eLst, rInt, rIxd, rAdd, rIntOf, rStrOf, rLen, rTupOf, rLstOf, rEq, rIsN, rNeg, rMin, rMax, eIf, bAnd, bOr, bNot, bYes, eMtL, eMtL0, rAppend, rPop, rExtend, rInsert, rReverse, rClear, eGet1, eGet2, rGet, isDic, gNm, gsNil, gsCons, gTp, gSb, rSet, eSl, rSl, oNone, oSome, iAny, iRg1, iRg2, eLc, eDc, dwipe, CT.put, setMany, sNext, sBreak, sCont, sRetN, sNever, keyD, kD, List.getElem?_cons_zero, List.getElem?_cons_succ, List.set_cons_zero, List.set_cons_succ, List.length_cons, List.length_nil, List.cons_append, List.nil_append, atI_0, atI_1, atI_2, atI_3, atI_4, ixN_0, ixN_1, ixN_2, ixN_3, ofString_inj, String.reduceEq, decide_true, decide_false, decide_not, beq_self_eq_true, Bool.not_true, Bool.not_false, Bool.false_eq_true, Bool.true_eq_false, if_true, if_false, ite_true, ite_false, beq_t, beq_f, true_and, and_true, not_true_eq_false, not_false_eq_true, forall_const, gup_get, eq_self, reduceCtorEq, reduceIte, Trm.toD]
      refine kf _ (sDrop_i fun k kn => ?_)
      simp only [eOp, eUn, eVar, eC, eTest, eTru, rTru, eCa, aNil, aCons, eTup, eLst, rInt, rIxd, rAdd, rIntOf, rStrOf, rLen, rTupOf, rLstOf, rEq, rIsN, rNeg, rMin, rMax, eIf, bAnd, bOr, bNot, bYes, eMtL, eMtL0, rAppend, rPop, rExtend, rInsert, rReverse, rClear, eGet1, eGet2, rGet, isDic, gNm, gsNil, gsCons, gTp, gSb, rSet, eSl, rSl, oNone, oSome, iAny, iRg1, iRg2, eLc, eDc, dwipe, CT.put, setMany, sNext, sBreak, sCont, sRetN, sNever, keyD, kD, List.getElem?_cons_zero, List.getElem?_cons_succ, List.set_cons_zero, List.set_cons_succ, List.length_cons, List.length_nil, List.cons_append, List.nil_append, atI_0, atI_1, atI_2, atI_3, atI_4, ixN_0, ixN_1, ixN_2, ixN_3, ofString_inj, String.reduceEq, decide_true, decide_false, decide_not, beq_self_eq_true, Bool.not_true, Bool.not_false, Bool.false_eq_true, Bool.true_eq_false, if_true, if_false, ite_true, ite_false, beq_t, beq_f, true_and, and_true, not_true_eq_false, not_false_eq_true, forall_const, gup_get, eq_self, reduceCtorEq, reduceIte, h1']
      exact leafy rfl k kn
    | name n =>
      simp only [eOp, eUn, eVar, eC, eTest, eTru, rTru, eCa, aNil, aCons, eTup, eLst, rInt, rIxd, rAdd, rIntOf, rStrOf, rLen, rTupOf, rLstOf, rEq, rIsN, rNeg, rMin, rMax, eIf, bAnd, bOr, bNot, bYes, eMtL, eMtL0, rAppend, rPop, rExtend, rInsert, rReverse, rClear, eGet1, eGet2, rGet, isDic, gNm, gsNil, gsCons, gTp, gSb, rSet, eSl, rSl, oNone, oSome, iAny, iRg1, iRg2, eLc, eDc, dwipe, CT.put, setMany, sNext, sBreak, sCont, sRetN, sNever, keyD, kD, List.getElem?_cons_zero, List.getElem?_cons_succ, List.set_cons_zero, List.set_cons_succ, List.length_cons, List.length_nil, List.cons_append, List.nil_append, atI_0, atI_1, atI_2, atI_3, atI_4, ixN_0, ixN_1, ixN_2, ixN_3, ofString_inj, String.reduceEq, decide_true, decide_false, decide_not, beq_self_eq_true, Bool.not_true, Bool.not_false, Bool.false_eq_true, Bool.true_eq_false, if_true, if_false, ite_true, ite_false, beq_t, beq_f, true_and, and_true, not_true_eq_false, not_false_eq_true, forall_const, gup_get, eq_self, reduceCtorEq, reduceIte, Trm.toD]
      refine kf _ (sIf_i fun k kt kf => ?_)
      simp only [eOp, eUn, eVar, eC, eTest, eTru, rTru, eCa, aNil, aCons, eTup, eLst, rInt, rIxd, rAdd, rIntOf, rStrOf, rLen, rTupOf, rLstOf, rEq, rIsN, rNeg, rMin, rMax, eIf, bAnd, bOr, bNot, bYes, eMtL, eMtL0, rAppend, rPop, rExtend, rInsert, rReverse, rClear, eGet1, eGet2, rGet, isDic, gNm, gsNil, gsCons, gTp, gSb, rSet, eSl, rSl, oNone, oSome, iAny, iRg1, iRg2, eLc, eDc, dwipe, CT.put, setMany, sNext, sBreak, sCont, sRetN, sNever, keyD, kD, List.getElem?_cons_zero, List.getElem?_cons_succ, List.set_cons_zero, List.set_cons_succ, List.length_cons, List.length_nil, List.cons_append, List.nil_append, atI_0, atI_1, atI_2, atI_3, atI_4, ixN_0, ixN_1, ixN_2, ixN_3, ofString_inj, String.reduceEq, decide_true, decide_false, decide_not, beq_self_eq_true, Bool.not_true, Bool.not_false, Bool.false_eq_true, Bool.true_eq_false, if_true, if_false, ite_true, ite_false, beq_t, beq_f, true_and, and_true, not_true_eq_false, not_false_eq_true, forall_const, gup_get, eq_self, reduceCtorEq, reduceIte, Trm.toD]
      refine kf _ (sDrop_i fun k kn => ?_)
      simp only [eOp, eUn, eVar, eC, eTest, eTru, rTru, eCa, aNil, aCons, eTup, eLst, rInt, rIxd, rAdd, rIntOf, rStrOf, rLen, rTupOf, rLstOf, rEq, rIsN, rNeg, rMin, rMax, eIf, bAnd, bOr, bNot, bYes, eMtL, eMtL0, rAppend, rPop, rExtend, rInsert, rReverse, rClear, eGet1, eGet2, rGet, isDic, gNm, gsNil, gsCons, gTp, gSb, rSet, eSl, rSl, oNone, oSome, iAny, iRg1, iRg2, eLc, eDc, dwipe, CT.put, setMany, sNext, sBreak, sCont, sRetN, sNever, keyD, kD, List.getElem?_cons_zero, List.getElem?_cons_succ, List.set_cons_zero, List.set_cons_succ, List.length_cons, List.length_nil, List.cons_append, List.nil_append, atI_0, atI_1, atI_2, atI_3, atI_4, ixN_0, ixN_1, ixN_2, ixN_3, ofString_inj, String.reduceEq, decide_true, decide_false, decide_not, beq_self_eq_true, Bool.not_true, Bool.not_false, Bool.false_eq_true, Bool.true_eq_false, if_true, if_false, ite_true, ite_false, beq_t, beq_f, true_and, and_true, not_true_eq_false, not_false_eq_true, forall_const, gup_get, eq_self, reduceCtorEq, reduceIte, h1']
      exact leafy rfl k kn
    | addr n =>
      simp only [eOp, eUn, eVar, eC, eTest, eTru, rTru, eCa, aNil, aCons, eTup, eLst, rInt, rIxd, rAdd, rIntOf, rStrOf, rLen, rTupOf, rLstOf, rEq, rIsN, rNeg, rMin, rMax, eIf, bAnd, bOr, bNot, bYes, eMtL, eMtL0, rAppend, rPop, rExtend, rInsert, rReverse, rClear, eGet1, eGet2, rGet, isDic, gNm, gsNil, gsCons, gTp, gSb, rSet, eSl, rSl, oNone, oSome, iAny, iRg1, iRg2, eLc, eDc, dwipe, CT.put, setMany, sNext, sBreak, sCont, sRetN, sNever, keyD, kD, List.getElem?_cons_zero, List.getElem?_cons_succ, List.set_cons_zero, List.set_cons_succ, List.length_cons, List.length_nil, List.cons_append, List.nil_append, atI_0, atI_1, atI_2, atI_3, atI_4, ixN_0, ixN_1, ixN_2, ixN_3, ofString_inj, String.reduceEq, decide_true, decide_false, decide_not, beq_self_eq_true, Bool.not_true, Bool.not_false, Bool.false_eq_true, Bool.true_eq_false, if_true, if_false, ite_true, ite_false, beq_t, beq_f, true_and, and_true, not_true_eq_false, not_false_eq_true, forall_const, gup_get, eq_self, reduceCtorEq, reduceIte, Trm.toD]
      refine kf _ (sIf_i fun k kt kf => ?_)
      simp only [eOp, eUn, eVar, eC, eTest, eTru, rTru, eCa, aNil, aCons, eTup, eLst, rInt, rIxd, rAdd, rIntOf, rStrOf, rLen, rTupOf, rLstOf, rEq, rIsN, rNeg, rMin, rMax, eIf, bAnd, bOr, bNot, bYes, eMtL, eMtL0, rAppend, rPop, rExtend, rInsert, rReverse, rClear, eGet1, eGet2, rGet, isDic, gNm, gsNil, gsCons, gTp, gSb, rSet, eSl, rSl, oNone, oSome, iAny, iRg1, iRg2, eLc, eDc, dwipe, CT.put, setMany, sNext, sBreak, sCont, sRetN, sNever, keyD, kD, List.getElem?_cons_zero, List.getElem?_cons_succ, List.set_cons_zero, List.set_cons_succ, List.length_cons, List.length_nil, List.cons_append, List.nil_append, atI_0, atI_1, atI_2, atI_3, atI_4, ixN_0, ixN_1, ixN_2, ixN_3, ofString_inj, String.reduceEq, decide_true, decide_false, decide_not, beq_self_eq_true, Bool.not_true, Bool.not_false, Bool.false_eq_true, Bool.true_eq_false, if_true, if_false, ite_true, ite_false, beq_t, beq_f, true_and, and_true, not_true_eq_false, not_false_eq_true, forall_const, gup_get, eq_self, reduceCtorEq, reduceIte, Trm.toD]
      refine kf _ (sDrop_i fun k kn => ?_)
      simp only [eOp, eUn, eVar, eC, eTest, eTru, rTru, eCa, aNil, aCons, eTup, eLst, rInt, rIxd, rAdd, rIntOf, rStrOf, rLen, rTupOf, rLstOf, rEq, rIsN, rNeg, rMin, rMax, eIf, bAnd, bOr, bNot, bYes, eMtL, eMtL0, rAppend, rPop, rExtend, rInsert, rReverse, rClear, eGet1, eGet2, rGet, isDic, gNm, gsNil, gsCons, gTp, gSb, rSet, eSl, rSl, oNone, oSome, iAny, iRg1, iRg2, eLc, eDc, dwipe, CT.put, setMany, sNext, sBreak, sCont, sRetN, sNever, keyD, kD, List.getElem?_cons_zero, List.getElem?_cons_succ, List.set_cons_zero, List.set_cons_succ, List.length_cons, List.length_nil, List.cons_append, List.nil_append, atI_0, atI_1, atI_2, atI_3, atI_4, ixN_0, ixN_1, ixN_2, ixN_3, ofString_inj, String.reduceEq, decide_true, decide_false, decide_not, beq_self_eq_true, Bool.not_true, Bool.not_false, Bool.false_eq_true, Bool.true_eq_false, if_true, if_false, ite_true, ite_false, beq_t, beq_f, true_and, and_true, not_true_eq_false, not_false_eq_true, forall_const, gup_get, eq_self, reduceCtorEq, reduceIte, h1']
      exact leafy rfl k kn
    | mv n =>
      simp only [eOp, eUn, eVar, eC, eTest, eTru, rTru, eCa, aNil, aCons, eTup, eLst, rInt, rIxd, rAdd, rIntOf, rStrOf, rLen, rTupOf, rLstOf, rEq, rIsN, rNeg, rMin, rMax, eIf, bAnd, bOr, bNot, bYes, eMtL, eMtL0, rAppend, rPop, rExtend, rInsert, rReverse, rClear, eGet1, eGet2, rGet, isDic, gNm, gsNil, gsCons, gTp, gSb, rSet, eSl, rSl, oNone, oSome, iAny, iRg1, iRg2, eLc, eDc, dwipe, CT.put, setMany, sNext, sBreak, sCont, sRetN, sNever, keyD, kD, List.getElem?_cons_zero, List.getElem?_cons_succ, List.set_cons_zero, List.set_cons_succ, List.length_cons, List.length_nil, List.cons_append, List.nil_append, atI_0, atI_1, atI_2, atI_3, atI_4, ixN_0, ixN_1, ixN_2, ixN_3, ofString_inj, String.reduceEq, decide_true, decide_false, decide_not, beq_self_eq_true, Bool.not_true, Bool.not_false, Bool.false_eq_true, Bool.true_eq_false, if_true, if_false, ite_true, ite_false, beq_t, beq_f, true_and, and_true, not_true_eq_false, not_false_eq_true, forall_const, gup_get, eq_self, reduceCtorEq, reduceIte, Trm.toD]
      refine kf _ (sIf_i fun k kt kf => ?_)
      simp only [eOp, eUn, eVar, eC, eTest, eTru, rTru, eCa, aNil, aCons, eTup, eLst, rInt, rIxd, rAdd, rIntOf, rStrOf, rLen, rTupOf, rLstOf, rEq, rIsN, rNeg, rMin, rMax, eIf, bAnd, bOr, bNot, bYes, eMtL, eMtL0, rAppend, rPop, rExtend, rInsert, rReverse, rClear, eGet1, eGet2, rGet, isDic, gNm, gsNil, gsCons, gTp, gSb, rSet, eSl, rSl, oNone, oSome, iAny, iRg1, iRg2, eLc, eDc, dwipe, CT.put, setMany, sNext, sBreak, sCont, sRetN, sNever, keyD, kD, List.getElem?_cons_zero, List.getElem?_cons_succ, List.set_cons_zero, List.set_cons_succ, List.length_cons, List.length_nil, List.cons_append, List.nil_append, atI_0, atI_1, atI_2, atI_3, atI_4, ixN_0, ixN_1, ixN_2, ixN_3, ofString_inj, String.reduceEq, decide_true, decide_false, decide_not, beq_self_eq_true, Bool.not_true, Bool.not_false, Bool.false_eq_true, Bool.true_eq_false, if_true, if_false, ite_true, ite_false, beq_t, beq_f, true_and, and_true, not_true_eq_false, not_false_eq_true, forall_const, gup_get, eq_self, reduceCtorEq, reduceIte, Trm.toD]
      refine kf _ (sDrop_i fun k kn => ?_)
      simp only [eOp, eUn, eVar, eC, eTest, eTru, rTru, eCa, aNil, aCons, eTup, eLst, rInt, rIxd, rAdd, rIntOf, rStrOf, rLen, rTupOf, rLstOf, rEq, rIsN, rNeg, rMin, rMax, eIf, bAnd, bOr, bNot, bYes, eMtL, eMtL0, rAppend, rPop, rExtend, rInsert, rReverse, rClear, eGet1, eGet2, rGet, isDic, gNm, gsNil, gsCons, gTp, gSb, rSet, eSl, rSl, oNone, oSome, iAny, iRg1, iRg2, eLc, eDc, dwipe, CT.put, setMany, sNext, sBreak, sCont, sRetN, sNever, keyD, kD, List.getElem?_cons_zero, List.getElem?_cons_succ, List.set_cons_zero, List.set_cons_succ, List.length_cons, List.length_nil, List.cons_append, List.nil_append, atI_0, atI_1, atI_2, atI_3, atI_4, ixN_0, ixN_1, ixN_2, ixN_3, ofString_inj, String.reduceEq, decide_true, decide_false, decide_not, beq_self_eq_true, Bool.not_true, Bool.not_false, Bool.false_eq_true, Bool.true_eq_false, if_true, if_false, ite_true, ite_false, beq_t, beq_f, true_and, and_true, not_true_eq_false, not_false_eq_true, forall_const, gup_get, eq_self, reduceCtorEq, reduceIte, h1']
      exact leafy rfl k kn
    | node c ts =>
      simp only [eOp, eUn, eVar, eC, eTest, eTru, rTru, eCa, aNil, aCons, eTup, eLst, rInt, rIxd, rAdd, rIntOf, rStrOf, rLen, rTupOf, rLstOf, rEq, rIsN, rNeg, rMin, rMax, eIf, bAnd, bOr, bNot, bYes, eMtL, eMtL0, rAppend, rPop, rExtend, rInsert, rReverse, rClear, eGet1, eGet2, rGet, isDic, gNm, gsNil, gsCons, gTp, gSb, rSet, eSl, rSl, oNone, oSome, iAny, iRg1, iRg2, eLc, eDc, dwipe, CT.put, setMany, sNext, sBreak, sCont, sRetN, sNever, keyD, kD, List.getElem?_cons_zero, List.getElem?_cons_succ, List.set_cons_zero, List.set_cons_succ, List.length_cons, List.length_nil, List.cons_append, List.nil_append, atI_0, atI_1, atI_2, atI_3, atI_4, ixN_0, ixN_1, ixN_2, ixN_3, ofString_inj, String.reduceEq, decide_true, decide_false, decide_not, beq_self_eq_true, Bool.not_true, Bool.not_false, Bool.false_eq_true, Bool.true_eq_false, if_true, if_false, ite_true, ite_false, beq_t, beq_f, true_and, and_true, not_true_eq_false, not_false_eq_true, forall_const, gup_get, eq_self, reduceCtorEq, reduceIte, Trm.toD]
      refine kt _ (qDrop_i fun k kn => ?_)
      simp only [eOp, eUn, eVar, eC, eTest, eTru, rTru, eCa, aNil, aCons, eTup, eLst, rInt, rIxd, rAdd, rIntOf, rStrOf, rLen, rTupOf, rLstOf, rEq, rIsN, rNeg, rMin, rMax, eIf, bAnd, bOr, bNot, bYes, eMtL, eMtL0, rAppend, rPop, rExtend, rInsert, rReverse, rClear, eGet1, eGet2, rGet, isDic, gNm, gsNil, gsCons, gTp, gSb, rSet, eSl, rSl, oNone, oSome, iAny, iRg1, iRg2, eLc, eDc, dwipe, CT.put, setMany, sNext, sBreak, sCont, sRetN, sNever, keyD, kD, List.getElem?_cons_zero, List.getElem?_cons_succ, List.set_cons_zero, List.set_cons_succ, List.length_cons, List.length_nil, List.cons_append, List.nil_append, atI_0, atI_1, atI_2, atI_3, atI_4, ixN_0, ixN_1, ixN_2, ixN_3, ofString_inj, String.reduceEq, decide_true, decide_false, decide_not, beq_self_eq_true, Bool.not_true, Bool.not_false, Bool.false_eq_true, Bool.true_eq_false, if_true, if_false, ite_true, ite_false, beq_t, beq_f, true_and, and_true, not_true_eq_false, not_false_eq_true, forall_const, gup_get, eq_self, reduceCtorEq, reduceIte, Trm.toD, h2']
      have lt : (Trm.tsD ts).length = ts.length := by rw [tsD_map, List.length_map]
      simp only [Ins.wt, Trm.wt] at hb
      have lts : ts.length ≤ Trm.wtS ts := by rw [wtS_sum]; have := len_wts (ts.map Ins.term); rwa [List.length_map] at this
      refine ⟨by decide, by decide, by simp [stk]; omega, kn _ _ ?_⟩
      refine sFor_i fun k kn => ?_
      simp only [eOp, eUn, eVar, eC, eTest, eTru, rTru, eCa, aNil, aCons, eTup, eLst, rInt, rIxd, rAdd, rIntOf, rStrOf, rLen, rTupOf, rLstOf, rEq, rIsN, rNeg, rMin, rMax, eIf, bAnd, bOr, bNot, bYes, eMtL, eMtL0, rAppend, rPop, rExtend, rInsert, rReverse, rClear, eGet1, eGet2, rGet, isDic, gNm, gsNil, gsCons, gTp, gSb, rSet, eSl, rSl, oNone, oSome, iAny, iRg1, iRg2, eLc, eDc, dwipe, CT.put, setMany, sNext, sBreak, sCont, sRetN, sNever, keyD, kD, List.getElem?_cons_zero, List.getElem?_cons_succ, List.set_cons_zero, List.set_cons_succ, List.length_cons, List.length_nil, List.cons_append, List.nil_append, atI_0, atI_1, atI_2, atI_3, atI_4, ixN_0, ixN_1, ixN_2, ixN_3, ofString_inj, String.reduceEq, decide_true, decide_false, decide_not, beq_self_eq_true, Bool.not_true, Bool.not_false, Bool.false_eq_true, Bool.true_eq_false, if_true, if_false, ite_true, ite_false, beq_t, beq_f, true_and, and_true, not_true_eq_false, not_false_eq_true, forall_const, gup_get, eq_self, reduceCtorEq, reduceIte]
      intro p hp
      simp only [gup_same]
      refine kn _ _ _ ?_
      rw [lt] at hp ⊢
      rw [tsD_map, ← List.map_reverse]
      have nwp : w ≠ p := ne_none gup_same hp
      have nmp : m ≠ p := ne_none ((gup_ne nmw).trans h1') hp
      refine push_loop (S := fun σ => ∃ x4 x5 x6 x7 x8, σ = [some t.toD, some (.ref tb), some (.ref m), some (.ref w), x4, x5, x6, x7, x8]) (J := fun G => G m = some (.lst (stk Sy.toD made)) ∧ Ext G0 G ∧ G p = some (.lst (ts.reverse.map Trm.toD))) (w := w) Trm.toD id ?_ ?_ ?_ ?_ ts.reverse (.bnode c ts.length :: is) _ _ ⟨_, _, _, _, _, rfl⟩ ?_ ?_ ?_ ?_
      · rintro σ ⟨_, _, _, _, _, rfl⟩; rfl
      · rintro u σ G k ⟨_, _, _, _, _, rfl⟩ hk
        exact hk _ ⟨_, _, _, _, _, rfl⟩ rfl
      · rintro G o ⟨a, b, c⟩
        exact ⟨(gup_ne nmw).trans a, b.put hw0, (gup_ne (Ne.symm nwp)).trans c⟩
      · rintro G ⟨a, b, c⟩
        exact .inl c
      · refine ⟨(gup_ne nmp).trans ((gup_ne nmw).trans h1'), (ex'.put hw0).trans (Ext.new hp), gup_same⟩
      · rw [gup_ne nwp, gup_same, stk_cons]
        rfl
      · simp only [List.length_cons, List.length_reverse]; omega
      · rintro σ G hs ⟨a, b, c⟩ hw'
        have e1 : (ts.reverse.map fun u => Ins.term (id u)).reverse = ts.map Ins.term := by rw [← List.map_reverse, List.reverse_reverse]; rfl
        rw [e1] at hw'
        refine aft _ σ G hs a b hw' (by rw [runI_node]; exact run) ?_ ?_
        · intro i hi'
          rcases List.mem_append.mp hi' with h | h
          · obtain ⟨u, hu, rfl⟩ := List.mem_map.mp h
            exact (allS_iff _ _).mp hi u hu
          · rcases List.mem_cons.mp h with rfl | h
            · trivial
            · exact hall' _ h
        · rw [wts_append, wts_cons, ← wtS_sum, Trm.wt]
          simp only [Ins.wt]
          omega
    | map es =>
      simp only [eOp, eUn, eVar, eC, eTest, eTru, rTru, eCa, aNil, aCons, eTup, eLst, rInt, rIxd, rAdd, rIntOf, rStrOf, rLen, rTupOf, rLstOf, rEq, rIsN, rNeg, rMin, rMax, eIf, bAnd, bOr, bNot, bYes, eMtL, eMtL0, rAppend, rPop, rExtend, rInsert, rReverse, rClear, eGet1, eGet2, rGet, isDic, gNm, gsNil, gsCons, gTp, gSb, rSet, eSl, rSl, oNone, oSome, iAny, iRg1, iRg2, eLc, eDc, dwipe, CT.put, setMany, sNext, sBreak, sCont, sRetN, sNever, keyD, kD, List.getElem?_cons_zero, List.getElem?_cons_succ, List.set_cons_zero, List.set_cons_succ, List.length_cons, List.length_nil, List.cons_append, List.nil_append, atI_0, atI_1, atI_2, atI_3, atI_4, ixN_0, ixN_1, ixN_2, ixN_3, ofString_inj, String.reduceEq, decide_true, decide_false, decide_not, beq_self_eq_true, Bool.not_true, Bool.not_false, Bool.false_eq_true, Bool.true_eq_false, if_true, if_false, ite_true, ite_false, beq_t, beq_f, true_and, and_true, not_true_eq_false, not_false_eq_true, forall_const, gup_get, eq_self, reduceCtorEq, reduceIte, Trm.toD]
      refine kf _ (sIf_i fun k kt kf => ?_)
      simp only [eOp, eUn, eVar, eC, eTest, eTru, rTru, eCa, aNil, aCons, eTup, eLst, rInt, rIxd, rAdd, rIntOf, rStrOf, rLen, rTupOf, rLstOf, rEq, rIsN, rNeg, rMin, rMax, eIf, bAnd, bOr, bNot, bYes, eMtL, eMtL0, rAppend, rPop, rExtend, rInsert, rReverse, rClear, eGet1, eGet2, rGet, isDic, gNm, gsNil, gsCons, gTp, gSb, rSet, eSl, rSl, oNone, oSome, iAny, iRg1, iRg2, eLc, eDc, dwipe, CT.put, setMany, sNext, sBreak, sCont, sRetN, sNever, keyD, kD, List.getElem?_cons_zero, List.getElem?_cons_succ, List.set_cons_zero, List.set_cons_succ, List.length_cons, List.length_nil, List.cons_append, List.nil_append, atI_0, atI_1, atI_2, atI_3, atI_4, ixN_0, ixN_1, ixN_2, ixN_3, ofString_inj, String.reduceEq, decide_true, decide_false, decide_not, beq_self_eq_true, Bool.not_true, Bool.not_false, Bool.false_eq_true, Bool.true_eq_false, if_true, if_false, ite_true, ite_false, beq_t, beq_f, true_and, and_true, not_true_eq_false, not_false_eq_true, forall_const, gup_get, eq_self, reduceCtorEq, reduceIte, Trm.toD]
      refine kt _ ?_
      refine qSet_i fun k kn => ?_
      simp only [eOp, eUn, eVar, eC, eTest, eTru, rTru, eCa, aNil, aCons, eTup, eLst, rInt, rIxd, rAdd, rIntOf, rStrOf, rLen, rTupOf, rLstOf, rEq, rIsN, rNeg, rMin, rMax, eIf, bAnd, bOr, bNot, bYes, eMtL, eMtL0, rAppend, rPop, rExtend, rInsert, rReverse, rClear, eGet1, eGet2, rGet, isDic, gNm, gsNil, gsCons, gTp, gSb, rSet, eSl, rSl, oNone, oSome, iAny, iRg1, iRg2, eLc, eDc, dwipe, CT.put, setMany, sNext, sBreak, sCont, sRetN, sNever, keyD, kD, List.getElem?_cons_zero, List.getElem?_cons_succ, List.set_cons_zero, List.set_cons_succ, List.length_cons, List.length_nil, List.cons_append, List.nil_append, atI_0, atI_1, atI_2, atI_3, atI_4, ixN_0, ixN_1, ixN_2, ixN_3, ofString_inj, String.reduceEq, decide_true, decide_false, decide_not, beq_self_eq_true, Bool.not_true, Bool.not_false, Bool.false_eq_true, Bool.true_eq_false, if_true, if_false, ite_true, ite_false, beq_t, beq_f, true_and, and_true, not_true_eq_false, not_false_eq_true, forall_const, gup_get, eq_self, reduceCtorEq, reduceIte, Trm.toD]
      have le : (Trm.esD es).length = es.length := by rw [esD_map, List.length_map]
      simp only [Ins.wt, Trm.wt] at hb
      have les : es.length ≤ Trm.wtE es := by rw [wtE_sum]; have := len_wts ((es.map (·.2)).map Ins.term); rwa [List.length_map, List.length_map] at this
      refine lcL_pure (f := fun d => match d with | .tup [a, _] => a | _ => .non) (fun x hx => ?_) trivial (by rw [le]; simp; omega) ?_
      · rw [esD_map] at hx
        obtain ⟨e, he, rfl⟩ := List.mem_map.mp hx
        exact ⟨_, rfl, fun k hk => hk⟩
      intro p hp
      have ews : ([] ++ (Trm.esD es).map fun d => match d with | .tup [a, _] => a | _ => D.non) = (es.map (·.1)).map D.str := by rw [esD_map, List.map_map, List.map_map]; rfl
      rw [ews]
      refine kn _ _ ?_
      try dsimp only [List.set_cons_zero, List.set_cons_succ]
      have nwp : w ≠ p := ne_none h2' hp
      have nmp : m ≠ p := ne_none h1' hp
      have h1p : gup G1 p (.lst ((es.map (·.1)).map D.str)) m = some (.lst (stk Sy.toD made)) := (gup_ne nmp).trans h1'
      have h2p : gup G1 p (.lst ((es.map (·.1)).map D.str)) w = some (.lst (stk Ins.toD is)) := (gup_ne nwp).trans h2'
      have exp : Ext G0 (gup G1 p (.lst ((es.map (·.1)).map D.str))) := ex'.trans (Ext.new hp)
      generalize gup G1 p (.lst ((es.map (·.1)).map D.str)) = G2 at h1p h2p exp ⊢
      refine qDrop_i fun k kn => ?_
      simp only [eOp, eUn, eVar, eC, eTest, eTru, rTru, eCa, aNil, aCons, eTup, eLst, rInt, rIxd, rAdd, rIntOf, rStrOf, rLen, rTupOf, rLstOf, rEq, rIsN, rNeg, rMin, rMax, eIf, bAnd, bOr, bNot, bYes, eMtL, eMtL0, rAppend, rPop, rExtend, rInsert, rReverse, rClear, eGet1, eGet2, rGet, isDic, gNm, gsNil, gsCons, gTp, gSb, rSet, eSl, rSl, oNone, oSome, iAny, iRg1, iRg2, eLc, eDc, dwipe, CT.put, setMany, sNext, sBreak, sCont, sRetN, sNever, keyD, kD, List.getElem?_cons_zero, List.getElem?_cons_succ, List.set_cons_zero, List.set_cons_succ, List.length_cons, List.length_nil, List.cons_append, List.nil_append, atI_0, atI_1, atI_2, atI_3, atI_4, ixN_0, ixN_1, ixN_2, ixN_3, ofString_inj, String.reduceEq, decide_true, decide_false, decide_not, beq_self_eq_true, Bool.not_true, Bool.not_false, Bool.false_eq_true, Bool.true_eq_false, if_true, if_false, ite_true, ite_false, beq_t, beq_f, true_and, and_true, not_true_eq_false, not_false_eq_true, forall_const, gup_get, eq_self, reduceCtorEq, reduceIte, h2p]
      refine ⟨by decide, by decide, by simp [stk]; omega, kn _ _ ?_⟩
      refine sFor_i fun k kn => ?_
      simp only [eOp, eUn, eVar, eC, eTest, eTru, rTru, eCa, aNil, aCons, eTup, eLst, rInt, rIxd, rAdd, rIntOf, rStrOf, rLen, rTupOf, rLstOf, rEq, rIsN, rNeg, rMin, rMax, eIf, bAnd, bOr, bNot, bYes, eMtL, eMtL0, rAppend, rPop, rExtend, rInsert, rReverse, rClear, eGet1, eGet2, rGet, isDic, gNm, gsNil, gsCons, gTp, gSb, rSet, eSl, rSl, oNone, oSome, iAny, iRg1, iRg2, eLc, eDc, dwipe, CT.put, setMany, sNext, sBreak, sCont, sRetN, sNever, keyD, kD, List.getElem?_cons_zero, List.getElem?_cons_succ, List.set_cons_zero, List.set_cons_succ, List.length_cons, List.length_nil, List.cons_append, List.nil_append, atI_0, atI_1, atI_2, atI_3, atI_4, ixN_0, ixN_1, ixN_2, ixN_3, ofString_inj, String.reduceEq, decide_true, decide_false, decide_not, beq_self_eq_true, Bool.not_true, Bool.not_false, Bool.false_eq_true, Bool.true_eq_false, if_true, if_false, ite_true, ite_false, beq_t, beq_f, true_and, and_true, not_true_eq_false, not_false_eq_true, forall_const, gup_get, eq_self, reduceCtorEq, reduceIte]
      intro r hr
      simp only [gup_same]
      refine kn _ _ _ ?_
      rw [esD_map, ← List.map_reverse]
      have nwr : w ≠ r := ne_none gup_same hr
      have nmr : m ≠ r := ne_none ((gup_ne nmw).trans h1p) hr
      refine push_loop (S := fun σ => ∃ x4 x5 x6 x7 x8, σ = [some t.toD, some (.ref tb), some (.ref m), some (.ref w), x4, x5, x6, x7, x8]) (J := fun G => G m = some (.lst (stk Sy.toD made)) ∧ Ext G0 G ∧ G r = some (.lst (es.reverse.map fun e => .tup [.str e.1, e.2.toD]))) (w := w) (fun e => .tup [.str e.1, e.2.toD]) (·.2) ?_ ?_ ?_ ?_ es.reverse (.bmap (es.map (·.1)) :: is) _ _ ⟨_, _, _, _, _, rfl⟩ ?_ ?_ ?_ ?_
      · rintro σ ⟨_, _, _, _, _, rfl⟩; rfl
      · rintro u σ G k ⟨_, _, _, _, _, rfl⟩ hk
        exact gTp2_i (hk _ ⟨_, _, _, _, _, rfl⟩ rfl)
      · rintro G o ⟨a, b, c⟩
        exact ⟨(gup_ne nmw).trans a, b.put hw0, (gup_ne (Ne.symm nwr)).trans c⟩
      · rintro G ⟨a, b, c⟩
        exact .inl c
      · refine ⟨(gup_ne nmr).trans ((gup_ne nmw).trans h1p), (exp.put hw0).trans (Ext.new hr), gup_same⟩
      · rw [gup_ne nwr, gup_same, stk_cons]
        simp [Ins.toD]
      · simp only [List.length_cons, List.length_reverse]; omega
      · rintro σ G hs ⟨a, b, c⟩ hw'
        have e1 : (es.reverse.map fun u => Ins.term u.2).reverse = (es.map (·.2)).map Ins.term := by rw [← List.map_reverse, List.reverse_reverse, List.map_map]; rfl
        rw [e1] at hw'
        refine aft _ σ G hs a b hw' (by rw [runI_map]; exact run) ?_ ?_
        · intro i hi'
          rcases List.mem_append.mp hi' with h | h
          · obtain ⟨u, hu, rfl⟩ := List.mem_map.mp h
            obtain ⟨e, he, rfl⟩ := List.mem_map.mp hu
            exact (allE_iff _ _).mp hi e he
          · rcases List.mem_cons.mp h with rfl | h
            · trivial
            · exact hall' _ h
        · rw [wts_append, wts_cons, ← wtE_sum, Trm.wt]
          simp only [Ins.wt]
          omega
end Dn.My

namespace Dn.My
open PySem PySem.Spec PyProof.Rows L2 Dn

/-! ### size -/
mutual
def Sy.sz : Sy → Nat
  | .map es => 1 + Sy.szE es
  | .node _ ts => 1 + Sy.szS ts
  | _ => 1
def Sy.szE : List (Str × Sy) → Nat
  | [] => 0
  | (_, t) :: es => (1 + t.sz) + Sy.szE es
def Sy.szS : List Sy → Nat
  | [] => 0
  | t :: ts => t.sz + Sy.szS ts
end
def szs (ts : List Sy) : Nat := (ts.map Sy.sz).sum
theorem szs_cons (t : Sy) (ts : List Sy) : szs (t :: ts) = t.sz + szs ts := by simp [szs]
theorem szs_append (ts us : List Sy) : szs (ts ++ us) = szs ts + szs us := by simp [szs]
theorem szs_reverse (ts : List Sy) : szs ts.reverse = szs ts := by induction ts with
  | nil => rfl
  | cons t ts ih => rw [List.reverse_cons, szs_append, ih, szs_cons, szs_cons]; simp [szs]; omega
theorem szS_sum : ∀ ts : List Sy, Sy.szS ts = szs ts
  | [] => rfl
  | t :: ts => by rw [Sy.szS, szS_sum ts, szs_cons]
theorem szE_sum : ∀ es : List (Str × Sy), Sy.szE es = es.length + szs (es.map (·.2))
  | [] => rfl
  | (w, t) :: es => by rw [Sy.szE, szE_sum es, List.map_cons, szs_cons, List.length_cons]; simp only []; omega
theorem Sy.sz_pos (t : Sy) : 1 ≤ t.sz := by cases t <;> simp [Sy.sz]
theorem len_szs : ∀ ts : List Sy, ts.length ≤ szs ts
  | [] => Nat.zero_le _
  | t :: ts => by
    have := t.sz_pos
    have := len_szs ts
    rw [szs_cons, List.length_cons]
    omega
def sp_size : DSp := fun ds G Q => ∃ s : Sy, ds = [s.toD] ∧ s.sz < sizeLine ∧ ∀ G', Ext G G' → Q (.int s.sz) G'
theorem sem_size {E : DEnds} {G0 : GP} {s : Sy} (hz : s.sz < sizeLine) (q : ∀ G', Ext G0 G' → E.rt (.int s.sz) G') :
    rd_size E (dstart n_size [s.toD]) G0 := by
  show rd_size E [some s.toD, none, none, none, none, none] G0
  unfold rd_size
  refine qSet_i fun k kn => ?_
  simp only [eOp, eUn, eVar, eC, eTest, eTru, rTru, eCa, aNil, aCons, eTup, eLst, rInt, rIxd, rAdd, rIntOf, rStrOf, rLen, rTupOf, rLstOf, rEq, rIsN, rNeg, rMin, rMax, eIf, bAnd, bOr, bNot, bYes, eMtL, eMtL0, rAppend, rPop, rExtend, rInsert, rReverse, rClear, eGet1, eGet2, rGet, isDic, gNm, gsNil, gsCons, gTp, gSb, rSet, eSl, rSl, oNone, oSome, iAny, iRg1, iRg2, eLc, eDc, dwipe, CT.put, setMany, sNext, sBreak, sCont, sRetN, sNever, keyD, kD, List.getElem?_cons_zero, List.getElem?_cons_succ, List.set_cons_zero, List.set_cons_succ, List.length_cons, List.length_nil, List.cons_append, List.nil_append, atI_0, atI_1, atI_2, atI_3, atI_4, ixN_0, ixN_1, ixN_2, ixN_3, ofString_inj, String.reduceEq, decide_true, decide_false, decide_not, beq_self_eq_true, Bool.not_true, Bool.not_false, Bool.false_eq_true, Bool.true_eq_false, if_true, if_false, ite_true, ite_false, beq_t, beq_f, true_and, and_true, not_true_eq_false, not_false_eq_true, forall_const, gup_get, eq_self, reduceCtorEq, reduceIte]
  refine kn _ _ ?_
  try dsimp only [List.set_cons_zero, List.set_cons_succ]
  refine qSet_i fun k kn => ?_
  simp only [eOp, eUn, eVar, eC, eTest, eTru, rTru, eCa, aNil, aCons, eTup, eLst, rInt, rIxd, rAdd, rIntOf, rStrOf, rLen, rTupOf, rLstOf, rEq, rIsN, rNeg, rMin, rMax, eIf, bAnd, bOr, bNot, bYes, eMtL, eMtL0, rAppend, rPop, rExtend, rInsert, rReverse, rClear, eGet1, eGet2, rGet, isDic, gNm, gsNil, gsCons, gTp, gSb, rSet, eSl, rSl, oNone, oSome, iAny, iRg1, iRg2, eLc, eDc, dwipe, CT.put, setMany, sNext, sBreak, sCont, sRetN, sNever, keyD, kD, List.getElem?_cons_zero, List.getElem?_cons_succ, List.set_cons_zero, List.set_cons_succ, List.length_cons, List.length_nil, List.cons_append, List.nil_append, atI_0, atI_1, atI_2, atI_3, atI_4, ixN_0, ixN_1, ixN_2, ixN_3, ofString_inj, String.reduceEq, decide_true, decide_false, decide_not, beq_self_eq_true, Bool.not_true, Bool.not_false, Bool.false_eq_true, Bool.true_eq_false, if_true, if_false, ite_true, ite_false, beq_t, beq_f, true_and, and_true, not_true_eq_false, not_false_eq_true, forall_const, gup_get, eq_self, reduceCtorEq, reduceIte]
  refine ⟨by decide, fun w hw => ?_⟩
  refine kn _ _ ?_
  try dsimp only [List.set_cons_zero, List.set_cons_succ]
  refine qWhile_i (fun n σ G => ∃ (is : List Sy) (many : Nat) (x3 x4 x5 : Option D), σ = [some s.toD, some (.int many), some (.ref w), x3, x4, x5] ∧ n = szs is ∧ G w = some (.lst (stk Sy.toD is)) ∧ Ext G0 G ∧ many + szs is = s.sz) (m := s.sz) ?_ ?_
  · exact ⟨[s], 0, _, _, _, rfl, by simp [szs], gup_same, Ext.new hw, by simp [szs]⟩
  rintro n σ G k1 k ⟨is, many, x3, x4, x5, rfl, rfl, h2, ex, hb⟩ again kt kf
  simp only [eOp, eUn, eVar, eC, eTest, eTru, rTru, eCa, aNil, aCons, eTup, eLst, rInt, rIxd, rAdd, rIntOf, rStrOf, rLen, rTupOf, rLstOf, rEq, rIsN, rNeg, rMin, rMax, eIf, bAnd, bOr, bNot, bYes, eMtL, eMtL0, rAppend, rPop, rExtend, rInsert, rReverse, rClear, eGet1, eGet2, rGet, isDic, gNm, gsNil, gsCons, gTp, gSb, rSet, eSl, rSl, oNone, oSome, iAny, iRg1, iRg2, eLc, eDc, dwipe, CT.put, setMany, sNext, sBreak, sCont, sRetN, sNever, keyD, kD, List.getElem?_cons_zero, List.getElem?_cons_succ, List.set_cons_zero, List.set_cons_succ, List.length_cons, List.length_nil, List.cons_append, List.nil_append, atI_0, atI_1, atI_2, atI_3, atI_4, ixN_0, ixN_1, ixN_2, ixN_3, ofString_inj, String.reduceEq, decide_true, decide_false, decide_not, beq_self_eq_true, Bool.not_true, Bool.not_false, Bool.false_eq_true, Bool.true_eq_false, if_true, if_false, ite_true, ite_false, beq_t, beq_f, true_and, and_true, not_true_eq_false, not_false_eq_true, forall_const, gup_get, eq_self, reduceCtorEq, reduceIte, h2, stk_empty]
  cases is with
  | nil =>
    refine kf _ (sRet_i ?_)
    have e1 : many = s.sz := by simpa [szs] using hb
    subst e1
    simp only [eOp, eUn, eVar, eC, eTest, eTru, rTru, eCa, aNil, aCons, eTup, eLst, rInt, rIxd, rAdd, rIntOf, rStrOf, rLen, rTupOf, rLstOf, rEq, rIsN, rNeg, rMin, rMax, eIf, bAnd, bOr, bNot, bYes, eMtL, eMtL0, rAppend, rPop, rExtend, rInsert, rReverse, rClear, eGet1, eGet2, rGet, isDic, gNm, gsNil, gsCons, gTp, gSb, rSet, eSl, rSl, oNone, oSome, iAny, iRg1, iRg2, eLc, eDc, dwipe, CT.put, setMany, sNext, sBreak, sCont, sRetN, sNever, keyD, kD, List.getElem?_cons_zero, List.getElem?_cons_succ, List.set_cons_zero, List.set_cons_succ, List.length_cons, List.length_nil, List.cons_append, List.nil_append, atI_0, atI_1, atI_2, atI_3, atI_4, ixN_0, ixN_1, ixN_2, ixN_3, ofString_inj, String.reduceEq, decide_true, decide_false, decide_not, beq_self_eq_true, Bool.not_true, Bool.not_false, Bool.false_eq_true, Bool.true_eq_false, if_true, if_false, ite_true, ite_false, beq_t, beq_f, true_and, and_true, not_true_eq_false, not_false_eq_true, forall_const, gup_get, eq_self, reduceCtorEq, reduceIte]
    exact q _ ex
  | cons i is =>
  rw [szs_cons] at hb
  have lis := len_szs is
  refine kt _ (qSet_i fun k kn => ?_)
  simp only [eOp, eUn, eVar, eC, eTest, eTru, rTru, eCa, aNil, aCons, eTup, eLst, rInt, rIxd, rAdd, rIntOf, rStrOf, rLen, rTupOf, rLstOf, rEq, rIsN, rNeg, rMin, rMax, eIf, bAnd, bOr, bNot, bYes, eMtL, eMtL0, rAppend, rPop, rExtend, rInsert, rReverse, rClear, eGet1, eGet2, rGet, isDic, gNm, gsNil, gsCons, gTp, gSb, rSet, eSl, rSl, oNone, oSome, iAny, iRg1, iRg2, eLc, eDc, dwipe, CT.put, setMany, sNext, sBreak, sCont, sRetN, sNever, keyD, kD, List.getElem?_cons_zero, List.getElem?_cons_succ, List.set_cons_zero, List.set_cons_succ, List.length_cons, List.length_nil, List.cons_append, List.nil_append, atI_0, atI_1, atI_2, atI_3, atI_4, ixN_0, ixN_1, ixN_2, ixN_3, ofString_inj, String.reduceEq, decide_true, decide_false, decide_not, beq_self_eq_true, Bool.not_true, Bool.not_false, Bool.false_eq_true, Bool.true_eq_false, if_true, if_false, ite_true, ite_false, beq_t, beq_f, true_and, and_true, not_true_eq_false, not_false_eq_true, forall_const, gup_get, eq_self, reduceCtorEq, reduceIte]
  have p1 : (stk Sy.toD (i :: is))[(stk Sy.toD (i :: is)).length - 1]? = some i.toD := by rw [stk_cons]; simp
  have p2 : (stk Sy.toD (i :: is)).dropLast = stk Sy.toD is := by rw [stk_cons]; simp
  simp only [h2, p1, p2]
  have h2' : gup G w (.lst (stk Sy.toD is)) w = some (.lst (stk Sy.toD is)) := gup_same
  have ex' : Ext G0 (gup G w (.lst (stk Sy.toD is))) := ex.put hw
  generalize gup G w (.lst (stk Sy.toD is)) = G1 at h2' ex' ⊢
  refine kn _ _ (qAug_i (x := .int many) rfl fun k kn => ?_)
  simp only [eOp, eUn, eVar, eC, eTest, eTru, rTru, eCa, aNil, aCons, eTup, eLst, rInt, rIxd, rAdd, rIntOf, rStrOf, rLen, rTupOf, rLstOf, rEq, rIsN, rNeg, rMin, rMax, eIf, bAnd, bOr, bNot, bYes, eMtL, eMtL0, rAppend, rPop, rExtend, rInsert, rReverse, rClear, eGet1, eGet2, rGet, isDic, gNm, gsNil, gsCons, gTp, gSb, rSet, eSl, rSl, oNone, oSome, iAny, iRg1, iRg2, eLc, eDc, dwipe, CT.put, setMany, sNext, sBreak, sCont, sRetN, sNever, keyD, kD, List.getElem?_cons_zero, List.getElem?_cons_succ, List.set_cons_zero, List.set_cons_succ, List.length_cons, List.length_nil, List.cons_append, List.nil_append, atI_0, atI_1, atI_2, atI_3, atI_4, ixN_0, ixN_1, ixN_2, ixN_3, ofString_inj, String.reduceEq, decide_true, decide_false, decide_not, beq_self_eq_true, Bool.not_true, Bool.not_false, Bool.false_eq_true, Bool.true_eq_false, if_true, if_false, ite_true, ite_false, beq_t, beq_f, true_and, and_true, not_true_eq_false, not_false_eq_true, forall_const, gup_get, eq_self, reduceCtorEq, reduceIte]
  refine kn _ _ (sIf_i fun k kt kf => ?_)
  have leafy : i.sz = 1 → ∀ x3, k1 [some s.toD, some (.int (many + 1)), some (.ref w), x3, x4, x5] G1 := fun e x3 =>
    again (szs is) _ _ (by rw [szs_cons]; omega) ⟨is, many + 1, _, _, _, rfl, rfl, h2', ex', by omega⟩
  cases i with
  | sum ps n =>
    simp only [eOp, eUn, eVar, eC, eTest, eTru, rTru, eCa, aNil, aCons, eTup, eLst, rInt, rIxd, rAdd, rIntOf, rStrOf, rLen, rTupOf, rLstOf, rEq, rIsN, rNeg, rMin, rMax, eIf, bAnd, bOr, bNot, bYes, eMtL, eMtL0, rAppend, rPop, rExtend, rInsert, rReverse, rClear, eGet1, eGet2, rGet, isDic, gNm, gsNil, gsCons, gTp, gSb, rSet, eSl, rSl, oNone, oSome, iAny, iRg1, iRg2, eLc, eDc, dwipe, CT.put, setMany, sNext, sBreak, sCont, sRetN, sNever, keyD, kD, List.getElem?_cons_zero, List.getElem?_cons_succ, List.set_cons_zero, List.set_cons_succ, List.length_cons, List.length_nil, List.cons_append, List.nil_append, atI_0, atI_1, atI_2, atI_3, atI_4, ixN_0, ixN_1, ixN_2, ixN_3, ofString_inj, String.reduceEq, decide_true, decide_false, decide_not, beq_self_eq_true, Bool.not_true, Bool.not_false, Bool.false_eq_true, Bool.true_eq_false, if_true, if_false, ite_true, ite_false, beq_t, beq_f, true_and, and_true, not_true_eq_false, not_false_eq_true, forall_const, gup_get, eq_self, reduceCtorEq, reduceIte, Sy.toD]
    refine kf _ (sIf_i fun k kt kf => ?_)
    simp only [eOp, eUn, eVar, eC, eTest, eTru, rTru, eCa, aNil, aCons, eTup, eLst, rInt, rIxd, rAdd, rIntOf, rStrOf, rLen, rTupOf, rLstOf, rEq, rIsN, rNeg, rMin, rMax, eIf, bAnd, bOr, bNot, bYes, eMtL, eMtL0, rAppend, rPop, rExtend, rInsert, rReverse, rClear, eGet1, eGet2, rGet, isDic, gNm, gsNil, gsCons, gTp, gSb, rSet, eSl, rSl, oNone, oSome, iAny, iRg1, iRg2, eLc, eDc, dwipe, CT.put, setMany, sNext, sBreak, sCont, sRetN, sNever, keyD, kD, List.getElem?_cons_zero, List.getElem?_cons_succ, List.set_cons_zero, List.set_cons_succ, List.length_cons, List.length_nil, List.cons_append, List.nil_append, atI_0, atI_1, atI_2, atI_3, atI_4, ixN_0, ixN_1, ixN_2, ixN_3, ofString_inj, String.reduceEq, decide_true, decide_false, decide_not, beq_self_eq_true, Bool.not_true, Bool.not_false, Bool.false_eq_true, Bool.true_eq_false, if_true, if_false, ite_true, ite_false, beq_t, beq_f, true_and, and_true, not_true_eq_false, not_false_eq_true, forall_const, gup_get, eq_self, reduceCtorEq, reduceIte, Sy.toD]
    exact kf _ (leafy rfl _)
  | name n =>
    simp only [eOp, eUn, eVar, eC, eTest, eTru, rTru, eCa, aNil, aCons, eTup, eLst, rInt, rIxd, rAdd, rIntOf, rStrOf, rLen, rTupOf, rLstOf, rEq, rIsN, rNeg, rMin, rMax, eIf, bAnd, bOr, bNot, bYes, eMtL, eMtL0, rAppend, rPop, rExtend, rInsert, rReverse, rClear, eGet1, eGet2, rGet, isDic, gNm, gsNil, gsCons, gTp, gSb, rSet, eSl, rSl, oNone, oSome, iAny, iRg1, iRg2, eLc, eDc, dwipe, CT.put, setMany, sNext, sBreak, sCont, sRetN, sNever, keyD, kD, List.getElem?_cons_zero, List.getElem?_cons_succ, List.set_cons_zero, List.set_cons_succ, List.length_cons, List.length_nil, List.cons_append, List.nil_append, atI_0, atI_1, atI_2, atI_3, atI_4, ixN_0, ixN_1, ixN_2, ixN_3, ofString_inj, String.reduceEq, decide_true, decide_false, decide_not, beq_self_eq_true, Bool.not_true, Bool.not_false, Bool.false_eq_true, Bool.true_eq_false, if_true, if_false, ite_true, ite_false, beq_t, beq_f, true_and, and_true, not_true_eq_false, not_false_eq_true, forall_const, gup_get, eq_self, reduceCtorEq, reduceIte, Sy.toD]
    refine kf _ (sIf_i fun k kt kf => ?_)
    simp only [eOp, eUn, eVar, eC, eTest, eTru, rTru, eCa, aNil, aCons, eTup, eLst, rInt, rIxd, rAdd, rIntOf, rStrOf, rLen, rTupOf, rLstOf, rEq, rIsN, rNeg, rMin, rMax, eIf, bAnd, bOr, bNot, bYes, eMtL, eMtL0, rAppend, rPop, rExtend, rInsert, rReverse, rClear, eGet1, eGet2, rGet, isDic, gNm, gsNil, gsCons, gTp, gSb, rSet, eSl, rSl, oNone, oSome, iAny, iRg1, iRg2, eLc, eDc, dwipe, CT.put, setMany, sNext, sBreak, sCont, sRetN, sNever, keyD, kD, List.getElem?_cons_zero, List.getElem?_cons_succ, List.set_cons_zero, List.set_cons_succ, List.length_cons, List.length_nil, List.cons_append, List.nil_append, atI_0, atI_1, atI_2, atI_3, atI_4, ixN_0, ixN_1, ixN_2, ixN_3, ofString_inj, String.reduceEq, decide_true, decide_false, decide_not, beq_self_eq_true, Bool.not_true, Bool.not_false, Bool.false_eq_true, Bool.true_eq_false, if_true, if_false, ite_true, ite_false, beq_t, beq_f, true_and, and_true, not_true_eq_false, not_false_eq_true, forall_const, gup_get, eq_self, reduceCtorEq, reduceIte, Sy.toD]
    exact kf _ (leafy rfl _)
  | addr n =>
    simp only [eOp, eUn, eVar, eC, eTest, eTru, rTru, eCa, aNil, aCons, eTup, eLst, rInt, rIxd, rAdd, rIntOf, rStrOf, rLen, rTupOf, rLstOf, rEq, rIsN, rNeg, rMin, rMax, eIf, bAnd, bOr, bNot, bYes, eMtL, eMtL0, rAppend, rPop, rExtend, rInsert, rReverse, rClear, eGet1, eGet2, rGet, isDic, gNm, gsNil, gsCons, gTp, gSb, rSet, eSl, rSl, oNone, oSome, iAny, iRg1, iRg2, eLc, eDc, dwipe, CT.put, setMany, sNext, sBreak, sCont, sRetN, sNever, keyD, kD, List.getElem?_cons_zero, List.getElem?_cons_succ, List.set_cons_zero, List.set_cons_succ, List.length_cons, List.length_nil, List.cons_append, List.nil_append, atI_0, atI_1, atI_2, atI_3, atI_4, ixN_0, ixN_1, ixN_2, ixN_3, ofString_inj, String.reduceEq, decide_true, decide_false, decide_not, beq_self_eq_true, Bool.not_true, Bool.not_false, Bool.false_eq_true, Bool.true_eq_false, if_true, if_false, ite_true, ite_false, beq_t, beq_f, true_and, and_true, not_true_eq_false, not_false_eq_true, forall_const, gup_get, eq_self, reduceCtorEq, reduceIte, Sy.toD]
    refine kf _ (sIf_i fun k kt kf => ?_)
    simp only [eOp, eUn, eVar, eC, eTest, eTru, rTru, eCa, aNil, aCons, eTup, eLst, rInt, rIxd, rAdd, rIntOf, rStrOf, rLen, rTupOf, rLstOf, rEq, rIsN, rNeg, rMin, rMax, eIf, bAnd, bOr, bNot, bYes, eMtL, eMtL0, rAppend, rPop, rExtend, rInsert, rReverse, rClear, eGet1, eGet2, rGet, isDic, gNm, gsNil, gsCons, gTp, gSb, rSet, eSl, rSl, oNone, oSome, iAny, iRg1, iRg2, eLc, eDc, dwipe, CT.put, setMany, sNext, sBreak, sCont, sRetN, sNever, keyD, kD, List.getElem?_cons_zero, List.getElem?_cons_succ, List.set_cons_zero, List.set_cons_succ, List.length_cons, List.length_nil, List.cons_append, List.nil_append, atI_0, atI_1, atI_2, atI_3, atI_4, ixN_0, ixN_1, ixN_2, ixN_3, ofString_inj, String.reduceEq, decide_true, decide_false, decide_not, beq_self_eq_true, Bool.not_true, Bool.not_false, Bool.false_eq_true, Bool.true_eq_false, if_true, if_false, ite_true, ite_false, beq_t, beq_f, true_and, and_true, not_true_eq_false, not_false_eq_true, forall_const, gup_get, eq_self, reduceCtorEq, reduceIte, Sy.toD]
    exact kf _ (leafy rfl _)
  | unk n =>
    simp only [eOp, eUn, eVar, eC, eTest, eTru, rTru, eCa, aNil, aCons, eTup, eLst, rInt, rIxd, rAdd, rIntOf, rStrOf, rLen, rTupOf, rLstOf, rEq, rIsN, rNeg, rMin, rMax, eIf, bAnd, bOr, bNot, bYes, eMtL, eMtL0, rAppend, rPop, rExtend, rInsert, rReverse, rClear, eGet1, eGet2, rGet, isDic, gNm, gsNil, gsCons, gTp, gSb, rSet, eSl, rSl, oNone, oSome, iAny, iRg1, iRg2, eLc, eDc, dwipe, CT.put, setMany, sNext, sBreak, sCont, sRetN, sNever, keyD, kD, List.getElem?_cons_zero, List.getElem?_cons_succ, List.set_cons_zero, List.set_cons_succ, List.length_cons, List.length_nil, List.cons_append, List.nil_append, atI_0, atI_1, atI_2, atI_3, atI_4, ixN_0, ixN_1, ixN_2, ixN_3, ofString_inj, String.reduceEq, decide_true, decide_false, decide_not, beq_self_eq_true, Bool.not_true, Bool.not_false, Bool.false_eq_true, Bool.true_eq_false, if_true, if_false, ite_true, ite_false, beq_t, beq_f, true_and, and_true, not_true_eq_false, not_false_eq_true, forall_const, gup_get, eq_self, reduceCtorEq, reduceIte, Sy.toD]
    refine kf _ (sIf_i fun k kt kf => ?_)
    simp only [eOp, eUn, eVar, eC, eTest, eTru, rTru, eCa, aNil, aCons, eTup, eLst, rInt, rIxd, rAdd, rIntOf, rStrOf, rLen, rTupOf, rLstOf, rEq, rIsN, rNeg, rMin, rMax, eIf, bAnd, bOr, bNot, bYes, eMtL, eMtL0, rAppend, rPop, rExtend, rInsert, rReverse, rClear, eGet1, eGet2, rGet, isDic, gNm, gsNil, gsCons, gTp, gSb, rSet, eSl, rSl, oNone, oSome, iAny, iRg1, iRg2, eLc, eDc, dwipe, CT.put, setMany, sNext, sBreak, sCont, sRetN, sNever, keyD, kD, List.getElem?_cons_zero, List.getElem?_cons_succ, List.set_cons_zero, List.set_cons_succ, List.length_cons, List.length_nil, List.cons_append, List.nil_append, atI_0, atI_1, atI_2, atI_3, atI_4, ixN_0, ixN_1, ixN_2, ixN_3, ofString_inj, String.reduceEq, decide_true, decide_false, decide_not, beq_self_eq_true, Bool.not_true, Bool.not_false, Bool.false_eq_true, Bool.true_eq_false, if_true, if_false, ite_true, ite_false, beq_t, beq_f, true_and, and_true, not_true_eq_false, not_false_eq_true, forall_const, gup_get, eq_self, reduceCtorEq, reduceIte, Sy.toD]
    exact kf _ (leafy rfl _)
  | node c ts =>
    simp only [Sy.sz, szS_sum] at hb
    have := len_szs ts
    simp only [eOp, eUn, eVar, eC, eTest, eTru, rTru, eCa, aNil, aCons, eTup, eLst, rInt, rIxd, rAdd, rIntOf, rStrOf, rLen, rTupOf, rLstOf, rEq, rIsN, rNeg, rMin, rMax, eIf, bAnd, bOr, bNot, bYes, eMtL, eMtL0, rAppend, rPop, rExtend, rInsert, rReverse, rClear, eGet1, eGet2, rGet, isDic, gNm, gsNil, gsCons, gTp, gSb, rSet, eSl, rSl, oNone, oSome, iAny, iRg1, iRg2, eLc, eDc, dwipe, CT.put, setMany, sNext, sBreak, sCont, sRetN, sNever, keyD, kD, List.getElem?_cons_zero, List.getElem?_cons_succ, List.set_cons_zero, List.set_cons_succ, List.length_cons, List.length_nil, List.cons_append, List.nil_append, atI_0, atI_1, atI_2, atI_3, atI_4, ixN_0, ixN_1, ixN_2, ixN_3, ofString_inj, String.reduceEq, decide_true, decide_false, decide_not, beq_self_eq_true, Bool.not_true, Bool.not_false, Bool.false_eq_true, Bool.true_eq_false, if_true, if_false, ite_true, ite_false, beq_t, beq_f, true_and, and_true, not_true_eq_false, not_false_eq_true, forall_const, gup_get, eq_self, reduceCtorEq, reduceIte, Sy.toD]
    refine kt _ (sDrop_i fun k kn => ?_)
    simp only [eOp, eUn, eVar, eC, eTest, eTru, rTru, eCa, aNil, aCons, eTup, eLst, rInt, rIxd, rAdd, rIntOf, rStrOf, rLen, rTupOf, rLstOf, rEq, rIsN, rNeg, rMin, rMax, eIf, bAnd, bOr, bNot, bYes, eMtL, eMtL0, rAppend, rPop, rExtend, rInsert, rReverse, rClear, eGet1, eGet2, rGet, isDic, gNm, gsNil, gsCons, gTp, gSb, rSet, eSl, rSl, oNone, oSome, iAny, iRg1, iRg2, eLc, eDc, dwipe, CT.put, setMany, sNext, sBreak, sCont, sRetN, sNever, keyD, kD, List.getElem?_cons_zero, List.getElem?_cons_succ, List.set_cons_zero, List.set_cons_succ, List.length_cons, List.length_nil, List.cons_append, List.nil_append, atI_0, atI_1, atI_2, atI_3, atI_4, ixN_0, ixN_1, ixN_2, ixN_3, ofString_inj, String.reduceEq, decide_true, decide_false, decide_not, beq_self_eq_true, Bool.not_true, Bool.not_false, Bool.false_eq_true, Bool.true_eq_false, if_true, if_false, ite_true, ite_false, beq_t, beq_f, true_and, and_true, not_true_eq_false, not_false_eq_true, forall_const, gup_get, eq_self, reduceCtorEq, reduceIte, h2', Sy.toD]
    have et : stk Sy.toD is ++ Sy.tsD ts = stk Sy.toD (ts.reverse ++ is) := by rw [stk_app, sD_map]; simp
    have el : (Sy.tsD ts).length = ts.length := by rw [sD_map, List.length_map]
    rw [et, el]
    refine ⟨by simp [stk]; omega, kn _ _ (again (szs (ts.reverse ++ is)) _ _ ?_ ⟨ts.reverse ++ is, many + 1, _, _, _, rfl, rfl, gup_same, ex'.put hw, ?_⟩)⟩
    · rw [szs_cons, szs_append, szs_reverse, Sy.sz, szS_sum]; omega
    · rw [szs_append, szs_reverse]; omega
  | map es =>
    simp only [Sy.sz, szE_sum] at hb
    have := len_szs (es.map (·.2))
    simp only [eOp, eUn, eVar, eC, eTest, eTru, rTru, eCa, aNil, aCons, eTup, eLst, rInt, rIxd, rAdd, rIntOf, rStrOf, rLen, rTupOf, rLstOf, rEq, rIsN, rNeg, rMin, rMax, eIf, bAnd, bOr, bNot, bYes, eMtL, eMtL0, rAppend, rPop, rExtend, rInsert, rReverse, rClear, eGet1, eGet2, rGet, isDic, gNm, gsNil, gsCons, gTp, gSb, rSet, eSl, rSl, oNone, oSome, iAny, iRg1, iRg2, eLc, eDc, dwipe, CT.put, setMany, sNext, sBreak, sCont, sRetN, sNever, keyD, kD, List.getElem?_cons_zero, List.getElem?_cons_succ, List.set_cons_zero, List.set_cons_succ, List.length_cons, List.length_nil, List.cons_append, List.nil_append, atI_0, atI_1, atI_2, atI_3, atI_4, ixN_0, ixN_1, ixN_2, ixN_3, ofString_inj, String.reduceEq, decide_true, decide_false, decide_not, beq_self_eq_true, Bool.not_true, Bool.not_false, Bool.false_eq_true, Bool.true_eq_false, if_true, if_false, ite_true, ite_false, beq_t, beq_f, true_and, and_true, not_true_eq_false, not_false_eq_true, forall_const, gup_get, eq_self, reduceCtorEq, reduceIte, Sy.toD]
    refine kf _ (sIf_i fun k kt kf => ?_)
    simp only [eOp, eUn, eVar, eC, eTest, eTru, rTru, eCa, aNil, aCons, eTup, eLst, rInt, rIxd, rAdd, rIntOf, rStrOf, rLen, rTupOf, rLstOf, rEq, rIsN, rNeg, rMin, rMax, eIf, bAnd, bOr, bNot, bYes, eMtL, eMtL0, rAppend, rPop, rExtend, rInsert, rReverse, rClear, eGet1, eGet2, rGet, isDic, gNm, gsNil, gsCons, gTp, gSb, rSet, eSl, rSl, oNone, oSome, iAny, iRg1, iRg2, eLc, eDc, dwipe, CT.put, setMany, sNext, sBreak, sCont, sRetN, sNever, keyD, kD, List.getElem?_cons_zero, List.getElem?_cons_succ, List.set_cons_zero, List.set_cons_succ, List.length_cons, List.length_nil, List.cons_append, List.nil_append, atI_0, atI_1, atI_2, atI_3, atI_4, ixN_0, ixN_1, ixN_2, ixN_3, ofString_inj, String.reduceEq, decide_true, decide_false, decide_not, beq_self_eq_true, Bool.not_true, Bool.not_false, Bool.false_eq_true, Bool.true_eq_false, if_true, if_false, ite_true, ite_false, beq_t, beq_f, true_and, and_true, not_true_eq_false, not_false_eq_true, forall_const, gup_get, eq_self, reduceCtorEq, reduceIte]
    refine kt _ (qAug_i (x := .int (many + 1)) rfl fun k kn => ?_)
    simp only [eOp, eUn, eVar, eC, eTest, eTru, rTru, eCa, aNil, aCons, eTup, eLst, rInt, rIxd, rAdd, rIntOf, rStrOf, rLen, rTupOf, rLstOf, rEq, rIsN, rNeg, rMin, rMax, eIf, bAnd, bOr, bNot, bYes, eMtL, eMtL0, rAppend, rPop, rExtend, rInsert, rReverse, rClear, eGet1, eGet2, rGet, isDic, gNm, gsNil, gsCons, gTp, gSb, rSet, eSl, rSl, oNone, oSome, iAny, iRg1, iRg2, eLc, eDc, dwipe, CT.put, setMany, sNext, sBreak, sCont, sRetN, sNever, keyD, kD, List.getElem?_cons_zero, List.getElem?_cons_succ, List.set_cons_zero, List.set_cons_succ, List.length_cons, List.length_nil, List.cons_append, List.nil_append, atI_0, atI_1, atI_2, atI_3, atI_4, ixN_0, ixN_1, ixN_2, ixN_3, ofString_inj, String.reduceEq, decide_true, decide_false, decide_not, beq_self_eq_true, Bool.not_true, Bool.not_false, Bool.false_eq_true, Bool.true_eq_false, if_true, if_false, ite_true, ite_false, beq_t, beq_f, true_and, and_true, not_true_eq_false, not_false_eq_true, forall_const, gup_get, eq_self, reduceCtorEq, reduceIte, Sy.toD]
    have el : (Sy.esD es).length = es.length := by rw [sE_map, List.length_map]
    rw [el]
    refine kn _ _ (sDrop_i fun k kn => ?_)
    simp only [eOp, eUn, eVar, eC, eTest, eTru, rTru, eCa, aNil, aCons, eTup, eLst, rInt, rIxd, rAdd, rIntOf, rStrOf, rLen, rTupOf, rLstOf, rEq, rIsN, rNeg, rMin, rMax, eIf, bAnd, bOr, bNot, bYes, eMtL, eMtL0, rAppend, rPop, rExtend, rInsert, rReverse, rClear, eGet1, eGet2, rGet, isDic, gNm, gsNil, gsCons, gTp, gSb, rSet, eSl, rSl, oNone, oSome, iAny, iRg1, iRg2, eLc, eDc, dwipe, CT.put, setMany, sNext, sBreak, sCont, sRetN, sNever, keyD, kD, List.getElem?_cons_zero, List.getElem?_cons_succ, List.set_cons_zero, List.set_cons_succ, List.length_cons, List.length_nil, List.cons_append, List.nil_append, atI_0, atI_1, atI_2, atI_3, atI_4, ixN_0, ixN_1, ixN_2, ixN_3, ofString_inj, String.reduceEq, decide_true, decide_false, decide_not, beq_self_eq_true, Bool.not_true, Bool.not_false, Bool.false_eq_true, Bool.true_eq_false, if_true, if_false, ite_true, ite_false, beq_t, beq_f, true_and, and_true, not_true_eq_false, not_false_eq_true, forall_const, gup_get, eq_self, reduceCtorEq, reduceIte, h2', Sy.toD]
    refine lcL_pure (f := fun d => match d with | .tup [_, a] => a | _ => .non) (fun x hx => ?_) trivial (by rw [el]; simp; omega) ?_
    · rw [sE_map] at hx
      obtain ⟨e, he, rfl⟩ := List.mem_map.mp hx
      exact ⟨_, rfl, fun k hk => hk⟩
    intro p hp
    have ews : ([] ++ (Sy.esD es).map fun d => match d with | .tup [_, a] => a | _ => D.non) = (es.map (·.2)).map Sy.toD := by rw [sE_map, List.map_map, List.map_map]; rfl
    rw [ews]
    have nwp : w ≠ p := ne_none h2' hp
    simp only [eOp, eUn, eVar, eC, eTest, eTru, rTru, eCa, aNil, aCons, eTup, eLst, rInt, rIxd, rAdd, rIntOf, rStrOf, rLen, rTupOf, rLstOf, rEq, rIsN, rNeg, rMin, rMax, eIf, bAnd, bOr, bNot, bYes, eMtL, eMtL0, rAppend, rPop, rExtend, rInsert, rReverse, rClear, eGet1, eGet2, rGet, isDic, gNm, gsNil, gsCons, gTp, gSb, rSet, eSl, rSl, oNone, oSome, iAny, iRg1, iRg2, eLc, eDc, dwipe, CT.put, setMany, sNext, sBreak, sCont, sRetN, sNever, keyD, kD, List.getElem?_cons_zero, List.getElem?_cons_succ, List.set_cons_zero, List.set_cons_succ, List.length_cons, List.length_nil, List.cons_append, List.nil_append, atI_0, atI_1, atI_2, atI_3, atI_4, ixN_0, ixN_1, ixN_2, ixN_3, ofString_inj, String.reduceEq, decide_true, decide_false, decide_not, beq_self_eq_true, Bool.not_true, Bool.not_false, Bool.false_eq_true, Bool.true_eq_false, if_true, if_false, ite_true, ite_false, beq_t, beq_f, true_and, and_true, not_true_eq_false, not_false_eq_true, forall_const, gup_get, eq_self, reduceCtorEq, reduceIte, nwp, h2']
    have et : stk Sy.toD is ++ (es.map (·.2)).map Sy.toD = stk Sy.toD ((es.map (·.2)).reverse ++ is) := by rw [stk_app]; simp
    rw [et]
    have e3 : ((many : Int) + 1 + (es.length : Int)) = ((many + 1 + es.length : Nat) : Int) := by omega
    refine ⟨by simp only [List.length_map] at this; simp [stk]; omega, kn _ _ (again (szs ((es.map (·.2)).reverse ++ is)) _ _ ?_ ⟨(es.map (·.2)).reverse ++ is, many + 1 + es.length, _, _, _, by rw [← e3]; rfl, rfl, gup_same, (ex'.trans (Ext.new hp)).put hw, ?_⟩)⟩
    · rw [szs_cons, szs_append, szs_reverse, Sy.sz, szE_sum]; omega
    · rw [szs_append, szs_reverse]; omega

/-! ### replaced -/
def Sy.arg (c : Str) (ts : List Sy) (k : Nat) (s : Sy) : Sy := .node c (ts.set k s)
/-- a way down through nodes -/
inductive Way : Sy → List Nat → Prop where
  | nil {s : Sy} : Way s []
  | cons {c : Str} {ts : List Sy} {k : Nat} {t : Sy} {w : List Nat} : ts[k]? = some t → Way t w → Way (.node c ts) (k :: w)
def put : Sy → List Nat → Sy → Sy
  | _, [], p => p
  | .node c ts, k :: w, p => match ts[k]? with
    | some t => .node c (ts.set k (put t w p))
    | none => .node c ts
  | s, _ :: _, _ => s
/-- the nodes above, the deepest first -/
def abv : Sy → List Nat → List (Sy × Nat)
  | .node c ts, k :: w => match ts[k]? with
    | some t => abv t w ++ [(.node c ts, k)]
    | none => []
  | _, _ => []
def rset : Sy × Nat → Sy → Sy
  | (.node c ts, k), p => .node c (ts.set k p)
  | _, p => p
theorem put_abv : ∀ {s : Sy} {w : List Nat}, Way s w → ∀ p, put s w p = (abv s w).foldl (fun p n => rset n p) p
  | s, _, .nil, p => by cases s <;> rfl
  | _, _, .cons (c := c) (ts := ts) (k := k) (t := t) (w := w) e h, p => by
    simp only [put, abv, e, List.foldl_append, List.foldl_cons, List.foldl_nil]
    rw [put_abv h]
    rfl
theorem abv_len : ∀ {s : Sy} {w : List Nat}, Way s w → (abv s w).length = w.length
  | s, _, .nil => by cases s <;> rfl
  | _, _, .cons (c := c) (ts := ts) (k := k) (t := t) (w := w) e h => by
    simp only [abv, e, List.length_append, abv_len h, List.length_cons, List.length_nil]
theorem szs_mem {t : Sy} : ∀ {ts : List Sy} {k : Nat}, ts[k]? = some t → t.sz ≤ szs ts
  | [], k, h => by simp at h
  | u :: ts, 0, h => by rw [szs_cons]; simp only [List.getElem?_cons_zero, Option.some.injEq] at h; subst h; omega
  | u :: ts, k + 1, h => by rw [szs_cons]; have := szs_mem (ts := ts) (k := k) (by simpa using h); omega
theorem abv_node : ∀ {s : Sy} {w : List Nat}, Way s w → ∀ n ∈ abv s w, ∃ c ts, n.1 = .node c ts ∧ n.2 < ts.length ∧ ts.length < s.sz
  | s, _, .nil, n, h => by cases s <;> simp [abv] at h
  | _, _, .cons (c := c) (ts := ts) (k := k) (t := t) (w := w) e h, n, hn => by
    simp only [abv, e, List.mem_append, List.mem_singleton] at hn
    have := len_szs ts
    have := szs_mem e
    rcases hn with hn | rfl
    · obtain ⟨c', ts', a, b, d⟩ := abv_node h n hn
      exact ⟨c', ts', a, b, by rw [Sy.sz, szS_sum]; omega⟩
    · exact ⟨c, ts, rfl, by have := List.getElem?_eq_some_iff.mp e; exact this.1, by rw [Sy.sz, szS_sum]; omega⟩
def wayD (w : List Nat) : List D := w.map fun (k : Nat) => D.int k
def abD (n : Sy × Nat) : D := .tup [n.1.toD, .int n.2]
theorem dcut_to {xs : List D} {k : Nat} (h : k ≤ xs.length) : dcut xs none (some (k : Int)) = xs.take k := by
  unfold dcut
  rw [HT.sIx_none, HT.sIx_nat, Nat.min_eq_left h]
  simp
def sp_replaced : DSp := fun ds G Q => ∃ (s : Sy) (w : List Nat) (p : Sy), ds = [s.toD, .tup (wayD w), p.toD] ∧ Way s w ∧ w.length < 64 ∧ s.sz < sizeLine ∧ ∀ G', Ext G G' → Q (put s w p).toD G'
theorem sem_replaced {E : DEnds} {G0 : GP} {s : Sy} {w : List Nat} {p : Sy} (hw : Way s w) (hl : w.length < 64) (hz : s.sz < sizeLine) (q : ∀ G', Ext G0 G' → E.rt (put s w p).toD G') :
    rd_replaced E (dstart n_replaced [s.toD, .tup (wayD w), p.toD]) G0 := by
  show rd_replaced E [some s.toD, some (.tup (wayD w)), some p.toD, none, none, none] G0
  unfold rd_replaced
  refine qSet_i fun k kn => ?_
  simp only [eOp, eUn, eVar, eC, eTest, eTru, rTru, eCa, aNil, aCons, eTup, eLst, rInt, rIxd, rAdd, rIntOf, rStrOf, rLen, rTupOf, rLstOf, rEq, rIsN, rNeg, rMin, rMax, eIf, bAnd, bOr, bNot, bYes, eMtL, eMtL0, rAppend, rPop, rExtend, rInsert, rReverse, rClear, eGet1, eGet2, rGet, isDic, gNm, gsNil, gsCons, gTp, gSb, rSet, eSl, rSl, oNone, oSome, iAny, iRg1, iRg2, eLc, eDc, dwipe, CT.put, setMany, sNext, sBreak, sCont, sRetN, sNever, keyD, kD, List.getElem?_cons_zero, List.getElem?_cons_succ, List.set_cons_zero, List.set_cons_succ, List.length_cons, List.length_nil, List.cons_append, List.nil_append, atI_0, atI_1, atI_2, atI_3, atI_4, ixN_0, ixN_1, ixN_2, ixN_3, ofString_inj, String.reduceEq, decide_true, decide_false, decide_not, beq_self_eq_true, Bool.not_true, Bool.not_false, Bool.false_eq_true, Bool.true_eq_false, if_true, if_false, ite_true, ite_false, beq_t, beq_f, true_and, and_true, not_true_eq_false, not_false_eq_true, forall_const, gup_get, eq_self, reduceCtorEq, reduceIte]
  refine ⟨Nat.zero_le _, fun a ha => ?_⟩
  refine kn _ _ ?_
  try dsimp only [List.set_cons_zero, List.set_cons_succ]
  refine qFor_i fun k kn => ?_
  simp only [eOp, eUn, eVar, eC, eTest, eTru, rTru, eCa, aNil, aCons, eTup, eLst, rInt, rIxd, rAdd, rIntOf, rStrOf, rLen, rTupOf, rLstOf, rEq, rIsN, rNeg, rMin, rMax, eIf, bAnd, bOr, bNot, bYes, eMtL, eMtL0, rAppend, rPop, rExtend, rInsert, rReverse, rClear, eGet1, eGet2, rGet, isDic, gNm, gsNil, gsCons, gTp, gSb, rSet, eSl, rSl, oNone, oSome, iAny, iRg1, iRg2, eLc, eDc, dwipe, CT.put, setMany, sNext, sBreak, sCont, sRetN, sNever, keyD, kD, List.getElem?_cons_zero, List.getElem?_cons_succ, List.set_cons_zero, List.set_cons_succ, List.length_cons, List.length_nil, List.cons_append, List.nil_append, atI_0, atI_1, atI_2, atI_3, atI_4, ixN_0, ixN_1, ixN_2, ixN_3, ofString_inj, String.reduceEq, decide_true, decide_false, decide_not, beq_self_eq_true, Bool.not_true, Bool.not_false, Bool.false_eq_true, Bool.true_eq_false, if_true, if_false, ite_true, ite_false, beq_t, beq_f, true_and, and_true, not_true_eq_false, not_false_eq_true, forall_const, gup_get, eq_self, reduceCtorEq, reduceIte]
  refine kn _ _ _ ?_
  refine forL_rule (I := fun xs σ G => ∃ (w' : List Nat) (u : Sy) (up : List (Sy × Nat)) (x4 x5 : Option D), σ = [some u.toD, some (.tup (wayD w)), some p.toD, some (.ref a), x4, x5] ∧ xs = wayD w' ∧ Way u w' ∧ abv s w = abv u w' ++ up ∧ G a = some (.lst (stk abD up)) ∧ Ext G0 G) ?_ ?_ _ _ _ ⟨w, s, [], _, _, rfl, rfl, hw, by simp, gup_same, Ext.new ha⟩
  · rintro x xs σ G k ⟨w', u, up, x4, x5, rfl, hxs, hwy, hab, hG, hE⟩ kk
    refine ⟨trivial, ?_⟩
    cases hwy with
    | nil => simp [wayD] at hxs
    | @cons c ts j t w2 e hwy2 =>
      simp only [wayD, List.map_cons, List.cons.injEq] at hxs
      obtain ⟨rfl, rfl⟩ := hxs
      have hup : up.length < 64 := by
        have := abv_len hw
        rw [hab, List.length_append] at this
        omega
      show sSeq _ _ _ ([some (Sy.node c ts).toD, some (.tup (wayD w)), some p.toD, some (.ref a), some (.int j), x5]) G
      refine qDrop_i fun k kn => ?_
      simp only [eOp, eUn, eVar, eC, eTest, eTru, rTru, eCa, aNil, aCons, eTup, eLst, rInt, rIxd, rAdd, rIntOf, rStrOf, rLen, rTupOf, rLstOf, rEq, rIsN, rNeg, rMin, rMax, eIf, bAnd, bOr, bNot, bYes, eMtL, eMtL0, rAppend, rPop, rExtend, rInsert, rReverse, rClear, eGet1, eGet2, rGet, isDic, gNm, gsNil, gsCons, gTp, gSb, rSet, eSl, rSl, oNone, oSome, iAny, iRg1, iRg2, eLc, eDc, dwipe, CT.put, setMany, sNext, sBreak, sCont, sRetN, sNever, keyD, kD, List.getElem?_cons_zero, List.getElem?_cons_succ, List.set_cons_zero, List.set_cons_succ, List.length_cons, List.length_nil, List.cons_append, List.nil_append, atI_0, atI_1, atI_2, atI_3, atI_4, ixN_0, ixN_1, ixN_2, ixN_3, ofString_inj, String.reduceEq, decide_true, decide_false, decide_not, beq_self_eq_true, Bool.not_true, Bool.not_false, Bool.false_eq_true, Bool.true_eq_false, if_true, if_false, ite_true, ite_false, beq_t, beq_f, true_and, and_true, not_true_eq_false, not_false_eq_true, forall_const, gup_get, eq_self, reduceCtorEq, reduceIte, hG]
      refine ⟨by decide, by simp [stk]; have := sizeLine_eq; omega, kn _ _ ?_⟩
      refine sSet_i fun k kn => ?_
      have e4 : atI (Sy.tsD ts) (j : Int) = some t.toD := by rw [atI_of_nat, sD_map, List.getElem?_map, e]; rfl
      simp only [eOp, eUn, eVar, eC, eTest, eTru, rTru, eCa, aNil, aCons, eTup, eLst, rInt, rIxd, rAdd, rIntOf, rStrOf, rLen, rTupOf, rLstOf, rEq, rIsN, rNeg, rMin, rMax, eIf, bAnd, bOr, bNot, bYes, eMtL, eMtL0, rAppend, rPop, rExtend, rInsert, rReverse, rClear, eGet1, eGet2, rGet, isDic, gNm, gsNil, gsCons, gTp, gSb, rSet, eSl, rSl, oNone, oSome, iAny, iRg1, iRg2, eLc, eDc, dwipe, CT.put, setMany, sNext, sBreak, sCont, sRetN, sNever, keyD, kD, List.getElem?_cons_zero, List.getElem?_cons_succ, List.set_cons_zero, List.set_cons_succ, List.length_cons, List.length_nil, List.cons_append, List.nil_append, atI_0, atI_1, atI_2, atI_3, atI_4, ixN_0, ixN_1, ixN_2, ixN_3, ofString_inj, String.reduceEq, decide_true, decide_false, decide_not, beq_self_eq_true, Bool.not_true, Bool.not_false, Bool.false_eq_true, Bool.true_eq_false, if_true, if_false, ite_true, ite_false, beq_t, beq_f, true_and, and_true, not_true_eq_false, not_false_eq_true, forall_const, gup_get, eq_self, reduceCtorEq, reduceIte, Sy.toD, e4]
      refine kn _ _ (kk _ _ ⟨w2, t, (.node c ts, j) :: up, _, _, rfl, rfl, hwy2, ?_, ?_, hE.put ha⟩)
      · rw [hab]
        simp only [abv, e, List.append_assoc, List.cons_append, List.nil_append]
      · rw [gup_same, stk_cons]
        simp only [abD, Sy.toD]
  · rintro σ G ⟨w', u, up, x4, x5, rfl, hxs, hwy, hab, hG, hE⟩
    refine ⟨trivial, ?_⟩
    have hw' : w' = [] := by cases w' with
      | nil => rfl
      | cons => simp [wayD] at hxs
    subst hw'
    have hab : abv s w = up := by rw [hab]; cases u <;> rfl
    subst hab
    dsimp only []
    refine qFor_i fun k kn => ?_
    simp only [eOp, eUn, eVar, eC, eTest, eTru, rTru, eCa, aNil, aCons, eTup, eLst, rInt, rIxd, rAdd, rIntOf, rStrOf, rLen, rTupOf, rLstOf, rEq, rIsN, rNeg, rMin, rMax, eIf, bAnd, bOr, bNot, bYes, eMtL, eMtL0, rAppend, rPop, rExtend, rInsert, rReverse, rClear, eGet1, eGet2, rGet, isDic, gNm, gsNil, gsCons, gTp, gSb, rSet, eSl, rSl, oNone, oSome, iAny, iRg1, iRg2, eLc, eDc, dwipe, CT.put, setMany, sNext, sBreak, sCont, sRetN, sNever, keyD, kD, List.getElem?_cons_zero, List.getElem?_cons_succ, List.set_cons_zero, List.set_cons_succ, List.length_cons, List.length_nil, List.cons_append, List.nil_append, atI_0, atI_1, atI_2, atI_3, atI_4, ixN_0, ixN_1, ixN_2, ixN_3, ofString_inj, String.reduceEq, decide_true, decide_false, decide_not, beq_self_eq_true, Bool.not_true, Bool.not_false, Bool.false_eq_true, Bool.true_eq_false, if_true, if_false, ite_true, ite_false, beq_t, beq_f, true_and, and_true, not_true_eq_false, not_false_eq_true, forall_const, gup_get, eq_self, reduceCtorEq, reduceIte, eLstRev, hG]
    intro b hb
    refine kn _ _ _ ?_
    have hab : a ≠ b := ne_none hG hb
    rw [stk, List.reverse_reverse]
    refine forL_rule (I := fun xs σ G' => ∃ (ns done : List (Sy × Nat)) (x0 x3 x4 x5 : Option D), σ = [x0, some (.tup (wayD w)), some ((done.foldl (fun p n => rset n p) p).toD), x3, x4, x5] ∧ xs = ns.map abD ∧ abv s w = done ++ ns ∧ LstAt G' b ((abv s w).map abD) ∧ Ext G0 G') ?_ ?_ _ _ _ ⟨abv s w, [], _, _, _, _, rfl, rfl, rfl, .inl gup_same, hE.trans (Ext.new hb)⟩
    · rintro x xs σ G k ⟨ns, done, x0, x3, x4, x5, rfl, hxs, hd, hL, hE⟩ kk
      refine ⟨hL, ?_⟩
      cases ns with
      | nil => cases hxs
      | cons n ns =>
      simp only [List.map_cons, List.cons.injEq] at hxs
      obtain ⟨rfl, rfl⟩ := hxs
      obtain ⟨c, ts, e1, e2, e3⟩ := abv_node hw n (by rw [hd]; simp)
      obtain ⟨n1, n2⟩ := n
      simp only [] at e1 e2
      subst e1
      simp only [abD]
      refine gTp2_i ?_
      try dsimp only [List.set_cons_zero, List.set_cons_succ]
      refine sSet_i fun k kn => ?_
      have lts : (Sy.tsD ts).length = ts.length := by rw [sD_map, List.length_map]
      simp only [eOp, eUn, eVar, eC, eTest, eTru, rTru, eCa, aNil, aCons, eTup, eLst, rInt, rIxd, rAdd, rIntOf, rStrOf, rLen, rTupOf, rLstOf, rEq, rIsN, rNeg, rMin, rMax, eIf, bAnd, bOr, bNot, bYes, eMtL, eMtL0, rAppend, rPop, rExtend, rInsert, rReverse, rClear, eGet1, eGet2, rGet, isDic, gNm, gsNil, gsCons, gTp, gSb, rSet, eSl, rSl, oNone, oSome, iAny, iRg1, iRg2, eLc, eDc, dwipe, CT.put, setMany, sNext, sBreak, sCont, sRetN, sNever, keyD, kD, List.getElem?_cons_zero, List.getElem?_cons_succ, List.set_cons_zero, List.set_cons_succ, List.length_cons, List.length_nil, List.cons_append, List.nil_append, atI_0, atI_1, atI_2, atI_3, atI_4, ixN_0, ixN_1, ixN_2, ixN_3, ofString_inj, String.reduceEq, decide_true, decide_false, decide_not, beq_self_eq_true, Bool.not_true, Bool.not_false, Bool.false_eq_true, Bool.true_eq_false, if_true, if_false, ite_true, ite_false, beq_t, beq_f, true_and, and_true, not_true_eq_false, not_false_eq_true, forall_const, gup_get, eq_self, reduceCtorEq, reduceIte, Sy.toD]
      have e5 : (n2 : Int) + 1 = ((n2 + 1 : Nat) : Int) := by omega
      rw [e5, dcut_to (by omega), dcut_from (by omega)]
      simp only [List.length_append, List.length_take, List.length_drop, List.length_cons, List.length_nil, lts]
      refine ⟨by omega, by omega, by omega, by decide, kn _ _ ?_⟩
      have e6 : D.tup [.str "node", .str c, .tup ((Sy.tsD ts).take n2 ++ [(done.foldl (fun p n => rset n p) p).toD] ++ (Sy.tsD ts).drop (n2 + 1))] = ((done ++ [(Sy.node c ts, n2)]).foldl (fun p n => rset n p) p).toD := by
        rw [List.foldl_append, List.foldl_cons, List.foldl_nil, rset, Sy.toD, sD_map, sD_map]
        rw [List.map_set, List.set_eq_take_append_cons_drop, if_pos (by rw [List.length_map]; exact e2)]
        simp
      rw [e6]
      exact kk _ _ ⟨ns, done ++ [(Sy.node c ts, n2)], _, _, _, _, rfl, rfl, by rw [hd]; simp, hL, hE⟩
    · rintro σ G ⟨ns, done, x0, x3, x4, x5, rfl, hxs, hd, hL, hE⟩
      have hns : ns = [] := by cases ns with
        | nil => rfl
        | cons => cases hxs
      subst hns
      rw [List.append_nil] at hd
      refine ⟨hL, ?_⟩
      dsimp only []
      refine sRet_i ?_
      simp only [eOp, eUn, eVar, eC, eTest, eTru, rTru, eCa, aNil, aCons, eTup, eLst, rInt, rIxd, rAdd, rIntOf, rStrOf, rLen, rTupOf, rLstOf, rEq, rIsN, rNeg, rMin, rMax, eIf, bAnd, bOr, bNot, bYes, eMtL, eMtL0, rAppend, rPop, rExtend, rInsert, rReverse, rClear, eGet1, eGet2, rGet, isDic, gNm, gsNil, gsCons, gTp, gSb, rSet, eSl, rSl, oNone, oSome, iAny, iRg1, iRg2, eLc, eDc, dwipe, CT.put, setMany, sNext, sBreak, sCont, sRetN, sNever, keyD, kD, List.getElem?_cons_zero, List.getElem?_cons_succ, List.set_cons_zero, List.set_cons_succ, List.length_cons, List.length_nil, List.cons_append, List.nil_append, atI_0, atI_1, atI_2, atI_3, atI_4, ixN_0, ixN_1, ixN_2, ixN_3, ofString_inj, String.reduceEq, decide_true, decide_false, decide_not, beq_self_eq_true, Bool.not_true, Bool.not_false, Bool.false_eq_true, Bool.true_eq_false, if_true, if_false, ite_true, ite_false, beq_t, beq_f, true_and, and_true, not_true_eq_false, not_false_eq_true, forall_const, gup_get, eq_self, reduceCtorEq, reduceIte]
      rw [← hd, ← put_abv hw]
      exact q _ hE
end Dn.My

namespace Dn.My
open PySem PySem.Spec PyProof.Rows L2 Dn

/-! ### dicts of ints -/
def iput (kvs : List (Int × D)) (u : Int) (v : D) : List (Int × D) :=
  if (kvs.any fun kv => decide (kv.1 = u)) = true then kvs.map fun kv => if kv.1 = u then (kv.1, v) else kv else kvs ++ [(u, v)]
def ival (kvs : List (Int × D)) (u : Int) : Option D := (kvs.find? fun kv => decide (kv.1 = u)).map (·.2)
def kD' (kvs : List (Int × D)) : List (Key × D) := kvs.map fun p => (Sum.inl p.1, p.2)
theorem dput_kD {kvs : List (Int × D)} {u : Int} {v : D} : dput (kD' kvs) (Sum.inl u) v = kD' (iput kvs u v) := by
  unfold dput iput kD'
  have e : ((kvs.map fun p => ((Sum.inl p.1 : Key), p.2)).any fun kv => decide (kv.1 = Sum.inl u)) = (kvs.any fun kv => decide (kv.1 = u)) := by
    rw [List.any_map]
    congr 1
    funext x
    simp
  rw [e]
  split
  · rw [List.map_map, List.map_map]
    apply List.map_congr_left
    intro x _
    simp only [Function.comp, Sum.inl.injEq]
    split <;> rfl
  · rw [List.map_append]; rfl
theorem dval_kD {kvs : List (Int × D)} {u : Int} : dval (kD' kvs) (Sum.inl u) = ival kvs u := by
  unfold dval ival kD'
  rw [List.find?_map]
  have e : ((fun kv : Key × D => decide (kv.1 = Sum.inl u)) ∘ fun p : Int × D => ((Sum.inl p.1 : Key), p.2)) = fun kv => decide (kv.1 = u) := by
    funext x
    simp
  rw [e, Option.map_map]
  rfl
theorem iput_keys {kvs : List (Int × D)} {u : Int} {v : D} : (iput kvs u v).map (·.1) = if u ∈ kvs.map (·.1) then kvs.map (·.1) else kvs.map (·.1) ++ [u] := by
  unfold iput
  have e : ((kvs.any fun kv => decide (kv.1 = u)) = true) = (u ∈ kvs.map (·.1)) := by
    rw [List.any_eq_true, List.mem_map]
    refine propext ⟨fun ⟨x, h1, h2⟩ => ⟨x, h1, by simpa using h2⟩, fun ⟨x, h1, h2⟩ => ⟨x, h1, by simpa using h2⟩⟩
  simp only [e]
  split
  · rw [List.map_map]
    apply List.map_congr_left
    intro x _
    simp only [Function.comp]
    split <;> rfl
  · rw [List.map_append]; rfl
theorem iput_len {kvs : List (Int × D)} {u : Int} {v : D} : (iput kvs u v).length ≤ kvs.length + 1 := by
  have := congrArg List.length (iput_keys (kvs := kvs) (u := u) (v := v))
  rw [List.length_map] at this
  rw [this]
  split <;> simp
theorem iput_nodup {kvs : List (Int × D)} {u : Int} {v : D} (h : (kvs.map (·.1)).Nodup) : ((iput kvs u v).map (·.1)).Nodup := by
  rw [iput_keys]
  split
  · exact h
  · rename_i hn
    rw [List.nodup_append]
    exact ⟨h, by simp, fun a ha b hb => by rw [List.mem_singleton.mp hb]; intro e; exact hn (e ▸ ha)⟩
theorem iput_mem {kvs : List (Int × D)} {u w : Int} {v : D} : w ∈ (iput kvs u v).map (·.1) ↔ w = u ∨ w ∈ kvs.map (·.1) := by
  rw [iput_keys]
  split
  · rename_i h
    exact ⟨.inr, fun q => q.elim (fun e => e ▸ h) id⟩
  · rw [List.mem_append, List.mem_singleton]; exact Or.comm
theorem ival_some {kvs : List (Int × D)} {u : Int} : u ∈ kvs.map (·.1) → ∃ d, ival kvs u = some d := by
  intro h
  obtain ⟨x, h1, h2⟩ := List.mem_map.mp h
  unfold ival
  cases q : kvs.find? fun kv => decide (kv.1 = u) with
  | some y => exact ⟨_, rfl⟩
  | none => exact absurd (List.find?_eq_none.mp q x h1) (by simpa using h2)
theorem ival_mem {kvs : List (Int × D)} {u : Int} {d : D} (h : ival kvs u = some d) : (u, d) ∈ kvs := by
  unfold ival at h
  cases q : kvs.find? fun kv => decide (kv.1 = u) with
  | none => rw [q] at h; cases h
  | some y =>
    rw [q] at h
    have e1 := List.find?_some q
    have e2 := List.mem_of_find?_eq_some q
    simp only [decide_eq_true_eq] at e1
    simp only [Option.map_some, Option.some.injEq] at h
    rw [← e1, ← h]
    exact e2
theorem iput_all {P : D → Prop} {kvs : List (Int × D)} {u : Int} {v : D} (h : ∀ kv ∈ kvs, P kv.2) (hv : P v) : ∀ kv ∈ iput kvs u v, P kv.2 := by
  unfold iput
  split
  · intro kv hk
    obtain ⟨x, hx, rfl⟩ := List.mem_map.mp hk
    split
    · exact hv
    · exact h _ hx
  · intro kv hk
    rcases List.mem_append.mp hk with hk | hk
    · exact h _ hk
    · rw [List.mem_singleton.mp hk]; exact hv
/-- as many different numbers as there are -/
theorem nodup_le : ∀ (n : Nat) (l : List Int), l.Nodup → (∀ x ∈ l, 0 ≤ x ∧ x < n) → l.length ≤ n
  | 0, l, _, h => by cases l with
    | nil => simp
    | cons x xs => have := h x List.mem_cons_self; omega
  | n + 1, l, hn, h => by
    by_cases hm : (n : Int) ∈ l
    · have := nodup_le n (l.erase (n : Int)) (hn.erase _) fun x hx => by
        rw [List.Nodup.mem_erase_iff hn] at hx
        have := h x hx.2
        have := hx.1
        omega
      rw [List.length_erase_of_mem hm] at this
      omega
    · have := nodup_le n l hn fun x hx => by
        have := h x hx
        have : x ≠ (n : Int) := fun e => hm (e ▸ hx)
        omega
      omega
/-- the one ascending list with these members -/
theorem asc_eq : ∀ {a b : List Int}, a.Pairwise (· < ·) → b.Pairwise (· < ·) → (∀ u, u ∈ a ↔ u ∈ b) → a = b := by
  intro a b ha hb h
  refine List.Perm.eq_of_pairwise (le := (· < ·)) (fun x y _ _ h1 h2 => by omega) ha hb ?_
  refine (List.perm_ext_iff_of_nodup (ha.imp fun h => by omega) (hb.imp fun h => by omega)).mpr h
theorem asc_of {ns ks : List Int} (hp : ns.Perm ks) (hs : ns.Pairwise (· ≤ ·)) (hk : ks.Nodup) : ns.Pairwise (· < ·) := by
  have hn : ns.Nodup := hp.nodup_iff.mpr hk
  refine (hs.and hn).imp fun ⟨h1, h2⟩ => by
    have : ¬ _ = _ := h2
    omega

/-! ### unknowns_in -/
mutual
def Sy.uk : Sy → List Int
  | .unk u => [u]
  | .sum ps _ => ps.map (·.1)
  | .map es => Sy.ukE es
  | .node _ ts => Sy.ukS ts
  | _ => []
def Sy.ukE : List (Str × Sy) → List Int
  | [] => []
  | (_, t) :: es => t.uk ++ Sy.ukE es
def Sy.ukS : List Sy → List Int
  | [] => []
  | t :: ts => t.uk ++ Sy.ukS ts
end
theorem ukS_mem {u : Int} : ∀ {ts : List Sy}, u ∈ Sy.ukS ts ↔ ∃ t ∈ ts, u ∈ t.uk
  | [] => by simp [Sy.ukS]
  | t :: ts => by simp [Sy.ukS, ukS_mem (ts := ts)]
theorem ukE_mem {u : Int} : ∀ {es : List (Str × Sy)}, u ∈ Sy.ukE es ↔ ∃ e ∈ es, u ∈ e.2.uk
  | [] => by simp [Sy.ukE]
  | (w, t) :: es => by simp only [Sy.ukE, List.mem_append, ukE_mem (es := es), List.mem_cons, exists_eq_or_imp]
def Asc (us : List Int) (p : Int → Prop) : Prop := us.Pairwise (· < ·) ∧ ∀ u, u ∈ us ↔ p u
def sp_unknowns_in : DSp := fun ds G Q => ∃ s : Sy, ds = [s.toD] ∧ s.sz < sizeLine ∧ (∀ u ∈ s.uk, 0 ≤ u ∧ u < 41) ∧ ∀ us G' p, Asc us (· ∈ s.uk) → Ext G G' → G' p = none → Q (.ref p) (gup G' p (.lst (us.map D.int)))
theorem sem_unknowns_in {E : DEnds} {G0 : GP} {s : Sy} (hz : s.sz < sizeLine) (hu : ∀ u ∈ s.uk, 0 ≤ u ∧ u < 41) (q : ∀ us G' p, Asc us (· ∈ s.uk) → Ext G0 G' → G' p = none → E.rt (.ref p) (gup G' p (.lst (us.map D.int)))) :
    rd_unknowns_in E (dstart n_unknowns_in [s.toD]) G0 := by
  show rd_unknowns_in E [some s.toD, none, none, none, none, none, none, none] G0
  unfold rd_unknowns_in
  refine qSet_i fun k kn f hf => kn _ _ ?_
  try dsimp only [List.set_cons_zero, List.set_cons_succ]
  refine qSet_i fun k kn => ?_
  simp only [eOp, eUn, eVar, eC, eTest, eTru, rTru, eCa, aNil, aCons, eTup, eLst, rInt, rIxd, rAdd, rIntOf, rStrOf, rLen, rTupOf, rLstOf, rEq, rIsN, rNeg, rMin, rMax, eIf, bAnd, bOr, bNot, bYes, eMtL, eMtL0, rAppend, rPop, rExtend, rInsert, rReverse, rClear, eGet1, eGet2, rGet, isDic, gNm, gsNil, gsCons, gTp, gSb, rSet, eSl, rSl, oNone, oSome, iAny, iRg1, iRg2, eLc, eDc, dwipe, CT.put, setMany, sNext, sBreak, sCont, sRetN, sNever, keyD, kD, List.getElem?_cons_zero, List.getElem?_cons_succ, List.set_cons_zero, List.set_cons_succ, List.length_cons, List.length_nil, List.cons_append, List.nil_append, atI_0, atI_1, atI_2, atI_3, atI_4, ixN_0, ixN_1, ixN_2, ixN_3, ofString_inj, String.reduceEq, decide_true, decide_false, decide_not, beq_self_eq_true, Bool.not_true, Bool.not_false, Bool.false_eq_true, Bool.true_eq_false, if_true, if_false, ite_true, ite_false, beq_t, beq_f, true_and, and_true, not_true_eq_false, not_false_eq_true, forall_const, gup_get, eq_self, reduceCtorEq, reduceIte]
  refine ⟨by decide, fun w hw => kn _ _ ?_⟩
  try dsimp only [List.set_cons_zero, List.set_cons_succ]
  have hw : gup G0 f (.dic []) w = none := hw
  have nfw : f ≠ w := ne_none gup_same hw
  have hw0 : G0 w = none := by rw [gup_ne (Ne.symm nfw)] at hw; exact hw
  refine qWhile_i (fun n σ G => ∃ (is : List Sy) (kvs : List (Int × D)) (x3 x4 x5 x6 x7 : Option D), σ = [some s.toD, some (.ref f), some (.ref w), x3, x4, x5, x6, x7] ∧ n = szs is ∧ G w = some (.lst (stk Sy.toD is)) ∧ G f = some (.dic (kD' kvs)) ∧ (kvs.map (·.1)).Nodup ∧ Ext G0 G ∧ szs is ≤ s.sz ∧ ∀ u, (u ∈ kvs.map (·.1) ∨ u ∈ Sy.ukS is) ↔ u ∈ s.uk) (m := s.sz) ?_ ?_
  · exact ⟨[s], [], _, _, _, _, _, rfl, by simp [szs], gup_same, (gup_ne nfw).trans gup_same, by simp, (Ext.new hf).trans (Ext.new hw), by simp [szs], by simp [Sy.ukS]⟩
  rintro n σ G k1 k ⟨is, kvs, x3, x4, x5, x6, x7, rfl, rfl, h2, hf', hnd, ex, hb, hm⟩ again kt kf
  have hkl : kvs.length ≤ 41 := by
    have := nodup_le 41 _ hnd fun x hx => hu x ((hm x).mp (.inl hx))
    rwa [List.length_map] at this
  simp only [eOp, eUn, eVar, eC, eTest, eTru, rTru, eCa, aNil, aCons, eTup, eLst, rInt, rIxd, rAdd, rIntOf, rStrOf, rLen, rTupOf, rLstOf, rEq, rIsN, rNeg, rMin, rMax, eIf, bAnd, bOr, bNot, bYes, eMtL, eMtL0, rAppend, rPop, rExtend, rInsert, rReverse, rClear, eGet1, eGet2, rGet, isDic, gNm, gsNil, gsCons, gTp, gSb, rSet, eSl, rSl, oNone, oSome, iAny, iRg1, iRg2, eLc, eDc, dwipe, CT.put, setMany, sNext, sBreak, sCont, sRetN, sNever, keyD, kD, List.getElem?_cons_zero, List.getElem?_cons_succ, List.set_cons_zero, List.set_cons_succ, List.length_cons, List.length_nil, List.cons_append, List.nil_append, atI_0, atI_1, atI_2, atI_3, atI_4, ixN_0, ixN_1, ixN_2, ixN_3, ofString_inj, String.reduceEq, decide_true, decide_false, decide_not, beq_self_eq_true, Bool.not_true, Bool.not_false, Bool.false_eq_true, Bool.true_eq_false, if_true, if_false, ite_true, ite_false, beq_t, beq_f, true_and, and_true, not_true_eq_false, not_false_eq_true, forall_const, gup_get, eq_self, reduceCtorEq, reduceIte, h2, stk_empty]
  cases is with
  | nil =>
    refine kf _ (sRet_i ?_)
    have hm' : ∀ u, u ∈ kvs.map (·.1) ↔ u ∈ s.uk := fun u => by simpa [Sy.ukS] using hm u
    simp only [eCa, aCons, aNil, eVar, List.getElem?_cons_zero, List.getElem?_cons_succ]
    refine .inr (.inr (.inl ⟨f, _, kvs.map (·.1), rfl, hf', by simp [kD'], by rw [List.length_map]; omega, fun ns' p hp hs hp0 => ?_⟩))
    exact q ns' G p ⟨asc_of hp hs hnd, fun u => hp.mem_iff.trans (hm' u)⟩ ex hp0
  | cons i is =>
  rw [szs_cons] at hb
  have lis := len_szs is
  refine kt _ (qSet_i fun k kn => ?_)
  simp only [eOp, eUn, eVar, eC, eTest, eTru, rTru, eCa, aNil, aCons, eTup, eLst, rInt, rIxd, rAdd, rIntOf, rStrOf, rLen, rTupOf, rLstOf, rEq, rIsN, rNeg, rMin, rMax, eIf, bAnd, bOr, bNot, bYes, eMtL, eMtL0, rAppend, rPop, rExtend, rInsert, rReverse, rClear, eGet1, eGet2, rGet, isDic, gNm, gsNil, gsCons, gTp, gSb, rSet, eSl, rSl, oNone, oSome, iAny, iRg1, iRg2, eLc, eDc, dwipe, CT.put, setMany, sNext, sBreak, sCont, sRetN, sNever, keyD, kD, List.getElem?_cons_zero, List.getElem?_cons_succ, List.set_cons_zero, List.set_cons_succ, List.length_cons, List.length_nil, List.cons_append, List.nil_append, atI_0, atI_1, atI_2, atI_3, atI_4, ixN_0, ixN_1, ixN_2, ixN_3, ofString_inj, String.reduceEq, decide_true, decide_false, decide_not, beq_self_eq_true, Bool.not_true, Bool.not_false, Bool.false_eq_true, Bool.true_eq_false, if_true, if_false, ite_true, ite_false, beq_t, beq_f, true_and, and_true, not_true_eq_false, not_false_eq_true, forall_const, gup_get, eq_self, reduceCtorEq, reduceIte]
  have p1 : (stk Sy.toD (i :: is))[(stk Sy.toD (i :: is)).length - 1]? = some i.toD := by rw [stk_cons]; simp
  have p2 : (stk Sy.toD (i :: is)).dropLast = stk Sy.toD is := by rw [stk_cons]; simp
  simp only [h2, p1, p2]
  have h2' : gup G w (.lst (stk Sy.toD is)) w = some (.lst (stk Sy.toD is)) := gup_same
  have ex' : Ext G0 (gup G w (.lst (stk Sy.toD is))) := ex.put hw0
  have hf1 : gup G w (.lst (stk Sy.toD is)) f = some (.dic (kD' kvs)) := (gup_ne nfw).trans hf'
  generalize gup G w (.lst (stk Sy.toD is)) = G1 at h2' ex' hf1 ⊢
  refine kn _ _ (sIf_i fun k kt kf => ?_)
  have hm0 : ∀ u, (u ∈ kvs.map (·.1) ∨ u ∈ i.uk ∨ u ∈ Sy.ukS is) ↔ u ∈ s.uk := fun u => by
    rw [← hm u, Sy.ukS, List.mem_append]
  have leafy : i.uk = [] → ∀ x3, k1 [some s.toD, some (.ref f), some (.ref w), x3, x4, x5, x6, x7] G1 := fun e x3 =>
    again (szs is) _ _ (by rw [szs_cons]; have := i.sz_pos; omega) ⟨is, kvs, _, _, _, _, _, rfl, rfl, h2', hf1, hnd, ex', by omega, fun u => by rw [← hm0 u, e]; simp⟩
  cases i with
  | name n =>
    simp only [eOp, eUn, eVar, eC, eTest, eTru, rTru, eCa, aNil, aCons, eTup, eLst, rInt, rIxd, rAdd, rIntOf, rStrOf, rLen, rTupOf, rLstOf, rEq, rIsN, rNeg, rMin, rMax, eIf, bAnd, bOr, bNot, bYes, eMtL, eMtL0, rAppend, rPop, rExtend, rInsert, rReverse, rClear, eGet1, eGet2, rGet, isDic, gNm, gsNil, gsCons, gTp, gSb, rSet, eSl, rSl, oNone, oSome, iAny, iRg1, iRg2, eLc, eDc, dwipe, CT.put, setMany, sNext, sBreak, sCont, sRetN, sNever, keyD, kD, List.getElem?_cons_zero, List.getElem?_cons_succ, List.set_cons_zero, List.set_cons_succ, List.length_cons, List.length_nil, List.cons_append, List.nil_append, atI_0, atI_1, atI_2, atI_3, atI_4, ixN_0, ixN_1, ixN_2, ixN_3, ofString_inj, String.reduceEq, decide_true, decide_false, decide_not, beq_self_eq_true, Bool.not_true, Bool.not_false, Bool.false_eq_true, Bool.true_eq_false, if_true, if_false, ite_true, ite_false, beq_t, beq_f, true_and, and_true, not_true_eq_false, not_false_eq_true, forall_const, gup_get, eq_self, reduceCtorEq, reduceIte, Sy.toD]
    refine kf _ (sIf_i fun k kt kf => ?_)
    simp only [eOp, eUn, eVar, eC, eTest, eTru, rTru, eCa, aNil, aCons, eTup, eLst, rInt, rIxd, rAdd, rIntOf, rStrOf, rLen, rTupOf, rLstOf, rEq, rIsN, rNeg, rMin, rMax, eIf, bAnd, bOr, bNot, bYes, eMtL, eMtL0, rAppend, rPop, rExtend, rInsert, rReverse, rClear, eGet1, eGet2, rGet, isDic, gNm, gsNil, gsCons, gTp, gSb, rSet, eSl, rSl, oNone, oSome, iAny, iRg1, iRg2, eLc, eDc, dwipe, CT.put, setMany, sNext, sBreak, sCont, sRetN, sNever, keyD, kD, List.getElem?_cons_zero, List.getElem?_cons_succ, List.set_cons_zero, List.set_cons_succ, List.length_cons, List.length_nil, List.cons_append, List.nil_append, atI_0, atI_1, atI_2, atI_3, atI_4, ixN_0, ixN_1, ixN_2, ixN_3, ofString_inj, String.reduceEq, decide_true, decide_false, decide_not, beq_self_eq_true, Bool.not_true, Bool.not_false, Bool.false_eq_true, Bool.true_eq_false, if_true, if_false, ite_true, ite_false, beq_t, beq_f, true_and, and_true, not_true_eq_false, not_false_eq_true, forall_const, gup_get, eq_self, reduceCtorEq, reduceIte, Sy.toD]
    refine kf _ (sIf_i fun k kt kf => ?_)
    simp only [eOp, eUn, eVar, eC, eTest, eTru, rTru, eCa, aNil, aCons, eTup, eLst, rInt, rIxd, rAdd, rIntOf, rStrOf, rLen, rTupOf, rLstOf, rEq, rIsN, rNeg, rMin, rMax, eIf, bAnd, bOr, bNot, bYes, eMtL, eMtL0, rAppend, rPop, rExtend, rInsert, rReverse, rClear, eGet1, eGet2, rGet, isDic, gNm, gsNil, gsCons, gTp, gSb, rSet, eSl, rSl, oNone, oSome, iAny, iRg1, iRg2, eLc, eDc, dwipe, CT.put, setMany, sNext, sBreak, sCont, sRetN, sNever, keyD, kD, List.getElem?_cons_zero, List.getElem?_cons_succ, List.set_cons_zero, List.set_cons_succ, List.length_cons, List.length_nil, List.cons_append, List.nil_append, atI_0, atI_1, atI_2, atI_3, atI_4, ixN_0, ixN_1, ixN_2, ixN_3, ofString_inj, String.reduceEq, decide_true, decide_false, decide_not, beq_self_eq_true, Bool.not_true, Bool.not_false, Bool.false_eq_true, Bool.true_eq_false, if_true, if_false, ite_true, ite_false, beq_t, beq_f, true_and, and_true, not_true_eq_false, not_false_eq_true, forall_const, gup_get, eq_self, reduceCtorEq, reduceIte, Sy.toD]
    refine kf _ (sIf_i fun k kt kf => ?_)
    simp only [eOp, eUn, eVar, eC, eTest, eTru, rTru, eCa, aNil, aCons, eTup, eLst, rInt, rIxd, rAdd, rIntOf, rStrOf, rLen, rTupOf, rLstOf, rEq, rIsN, rNeg, rMin, rMax, eIf, bAnd, bOr, bNot, bYes, eMtL, eMtL0, rAppend, rPop, rExtend, rInsert, rReverse, rClear, eGet1, eGet2, rGet, isDic, gNm, gsNil, gsCons, gTp, gSb, rSet, eSl, rSl, oNone, oSome, iAny, iRg1, iRg2, eLc, eDc, dwipe, CT.put, setMany, sNext, sBreak, sCont, sRetN, sNever, keyD, kD, List.getElem?_cons_zero, List.getElem?_cons_succ, List.set_cons_zero, List.set_cons_succ, List.length_cons, List.length_nil, List.cons_append, List.nil_append, atI_0, atI_1, atI_2, atI_3, atI_4, ixN_0, ixN_1, ixN_2, ixN_3, ofString_inj, String.reduceEq, decide_true, decide_false, decide_not, beq_self_eq_true, Bool.not_true, Bool.not_false, Bool.false_eq_true, Bool.true_eq_false, if_true, if_false, ite_true, ite_false, beq_t, beq_f, true_and, and_true, not_true_eq_false, not_false_eq_true, forall_const, gup_get, eq_self, reduceCtorEq, reduceIte, Sy.toD]
    exact kf _ (leafy rfl _)
  | addr n =>
    simp only [eOp, eUn, eVar, eC, eTest, eTru, rTru, eCa, aNil, aCons, eTup, eLst, rInt, rIxd, rAdd, rIntOf, rStrOf, rLen, rTupOf, rLstOf, rEq, rIsN, rNeg, rMin, rMax, eIf, bAnd, bOr, bNot, bYes, eMtL, eMtL0, rAppend, rPop, rExtend, rInsert, rReverse, rClear, eGet1, eGet2, rGet, isDic, gNm, gsNil, gsCons, gTp, gSb, rSet, eSl, rSl, oNone, oSome, iAny, iRg1, iRg2, eLc, eDc, dwipe, CT.put, setMany, sNext, sBreak, sCont, sRetN, sNever, keyD, kD, List.getElem?_cons_zero, List.getElem?_cons_succ, List.set_cons_zero, List.set_cons_succ, List.length_cons, List.length_nil, List.cons_append, List.nil_append, atI_0, atI_1, atI_2, atI_3, atI_4, ixN_0, ixN_1, ixN_2, ixN_3, ofString_inj, String.reduceEq, decide_true, decide_false, decide_not, beq_self_eq_true, Bool.not_true, Bool.not_false, Bool.false_eq_true, Bool.true_eq_false, if_true, if_false, ite_true, ite_false, beq_t, beq_f, true_and, and_true, not_true_eq_false, not_false_eq_true, forall_const, gup_get, eq_self, reduceCtorEq, reduceIte, Sy.toD]
    refine kf _ (sIf_i fun k kt kf => ?_)
    simp only [eOp, eUn, eVar, eC, eTest, eTru, rTru, eCa, aNil, aCons, eTup, eLst, rInt, rIxd, rAdd, rIntOf, rStrOf, rLen, rTupOf, rLstOf, rEq, rIsN, rNeg, rMin, rMax, eIf, bAnd, bOr, bNot, bYes, eMtL, eMtL0, rAppend, rPop, rExtend, rInsert, rReverse, rClear, eGet1, eGet2, rGet, isDic, gNm, gsNil, gsCons, gTp, gSb, rSet, eSl, rSl, oNone, oSome, iAny, iRg1, iRg2, eLc, eDc, dwipe, CT.put, setMany, sNext, sBreak, sCont, sRetN, sNever, keyD, kD, List.getElem?_cons_zero, List.getElem?_cons_succ, List.set_cons_zero, List.set_cons_succ, List.length_cons, List.length_nil, List.cons_append, List.nil_append, atI_0, atI_1, atI_2, atI_3, atI_4, ixN_0, ixN_1, ixN_2, ixN_3, ofString_inj, String.reduceEq, decide_true, decide_false, decide_not, beq_self_eq_true, Bool.not_true, Bool.not_false, Bool.false_eq_true, Bool.true_eq_false, if_true, if_false, ite_true, ite_false, beq_t, beq_f, true_and, and_true, not_true_eq_false, not_false_eq_true, forall_const, gup_get, eq_self, reduceCtorEq, reduceIte, Sy.toD]
    refine kf _ (sIf_i fun k kt kf => ?_)
    simp only [eOp, eUn, eVar, eC, eTest, eTru, rTru, eCa, aNil, aCons, eTup, eLst, rInt, rIxd, rAdd, rIntOf, rStrOf, rLen, rTupOf, rLstOf, rEq, rIsN, rNeg, rMin, rMax, eIf, bAnd, bOr, bNot, bYes, eMtL, eMtL0, rAppend, rPop, rExtend, rInsert, rReverse, rClear, eGet1, eGet2, rGet, isDic, gNm, gsNil, gsCons, gTp, gSb, rSet, eSl, rSl, oNone, oSome, iAny, iRg1, iRg2, eLc, eDc, dwipe, CT.put, setMany, sNext, sBreak, sCont, sRetN, sNever, keyD, kD, List.getElem?_cons_zero, List.getElem?_cons_succ, List.set_cons_zero, List.set_cons_succ, List.length_cons, List.length_nil, List.cons_append, List.nil_append, atI_0, atI_1, atI_2, atI_3, atI_4, ixN_0, ixN_1, ixN_2, ixN_3, ofString_inj, String.reduceEq, decide_true, decide_false, decide_not, beq_self_eq_true, Bool.not_true, Bool.not_false, Bool.false_eq_true, Bool.true_eq_false, if_true, if_false, ite_true, ite_false, beq_t, beq_f, true_and, and_true, not_true_eq_false, not_false_eq_true, forall_const, gup_get, eq_self, reduceCtorEq, reduceIte, Sy.toD]
    refine kf _ (sIf_i fun k kt kf => ?_)
    simp only [eOp, eUn, eVar, eC, eTest, eTru, rTru, eCa, aNil, aCons, eTup, eLst, rInt, rIxd, rAdd, rIntOf, rStrOf, rLen, rTupOf, rLstOf, rEq, rIsN, rNeg, rMin, rMax, eIf, bAnd, bOr, bNot, bYes, eMtL, eMtL0, rAppend, rPop, rExtend, rInsert, rReverse, rClear, eGet1, eGet2, rGet, isDic, gNm, gsNil, gsCons, gTp, gSb, rSet, eSl, rSl, oNone, oSome, iAny, iRg1, iRg2, eLc, eDc, dwipe, CT.put, setMany, sNext, sBreak, sCont, sRetN, sNever, keyD, kD, List.getElem?_cons_zero, List.getElem?_cons_succ, List.set_cons_zero, List.set_cons_succ, List.length_cons, List.length_nil, List.cons_append, List.nil_append, atI_0, atI_1, atI_2, atI_3, atI_4, ixN_0, ixN_1, ixN_2, ixN_3, ofString_inj, String.reduceEq, decide_true, decide_false, decide_not, beq_self_eq_true, Bool.not_true, Bool.not_false, Bool.false_eq_true, Bool.true_eq_false, if_true, if_false, ite_true, ite_false, beq_t, beq_f, true_and, and_true, not_true_eq_false, not_false_eq_true, forall_const, gup_get, eq_self, reduceCtorEq, reduceIte, Sy.toD]
    exact kf _ (leafy rfl _)
  | unk n =>
    simp only [eOp, eUn, eVar, eC, eTest, eTru, rTru, eCa, aNil, aCons, eTup, eLst, rInt, rIxd, rAdd, rIntOf, rStrOf, rLen, rTupOf, rLstOf, rEq, rIsN, rNeg, rMin, rMax, eIf, bAnd, bOr, bNot, bYes, eMtL, eMtL0, rAppend, rPop, rExtend, rInsert, rReverse, rClear, eGet1, eGet2, rGet, isDic, gNm, gsNil, gsCons, gTp, gSb, rSet, eSl, rSl, oNone, oSome, iAny, iRg1, iRg2, eLc, eDc, dwipe, CT.put, setMany, sNext, sBreak, sCont, sRetN, sNever, keyD, kD, List.getElem?_cons_zero, List.getElem?_cons_succ, List.set_cons_zero, List.set_cons_succ, List.length_cons, List.length_nil, List.cons_append, List.nil_append, atI_0, atI_1, atI_2, atI_3, atI_4, ixN_0, ixN_1, ixN_2, ixN_3, ofString_inj, String.reduceEq, decide_true, decide_false, decide_not, beq_self_eq_true, Bool.not_true, Bool.not_false, Bool.false_eq_true, Bool.true_eq_false, if_true, if_false, ite_true, ite_false, beq_t, beq_f, true_and, and_true, not_true_eq_false, not_false_eq_true, forall_const, gup_get, eq_self, reduceCtorEq, reduceIte, Sy.toD]
    refine kt _ (sAsg_i fun k kn => ?_)
    simp only [eOp, eUn, eVar, eC, eTest, eTru, rTru, eCa, aNil, aCons, eTup, eLst, rInt, rIxd, rAdd, rIntOf, rStrOf, rLen, rTupOf, rLstOf, rEq, rIsN, rNeg, rMin, rMax, eIf, bAnd, bOr, bNot, bYes, eMtL, eMtL0, rAppend, rPop, rExtend, rInsert, rReverse, rClear, eGet1, eGet2, rGet, isDic, gNm, gsNil, gsCons, gTp, gSb, rSet, eSl, rSl, oNone, oSome, iAny, iRg1, iRg2, eLc, eDc, dwipe, CT.put, setMany, sNext, sBreak, sCont, sRetN, sNever, keyD, kD, List.getElem?_cons_zero, List.getElem?_cons_succ, List.set_cons_zero, List.set_cons_succ, List.length_cons, List.length_nil, List.cons_append, List.nil_append, atI_0, atI_1, atI_2, atI_3, atI_4, ixN_0, ixN_1, ixN_2, ixN_3, ofString_inj, String.reduceEq, decide_true, decide_false, decide_not, beq_self_eq_true, Bool.not_true, Bool.not_false, Bool.false_eq_true, Bool.true_eq_false, if_true, if_false, ite_true, ite_false, beq_t, beq_f, true_and, and_true, not_true_eq_false, not_false_eq_true, forall_const, gup_get, eq_self, reduceCtorEq, reduceIte, Sy.toD]
    refine kn _ _ ?_
    simp only [eOp, eUn, eVar, eC, eTest, eTru, rTru, eCa, aNil, aCons, eTup, eLst, rInt, rIxd, rAdd, rIntOf, rStrOf, rLen, rTupOf, rLstOf, rEq, rIsN, rNeg, rMin, rMax, eIf, bAnd, bOr, bNot, bYes, eMtL, eMtL0, rAppend, rPop, rExtend, rInsert, rReverse, rClear, eGet1, eGet2, rGet, isDic, gNm, gsNil, gsCons, gTp, gSb, rSet, eSl, rSl, oNone, oSome, iAny, iRg1, iRg2, eLc, eDc, dwipe, CT.put, setMany, sNext, sBreak, sCont, sRetN, sNever, keyD, kD, List.getElem?_cons_zero, List.getElem?_cons_succ, List.set_cons_zero, List.set_cons_succ, List.length_cons, List.length_nil, List.cons_append, List.nil_append, atI_0, atI_1, atI_2, atI_3, atI_4, ixN_0, ixN_1, ixN_2, ixN_3, ofString_inj, String.reduceEq, decide_true, decide_false, decide_not, beq_self_eq_true, Bool.not_true, Bool.not_false, Bool.false_eq_true, Bool.true_eq_false, if_true, if_false, ite_true, ite_false, beq_t, beq_f, true_and, and_true, not_true_eq_false, not_false_eq_true, forall_const, gup_get, eq_self, reduceCtorEq, reduceIte, hf1]
    refine ⟨by simp [kD']; have := sizeLine_eq; omega, again (szs is) _ _ (by rw [szs_cons]; simp [Sy.sz]) ⟨is, iput kvs n (.bl true), _, _, _, _, _, rfl, rfl, (gup_ne (Ne.symm nfw)).trans h2', gup_same.trans (by rw [dput_kD]), iput_nodup hnd, ex'.put hf, by omega, fun u => ?_⟩⟩
    rw [← hm0 u, iput_mem, Sy.uk, List.mem_singleton, or_assoc]
    exact or_left_comm
  | sum ps n =>
    simp only [eOp, eUn, eVar, eC, eTest, eTru, rTru, eCa, aNil, aCons, eTup, eLst, rInt, rIxd, rAdd, rIntOf, rStrOf, rLen, rTupOf, rLstOf, rEq, rIsN, rNeg, rMin, rMax, eIf, bAnd, bOr, bNot, bYes, eMtL, eMtL0, rAppend, rPop, rExtend, rInsert, rReverse, rClear, eGet1, eGet2, rGet, isDic, gNm, gsNil, gsCons, gTp, gSb, rSet, eSl, rSl, oNone, oSome, iAny, iRg1, iRg2, eLc, eDc, dwipe, CT.put, setMany, sNext, sBreak, sCont, sRetN, sNever, keyD, kD, List.getElem?_cons_zero, List.getElem?_cons_succ, List.set_cons_zero, List.set_cons_succ, List.length_cons, List.length_nil, List.cons_append, List.nil_append, atI_0, atI_1, atI_2, atI_3, atI_4, ixN_0, ixN_1, ixN_2, ixN_3, ofString_inj, String.reduceEq, decide_true, decide_false, decide_not, beq_self_eq_true, Bool.not_true, Bool.not_false, Bool.false_eq_true, Bool.true_eq_false, if_true, if_false, ite_true, ite_false, beq_t, beq_f, true_and, and_true, not_true_eq_false, not_false_eq_true, forall_const, gup_get, eq_self, reduceCtorEq, reduceIte, Sy.toD]
    refine kf _ (sIf_i fun k kt kf => ?_)
    simp only [eOp, eUn, eVar, eC, eTest, eTru, rTru, eCa, aNil, aCons, eTup, eLst, rInt, rIxd, rAdd, rIntOf, rStrOf, rLen, rTupOf, rLstOf, rEq, rIsN, rNeg, rMin, rMax, eIf, bAnd, bOr, bNot, bYes, eMtL, eMtL0, rAppend, rPop, rExtend, rInsert, rReverse, rClear, eGet1, eGet2, rGet, isDic, gNm, gsNil, gsCons, gTp, gSb, rSet, eSl, rSl, oNone, oSome, iAny, iRg1, iRg2, eLc, eDc, dwipe, CT.put, setMany, sNext, sBreak, sCont, sRetN, sNever, keyD, kD, List.getElem?_cons_zero, List.getElem?_cons_succ, List.set_cons_zero, List.set_cons_succ, List.length_cons, List.length_nil, List.cons_append, List.nil_append, atI_0, atI_1, atI_2, atI_3, atI_4, ixN_0, ixN_1, ixN_2, ixN_3, ofString_inj, String.reduceEq, decide_true, decide_false, decide_not, beq_self_eq_true, Bool.not_true, Bool.not_false, Bool.false_eq_true, Bool.true_eq_false, if_true, if_false, ite_true, ite_false, beq_t, beq_f, true_and, and_true, not_true_eq_false, not_false_eq_true, forall_const, gup_get, eq_self, reduceCtorEq, reduceIte, Sy.toD]
    refine kt _ (sFor_i fun k kn => ?_)
    simp only [eOp, eUn, eVar, eC, eTest, eTru, rTru, eCa, aNil, aCons, eTup, eLst, rInt, rIxd, rAdd, rIntOf, rStrOf, rLen, rTupOf, rLstOf, rEq, rIsN, rNeg, rMin, rMax, eIf, bAnd, bOr, bNot, bYes, eMtL, eMtL0, rAppend, rPop, rExtend, rInsert, rReverse, rClear, eGet1, eGet2, rGet, isDic, gNm, gsNil, gsCons, gTp, gSb, rSet, eSl, rSl, oNone, oSome, iAny, iRg1, iRg2, eLc, eDc, dwipe, CT.put, setMany, sNext, sBreak, sCont, sRetN, sNever, keyD, kD, List.getElem?_cons_zero, List.getElem?_cons_succ, List.set_cons_zero, List.set_cons_succ, List.length_cons, List.length_nil, List.cons_append, List.nil_append, atI_0, atI_1, atI_2, atI_3, atI_4, ixN_0, ixN_1, ixN_2, ixN_3, ofString_inj, String.reduceEq, decide_true, decide_false, decide_not, beq_self_eq_true, Bool.not_true, Bool.not_false, Bool.false_eq_true, Bool.true_eq_false, if_true, if_false, ite_true, ite_false, beq_t, beq_f, true_and, and_true, not_true_eq_false, not_false_eq_true, forall_const, gup_get, eq_self, reduceCtorEq, reduceIte, Sy.toD]
    refine kn _ _ _ ?_
    refine forL_rule (I := fun xs σ G => ∃ (ps' : List (Int × Int)) (kvs : List (Int × D)) (x3 x4 x5 x6 x7 : Option D), σ = [some s.toD, some (.ref f), some (.ref w), x3, x4, x5, x6, x7] ∧ xs = psD ps' ∧ G w = some (.lst (stk Sy.toD is)) ∧ G f = some (.dic (kD' kvs)) ∧ (kvs.map (·.1)).Nodup ∧ Ext G0 G ∧ ∀ u, (u ∈ kvs.map (·.1) ∨ u ∈ ps'.map (·.1) ∨ u ∈ Sy.ukS is) ↔ u ∈ s.uk) ?_ ?_ _ _ _ ⟨ps, kvs, _, _, _, _, _, rfl, rfl, h2', hf1, hnd, ex', by simpa only [Sy.uk] using hm0⟩
    · rintro x xs σ G k ⟨ps', kvs, x3, x4, x5, x6, x7, rfl, hxs, h2', hf1, hnd, ex', hm⟩ kk
      refine ⟨trivial, ?_⟩
      cases ps' with
      | nil => cases hxs
      | cons p ps' =>
      simp only [psD, List.map_cons, List.cons.injEq] at hxs
      obtain ⟨rfl, rfl⟩ := hxs
      have hkl : kvs.length ≤ 41 := by
        have := nodup_le 41 _ hnd fun x hx => hu x ((hm x).mp (.inl hx))
        rwa [List.length_map] at this
      refine gTp2_i ?_
      try dsimp only [List.set_cons_zero, List.set_cons_succ]
      refine sAsg_i fun k kn => ?_
      simp only [eOp, eUn, eVar, eC, eTest, eTru, rTru, eCa, aNil, aCons, eTup, eLst, rInt, rIxd, rAdd, rIntOf, rStrOf, rLen, rTupOf, rLstOf, rEq, rIsN, rNeg, rMin, rMax, eIf, bAnd, bOr, bNot, bYes, eMtL, eMtL0, rAppend, rPop, rExtend, rInsert, rReverse, rClear, eGet1, eGet2, rGet, isDic, gNm, gsNil, gsCons, gTp, gSb, rSet, eSl, rSl, oNone, oSome, iAny, iRg1, iRg2, eLc, eDc, dwipe, CT.put, setMany, sNext, sBreak, sCont, sRetN, sNever, keyD, kD, List.getElem?_cons_zero, List.getElem?_cons_succ, List.set_cons_zero, List.set_cons_succ, List.length_cons, List.length_nil, List.cons_append, List.nil_append, atI_0, atI_1, atI_2, atI_3, atI_4, ixN_0, ixN_1, ixN_2, ixN_3, ofString_inj, String.reduceEq, decide_true, decide_false, decide_not, beq_self_eq_true, Bool.not_true, Bool.not_false, Bool.false_eq_true, Bool.true_eq_false, if_true, if_false, ite_true, ite_false, beq_t, beq_f, true_and, and_true, not_true_eq_false, not_false_eq_true, forall_const, gup_get, eq_self, reduceCtorEq, reduceIte]
      refine kn _ _ ?_
      simp only [eOp, eUn, eVar, eC, eTest, eTru, rTru, eCa, aNil, aCons, eTup, eLst, rInt, rIxd, rAdd, rIntOf, rStrOf, rLen, rTupOf, rLstOf, rEq, rIsN, rNeg, rMin, rMax, eIf, bAnd, bOr, bNot, bYes, eMtL, eMtL0, rAppend, rPop, rExtend, rInsert, rReverse, rClear, eGet1, eGet2, rGet, isDic, gNm, gsNil, gsCons, gTp, gSb, rSet, eSl, rSl, oNone, oSome, iAny, iRg1, iRg2, eLc, eDc, dwipe, CT.put, setMany, sNext, sBreak, sCont, sRetN, sNever, keyD, kD, List.getElem?_cons_zero, List.getElem?_cons_succ, List.set_cons_zero, List.set_cons_succ, List.length_cons, List.length_nil, List.cons_append, List.nil_append, atI_0, atI_1, atI_2, atI_3, atI_4, ixN_0, ixN_1, ixN_2, ixN_3, ofString_inj, String.reduceEq, decide_true, decide_false, decide_not, beq_self_eq_true, Bool.not_true, Bool.not_false, Bool.false_eq_true, Bool.true_eq_false, if_true, if_false, ite_true, ite_false, beq_t, beq_f, true_and, and_true, not_true_eq_false, not_false_eq_true, forall_const, gup_get, eq_self, reduceCtorEq, reduceIte, hf1]
      refine ⟨by simp [kD']; have := sizeLine_eq; omega, kk _ _ ⟨ps', iput kvs p.1 (.bl true), _, _, _, _, _, rfl, rfl, (gup_ne (Ne.symm nfw)).trans h2', gup_same.trans (by rw [dput_kD]), iput_nodup hnd, ex'.put hf, fun u => ?_⟩⟩
      rw [← hm u, iput_mem, List.map_cons, List.mem_cons, or_assoc, or_assoc]
      exact or_left_comm
    · rintro σ G ⟨ps', kvs, x3, x4, x5, x6, x7, rfl, hxs, h2', hf1, hnd, ex', hm⟩
      refine ⟨trivial, ?_⟩
      have hps : ps' = [] := by cases ps' with
        | nil => rfl
        | cons => simp [psD] at hxs
      subst hps
      exact again (szs is) _ _ (by rw [szs_cons]; simp [Sy.sz]) ⟨is, kvs, _, _, _, _, _, rfl, rfl, h2', hf1, hnd, ex', by omega, fun u => by rw [← hm u]; simp⟩
  | node c ts =>
    simp only [Sy.sz, szS_sum] at hb
    have := len_szs ts
    simp only [eOp, eUn, eVar, eC, eTest, eTru, rTru, eCa, aNil, aCons, eTup, eLst, rInt, rIxd, rAdd, rIntOf, rStrOf, rLen, rTupOf, rLstOf, rEq, rIsN, rNeg, rMin, rMax, eIf, bAnd, bOr, bNot, bYes, eMtL, eMtL0, rAppend, rPop, rExtend, rInsert, rReverse, rClear, eGet1, eGet2, rGet, isDic, gNm, gsNil, gsCons, gTp, gSb, rSet, eSl, rSl, oNone, oSome, iAny, iRg1, iRg2, eLc, eDc, dwipe, CT.put, setMany, sNext, sBreak, sCont, sRetN, sNever, keyD, kD, List.getElem?_cons_zero, List.getElem?_cons_succ, List.set_cons_zero, List.set_cons_succ, List.length_cons, List.length_nil, List.cons_append, List.nil_append, atI_0, atI_1, atI_2, atI_3, atI_4, ixN_0, ixN_1, ixN_2, ixN_3, ofString_inj, String.reduceEq, decide_true, decide_false, decide_not, beq_self_eq_true, Bool.not_true, Bool.not_false, Bool.false_eq_true, Bool.true_eq_false, if_true, if_false, ite_true, ite_false, beq_t, beq_f, true_and, and_true, not_true_eq_false, not_false_eq_true, forall_const, gup_get, eq_self, reduceCtorEq, reduceIte, Sy.toD]
    refine kf _ (sIf_i fun k kt kf => ?_)
    simp only [eOp, eUn, eVar, eC, eTest, eTru, rTru, eCa, aNil, aCons, eTup, eLst, rInt, rIxd, rAdd, rIntOf, rStrOf, rLen, rTupOf, rLstOf, rEq, rIsN, rNeg, rMin, rMax, eIf, bAnd, bOr, bNot, bYes, eMtL, eMtL0, rAppend, rPop, rExtend, rInsert, rReverse, rClear, eGet1, eGet2, rGet, isDic, gNm, gsNil, gsCons, gTp, gSb, rSet, eSl, rSl, oNone, oSome, iAny, iRg1, iRg2, eLc, eDc, dwipe, CT.put, setMany, sNext, sBreak, sCont, sRetN, sNever, keyD, kD, List.getElem?_cons_zero, List.getElem?_cons_succ, List.set_cons_zero, List.set_cons_succ, List.length_cons, List.length_nil, List.cons_append, List.nil_append, atI_0, atI_1, atI_2, atI_3, atI_4, ixN_0, ixN_1, ixN_2, ixN_3, ofString_inj, String.reduceEq, decide_true, decide_false, decide_not, beq_self_eq_true, Bool.not_true, Bool.not_false, Bool.false_eq_true, Bool.true_eq_false, if_true, if_false, ite_true, ite_false, beq_t, beq_f, true_and, and_true, not_true_eq_false, not_false_eq_true, forall_const, gup_get, eq_self, reduceCtorEq, reduceIte, Sy.toD]
    refine kf _ (sIf_i fun k kt kf => ?_)
    simp only [eOp, eUn, eVar, eC, eTest, eTru, rTru, eCa, aNil, aCons, eTup, eLst, rInt, rIxd, rAdd, rIntOf, rStrOf, rLen, rTupOf, rLstOf, rEq, rIsN, rNeg, rMin, rMax, eIf, bAnd, bOr, bNot, bYes, eMtL, eMtL0, rAppend, rPop, rExtend, rInsert, rReverse, rClear, eGet1, eGet2, rGet, isDic, gNm, gsNil, gsCons, gTp, gSb, rSet, eSl, rSl, oNone, oSome, iAny, iRg1, iRg2, eLc, eDc, dwipe, CT.put, setMany, sNext, sBreak, sCont, sRetN, sNever, keyD, kD, List.getElem?_cons_zero, List.getElem?_cons_succ, List.set_cons_zero, List.set_cons_succ, List.length_cons, List.length_nil, List.cons_append, List.nil_append, atI_0, atI_1, atI_2, atI_3, atI_4, ixN_0, ixN_1, ixN_2, ixN_3, ofString_inj, String.reduceEq, decide_true, decide_false, decide_not, beq_self_eq_true, Bool.not_true, Bool.not_false, Bool.false_eq_true, Bool.true_eq_false, if_true, if_false, ite_true, ite_false, beq_t, beq_f, true_and, and_true, not_true_eq_false, not_false_eq_true, forall_const, gup_get, eq_self, reduceCtorEq, reduceIte, Sy.toD]
    refine kt _ (sDrop_i fun k kn => ?_)
    simp only [eOp, eUn, eVar, eC, eTest, eTru, rTru, eCa, aNil, aCons, eTup, eLst, rInt, rIxd, rAdd, rIntOf, rStrOf, rLen, rTupOf, rLstOf, rEq, rIsN, rNeg, rMin, rMax, eIf, bAnd, bOr, bNot, bYes, eMtL, eMtL0, rAppend, rPop, rExtend, rInsert, rReverse, rClear, eGet1, eGet2, rGet, isDic, gNm, gsNil, gsCons, gTp, gSb, rSet, eSl, rSl, oNone, oSome, iAny, iRg1, iRg2, eLc, eDc, dwipe, CT.put, setMany, sNext, sBreak, sCont, sRetN, sNever, keyD, kD, List.getElem?_cons_zero, List.getElem?_cons_succ, List.set_cons_zero, List.set_cons_succ, List.length_cons, List.length_nil, List.cons_append, List.nil_append, atI_0, atI_1, atI_2, atI_3, atI_4, ixN_0, ixN_1, ixN_2, ixN_3, ofString_inj, String.reduceEq, decide_true, decide_false, decide_not, beq_self_eq_true, Bool.not_true, Bool.not_false, Bool.false_eq_true, Bool.true_eq_false, if_true, if_false, ite_true, ite_false, beq_t, beq_f, true_and, and_true, not_true_eq_false, not_false_eq_true, forall_const, gup_get, eq_self, reduceCtorEq, reduceIte, h2', Sy.toD]
    have et : stk Sy.toD is ++ Sy.tsD ts = stk Sy.toD (ts.reverse ++ is) := by rw [stk_app, sD_map]; simp
    have el : (Sy.tsD ts).length = ts.length := by rw [sD_map, List.length_map]
    rw [et, el]
    refine ⟨by simp [stk]; omega, kn _ _ (again (szs (ts.reverse ++ is)) _ _ ?_ ⟨ts.reverse ++ is, kvs, _, _, _, _, _, rfl, rfl, gup_same, (gup_ne nfw).trans hf1, hnd, ex'.put hw0, ?_, fun u => ?_⟩)⟩
    · rw [szs_cons, szs_append, szs_reverse, Sy.sz, szS_sum]; omega
    · rw [szs_append, szs_reverse]; omega
    · rw [← hm0 u, Sy.uk, ukS_mem, ukS_mem, ukS_mem]
      simp only [List.mem_append, List.mem_reverse, or_and_right, exists_or]
  | map es =>
    simp only [Sy.sz, szE_sum] at hb
    simp only [eOp, eUn, eVar, eC, eTest, eTru, rTru, eCa, aNil, aCons, eTup, eLst, rInt, rIxd, rAdd, rIntOf, rStrOf, rLen, rTupOf, rLstOf, rEq, rIsN, rNeg, rMin, rMax, eIf, bAnd, bOr, bNot, bYes, eMtL, eMtL0, rAppend, rPop, rExtend, rInsert, rReverse, rClear, eGet1, eGet2, rGet, isDic, gNm, gsNil, gsCons, gTp, gSb, rSet, eSl, rSl, oNone, oSome, iAny, iRg1, iRg2, eLc, eDc, dwipe, CT.put, setMany, sNext, sBreak, sCont, sRetN, sNever, keyD, kD, List.getElem?_cons_zero, List.getElem?_cons_succ, List.set_cons_zero, List.set_cons_succ, List.length_cons, List.length_nil, List.cons_append, List.nil_append, atI_0, atI_1, atI_2, atI_3, atI_4, ixN_0, ixN_1, ixN_2, ixN_3, ofString_inj, String.reduceEq, decide_true, decide_false, decide_not, beq_self_eq_true, Bool.not_true, Bool.not_false, Bool.false_eq_true, Bool.true_eq_false, if_true, if_false, ite_true, ite_false, beq_t, beq_f, true_and, and_true, not_true_eq_false, not_false_eq_true, forall_const, gup_get, eq_self, reduceCtorEq, reduceIte, Sy.toD]
    refine kf _ (sIf_i fun k kt kf => ?_)
    simp only [eOp, eUn, eVar, eC, eTest, eTru, rTru, eCa, aNil, aCons, eTup, eLst, rInt, rIxd, rAdd, rIntOf, rStrOf, rLen, rTupOf, rLstOf, rEq, rIsN, rNeg, rMin, rMax, eIf, bAnd, bOr, bNot, bYes, eMtL, eMtL0, rAppend, rPop, rExtend, rInsert, rReverse, rClear, eGet1, eGet2, rGet, isDic, gNm, gsNil, gsCons, gTp, gSb, rSet, eSl, rSl, oNone, oSome, iAny, iRg1, iRg2, eLc, eDc, dwipe, CT.put, setMany, sNext, sBreak, sCont, sRetN, sNever, keyD, kD, List.getElem?_cons_zero, List.getElem?_cons_succ, List.set_cons_zero, List.set_cons_succ, List.length_cons, List.length_nil, List.cons_append, List.nil_append, atI_0, atI_1, atI_2, atI_3, atI_4, ixN_0, ixN_1, ixN_2, ixN_3, ofString_inj, String.reduceEq, decide_true, decide_false, decide_not, beq_self_eq_true, Bool.not_true, Bool.not_false, Bool.false_eq_true, Bool.true_eq_false, if_true, if_false, ite_true, ite_false, beq_t, beq_f, true_and, and_true, not_true_eq_false, not_false_eq_true, forall_const, gup_get, eq_self, reduceCtorEq, reduceIte, Sy.toD]
    refine kf _ (sIf_i fun k kt kf => ?_)
    simp only [eOp, eUn, eVar, eC, eTest, eTru, rTru, eCa, aNil, aCons, eTup, eLst, rInt, rIxd, rAdd, rIntOf, rStrOf, rLen, rTupOf, rLstOf, rEq, rIsN, rNeg, rMin, rMax, eIf, bAnd, bOr, bNot, bYes, eMtL, eMtL0, rAppend, rPop, rExtend, rInsert, rReverse, rClear, eGet1, eGet2, rGet, isDic, gNm, gsNil, gsCons, gTp, gSb, rSet, eSl, rSl, oNone, oSome, iAny, iRg1, iRg2, eLc, eDc, dwipe, CT.put, setMany, sNext, sBreak, sCont, sRetN, sNever, keyD, kD, List.getElem?_cons_zero, List.getElem?_cons_succ, List.set_cons_zero, List.set_cons_succ, List.length_cons, List.length_nil, List.cons_append, List.nil_append, atI_0, atI_1, atI_2, atI_3, atI_4, ixN_0, ixN_1, ixN_2, ixN_3, ofString_inj, String.reduceEq, decide_true, decide_false, decide_not, beq_self_eq_true, Bool.not_true, Bool.not_false, Bool.false_eq_true, Bool.true_eq_false, if_true, if_false, ite_true, ite_false, beq_t, beq_f, true_and, and_true, not_true_eq_false, not_false_eq_true, forall_const, gup_get, eq_self, reduceCtorEq, reduceIte, Sy.toD]
    refine kf _ (sIf_i fun k kt kf => ?_)
    simp only [eOp, eUn, eVar, eC, eTest, eTru, rTru, eCa, aNil, aCons, eTup, eLst, rInt, rIxd, rAdd, rIntOf, rStrOf, rLen, rTupOf, rLstOf, rEq, rIsN, rNeg, rMin, rMax, eIf, bAnd, bOr, bNot, bYes, eMtL, eMtL0, rAppend, rPop, rExtend, rInsert, rReverse, rClear, eGet1, eGet2, rGet, isDic, gNm, gsNil, gsCons, gTp, gSb, rSet, eSl, rSl, oNone, oSome, iAny, iRg1, iRg2, eLc, eDc, dwipe, CT.put, setMany, sNext, sBreak, sCont, sRetN, sNever, keyD, kD, List.getElem?_cons_zero, List.getElem?_cons_succ, List.set_cons_zero, List.set_cons_succ, List.length_cons, List.length_nil, List.cons_append, List.nil_append, atI_0, atI_1, atI_2, atI_3, atI_4, ixN_0, ixN_1, ixN_2, ixN_3, ofString_inj, String.reduceEq, decide_true, decide_false, decide_not, beq_self_eq_true, Bool.not_true, Bool.not_false, Bool.false_eq_true, Bool.true_eq_false, if_true, if_false, ite_true, ite_false, beq_t, beq_f, true_and, and_true, not_true_eq_false, not_false_eq_true, forall_const, gup_get, eq_self, reduceCtorEq, reduceIte, Sy.toD]
    refine kt _ (qWhen_i fun k kt kf => ?_)
    simp only [eOp, eUn, eVar, eC, eTest, eTru, rTru, eCa, aNil, aCons, eTup, eLst, rInt, rIxd, rAdd, rIntOf, rStrOf, rLen, rTupOf, rLstOf, rEq, rIsN, rNeg, rMin, rMax, eIf, bAnd, bOr, bNot, bYes, eMtL, eMtL0, rAppend, rPop, rExtend, rInsert, rReverse, rClear, eGet1, eGet2, rGet, isDic, gNm, gsNil, gsCons, gTp, gSb, rSet, eSl, rSl, oNone, oSome, iAny, iRg1, iRg2, eLc, eDc, dwipe, CT.put, setMany, sNext, sBreak, sCont, sRetN, sNever, keyD, kD, List.getElem?_cons_zero, List.getElem?_cons_succ, List.set_cons_zero, List.set_cons_succ, List.length_cons, List.length_nil, List.cons_append, List.nil_append, atI_0, atI_1, atI_2, atI_3, atI_4, ixN_0, ixN_1, ixN_2, ixN_3, ofString_inj, String.reduceEq, decide_true, decide_false, decide_not, beq_self_eq_true, Bool.not_true, Bool.not_false, Bool.false_eq_true, Bool.true_eq_false, if_true, if_false, ite_true, ite_false, beq_t, beq_f, true_and, and_true, not_true_eq_false, not_false_eq_true, forall_const, gup_get, eq_self, reduceCtorEq, reduceIte, Sy.toD]
    refine kf _ (sFor_i fun k kn => ?_)
    simp only [eOp, eUn, eVar, eC, eTest, eTru, rTru, eCa, aNil, aCons, eTup, eLst, rInt, rIxd, rAdd, rIntOf, rStrOf, rLen, rTupOf, rLstOf, rEq, rIsN, rNeg, rMin, rMax, eIf, bAnd, bOr, bNot, bYes, eMtL, eMtL0, rAppend, rPop, rExtend, rInsert, rReverse, rClear, eGet1, eGet2, rGet, isDic, gNm, gsNil, gsCons, gTp, gSb, rSet, eSl, rSl, oNone, oSome, iAny, iRg1, iRg2, eLc, eDc, dwipe, CT.put, setMany, sNext, sBreak, sCont, sRetN, sNever, keyD, kD, List.getElem?_cons_zero, List.getElem?_cons_succ, List.set_cons_zero, List.set_cons_succ, List.length_cons, List.length_nil, List.cons_append, List.nil_append, atI_0, atI_1, atI_2, atI_3, atI_4, ixN_0, ixN_1, ixN_2, ixN_3, ofString_inj, String.reduceEq, decide_true, decide_false, decide_not, beq_self_eq_true, Bool.not_true, Bool.not_false, Bool.false_eq_true, Bool.true_eq_false, if_true, if_false, ite_true, ite_false, beq_t, beq_f, true_and, and_true, not_true_eq_false, not_false_eq_true, forall_const, gup_get, eq_self, reduceCtorEq, reduceIte, Sy.toD]
    refine kn _ _ _ ?_
    refine forL_rule (I := fun xs σ G => ∃ (es' : List (Str × Sy)) (is' : List Sy) (x3 x4 x5 x6 x7 : Option D), σ = [some s.toD, some (.ref f), some (.ref w), x3, x4, x5, x6, x7] ∧ xs = Sy.esD es' ∧ G w = some (.lst (stk Sy.toD is')) ∧ G f = some (.dic (kD' kvs)) ∧ Ext G0 G ∧ szs is' + (es'.length + szs (es'.map (·.2))) + 1 ≤ szs (.map es :: is) ∧ ∀ u, (u ∈ kvs.map (·.1) ∨ u ∈ Sy.ukE es' ∨ u ∈ Sy.ukS is') ↔ u ∈ s.uk) ?_ ?_ _ _ _ ⟨es, is, _, _, _, _, _, rfl, rfl, h2', hf1, ex', by rw [szs_cons, Sy.sz, szE_sum]; omega, by simpa only [Sy.uk] using hm0⟩
    · rintro x xs σ G k ⟨es', is', x3, x4, x5, x6, x7, rfl, hxs, h2', hf1, ex', hs, hm⟩ kk
      refine ⟨trivial, ?_⟩
      cases es' with
      | nil => cases hxs
      | cons p es' =>
      obtain ⟨wd, t⟩ := p
      simp only [Sy.esD, List.cons.injEq] at hxs
      obtain ⟨rfl, rfl⟩ := hxs
      refine gTp2_i ?_
      try dsimp only [List.set_cons_zero, List.set_cons_succ]
      have lis' := len_szs is'
      rw [szs_cons, Sy.sz, szE_sum, List.map_cons, szs_cons, List.length_cons] at hs
      refine qDrop_i fun k kn => ?_
      simp only [eOp, eUn, eVar, eC, eTest, eTru, rTru, eCa, aNil, aCons, eTup, eLst, rInt, rIxd, rAdd, rIntOf, rStrOf, rLen, rTupOf, rLstOf, rEq, rIsN, rNeg, rMin, rMax, eIf, bAnd, bOr, bNot, bYes, eMtL, eMtL0, rAppend, rPop, rExtend, rInsert, rReverse, rClear, eGet1, eGet2, rGet, isDic, gNm, gsNil, gsCons, gTp, gSb, rSet, eSl, rSl, oNone, oSome, iAny, iRg1, iRg2, eLc, eDc, dwipe, CT.put, setMany, sNext, sBreak, sCont, sRetN, sNever, keyD, kD, List.getElem?_cons_zero, List.getElem?_cons_succ, List.set_cons_zero, List.set_cons_succ, List.length_cons, List.length_nil, List.cons_append, List.nil_append, atI_0, atI_1, atI_2, atI_3, atI_4, ixN_0, ixN_1, ixN_2, ixN_3, ofString_inj, String.reduceEq, decide_true, decide_false, decide_not, beq_self_eq_true, Bool.not_true, Bool.not_false, Bool.false_eq_true, Bool.true_eq_false, if_true, if_false, ite_true, ite_false, beq_t, beq_f, true_and, and_true, not_true_eq_false, not_false_eq_true, forall_const, gup_get, eq_self, reduceCtorEq, reduceIte, h2']
      refine ⟨by simp [stk]; omega, kn _ _ ?_⟩
      refine sDrop_i fun k kn => ?_
      have e1 : gup G w (.lst (stk Sy.toD is' ++ [.tup [.str "name", .str wd]])) w = some (.lst (stk Sy.toD (.name wd :: is'))) := by rw [gup_same, stk_cons, Sy.toD]
      simp only [eOp, eUn, eVar, eC, eTest, eTru, rTru, eCa, aNil, aCons, eTup, eLst, rInt, rIxd, rAdd, rIntOf, rStrOf, rLen, rTupOf, rLstOf, rEq, rIsN, rNeg, rMin, rMax, eIf, bAnd, bOr, bNot, bYes, eMtL, eMtL0, rAppend, rPop, rExtend, rInsert, rReverse, rClear, eGet1, eGet2, rGet, isDic, gNm, gsNil, gsCons, gTp, gSb, rSet, eSl, rSl, oNone, oSome, iAny, iRg1, iRg2, eLc, eDc, dwipe, CT.put, setMany, sNext, sBreak, sCont, sRetN, sNever, keyD, kD, List.getElem?_cons_zero, List.getElem?_cons_succ, List.set_cons_zero, List.set_cons_succ, List.length_cons, List.length_nil, List.cons_append, List.nil_append, atI_0, atI_1, atI_2, atI_3, atI_4, ixN_0, ixN_1, ixN_2, ixN_3, ofString_inj, String.reduceEq, decide_true, decide_false, decide_not, beq_self_eq_true, Bool.not_true, Bool.not_false, Bool.false_eq_true, Bool.true_eq_false, if_true, if_false, ite_true, ite_false, beq_t, beq_f, true_and, and_true, not_true_eq_false, not_false_eq_true, forall_const, gup_get, eq_self, reduceCtorEq, reduceIte, e1]
      refine ⟨by simp [stk]; have := t.sz_pos; omega, kn _ _ (kk _ _ ⟨es', t :: .name wd :: is', _, _, _, _, _, rfl, rfl, ?_, ?_, ?_, ?_, fun u => ?_⟩)⟩
      · rw [gup_same, stk_cons, stk_cons]
        simp only [Sy.toD]
      · exact (gup_ne nfw).trans ((gup_ne nfw).trans hf1)
      · exact (ex'.put hw0).put hw0
      · simp only [szs_cons, Sy.sz, szE_sum]
        simp only [] at hs
        omega
      · rw [← hm u]
        simp only [Sy.ukE, Sy.ukS, Sy.uk, List.mem_append, List.not_mem_nil, false_or]
        constructor
        · rintro (h | h | h | h)
          · exact .inl h
          · exact .inr (.inl (.inr h))
          · exact .inr (.inl (.inl h))
          · exact .inr (.inr h)
        · rintro (h | (h | h) | h)
          · exact .inl h
          · exact .inr (.inr (.inl h))
          · exact .inr (.inl h)
          · exact .inr (.inr (.inr h))
    · rintro σ G ⟨es', is', x3, x4, x5, x6, x7, rfl, hxs, h2', hf1, ex', hs, hm⟩
      refine ⟨trivial, ?_⟩
      have hes : es' = [] := by cases es' with
        | nil => rfl
        | cons p es' => obtain ⟨a, b⟩ := p; simp [Sy.esD] at hxs
      subst hes
      have hs' := hs
      rw [szs_cons, Sy.sz, szE_sum] at hs
      exact again (szs is') _ _ (by omega) ⟨is', kvs, _, _, _, _, _, rfl, rfl, h2', hf1, hnd, ex', by omega, fun u => by rw [← hm u]; simp [Sy.ukE]⟩

/-! ### sums -/
def accK (f : D → D) (g : List (Int × D) → Int × Int → D) (kvs : List (Int × D)) (ps : List (Int × Int)) : List (Int × D) := ps.foldl (fun kvs p => iput kvs p.1 (g kvs p)) kvs
/-- what the first sum gives -/
def kv1 (ps : List (Int × Int)) : List (Int × D) := ps.foldl (fun kvs p => iput kvs p.1 (.int p.2)) []
def dI : D → Int
  | .int i => i
  | _ => 0
def kv2 (sg : Int) (kvs : List (Int × D)) (ps : List (Int × Int)) : List (Int × D) := ps.foldl (fun kvs p => iput kvs p.1 (.int (dI ((ival kvs p.1).getD (.int 0)) + sg * p.2))) kvs
def isI (d : D) : Prop := ∃ i, d = .int i
def sorti (ks : List Int) : List Int := ks.mergeSort fun a b => decide (a ≤ b)
theorem sorti_eq {ns ks : List Int} (hp : ns.Perm ks) (hs : ns.Pairwise (· ≤ ·)) : ns = sorti ks := by
  refine List.Perm.eq_of_pairwise (le := (· ≤ ·)) (fun x y _ _ h1 h2 => by omega) hs ?_ (hp.trans (List.mergeSort_perm ..).symm)
  have := List.pairwise_mergeSort (le := fun a b : Int => decide (a ≤ b)) (fun a b c h1 h2 => by simp at *; omega) (fun a b => by simp; omega) ks
  exact this.imp fun h => by simpa using h
def sumOf (kvs : List (Int × D)) : List (Int × Int) := ((sorti (kvs.map (·.1))).map fun u => (u, dI ((ival kvs u).getD .non))).filter fun p => decide (p.2 ≠ 0)
def addP (ps qs : List (Int × Int)) (sg : Int) : List (Int × Int) := sumOf (kv2 sg (kv1 ps) qs)
theorem kv_len {g : List (Int × D) → Int × Int → D} : ∀ {ps : List (Int × Int)} {kvs : List (Int × D)}, (ps.foldl (fun kvs p => iput kvs p.1 (g kvs p)) kvs).length ≤ kvs.length + ps.length
  | [], kvs => by simp
  | p :: ps, kvs => by
    rw [List.foldl_cons]
    have := kv_len (g := g) (ps := ps) (kvs := iput kvs p.1 (g kvs p))
    have := iput_len (kvs := kvs) (u := p.1) (v := g kvs p)
    rw [List.length_cons]
    omega
theorem kv_all {P : D → Prop} {g : List (Int × D) → Int × Int → D} (hg : ∀ kvs p, P (g kvs p)) : ∀ {ps : List (Int × Int)} {kvs : List (Int × D)}, (∀ kv ∈ kvs, P kv.2) → ∀ kv ∈ ps.foldl (fun kvs p => iput kvs p.1 (g kvs p)) kvs, P kv.2
  | [], kvs, h => h
  | p :: ps, kvs, h => kv_all hg (ps := ps) (iput_all h (hg _ _))
end Dn.My

namespace Dn.My
open PySem PySem.Spec PyProof.Rows L2 Dn

theorem lcL_if {sb : GP → Prop} {ct : CT} {tt : DTT} {te : DTE} {σ : DS} {G : GP} {c : D → Bool} {f : D → D} : ∀ {xs acc : List D} {Q : List D → GP → Prop}, (∀ x ∈ xs, ∃ σ2, ct.put x σ = some σ2 ∧ (∀ k : Bool → GP → Prop, k (c x) G → tt σ2 G k) ∧ (c x = true → ∀ k : DVK, k (f x) G → te σ2 G k)) → sb G → acc.length + xs.length ≤ sizeLine →
    Q (acc ++ (xs.filter c).map f) G → lcL sb ct tt te σ Q xs acc G
  | [], acc, Q, _, hsb, _, q => ⟨hsb, by simpa using q⟩
  | x :: xs, acc, Q, h, hsb, hz, q => by
    obtain ⟨σ2, e, ht, he⟩ := h x List.mem_cons_self
    simp only [List.length_cons] at hz
    refine ⟨hsb, ?_⟩
    rw [e]
    refine ht (fun b G3 => if b = true then te σ2 G3 (fun y G4 => acc.length < sizeLine ∧ lcL sb ct tt te σ Q xs (acc ++ [y]) G4) else lcL sb ct tt te σ Q xs acc G3) ?_
    cases hc : c x with
    | true =>
      simp only [if_true]
      refine he hc _ ⟨by omega, lcL_if (c := c) (f := f) (fun y hy => h y (List.mem_cons_of_mem _ hy)) hsb ?_ ?_⟩
      · simp only [List.length_append, List.length_cons, List.length_nil]; omega
      · rw [List.filter_cons, hc] at q
        simpa using q
    | false =>
      simp only [Bool.false_eq_true, if_false]
      refine lcL_if (c := c) (f := f) (fun y hy => h y (List.mem_cons_of_mem _ hy)) hsb (by omega) ?_
      rw [List.filter_cons, hc] at q
      simpa using q
theorem kv1_isI {ps : List (Int × Int)} {kvs : List (Int × D)} (h : ∀ kv ∈ kvs, isI kv.2) : ∀ kv ∈ ps.foldl (fun kvs p => iput kvs p.1 (.int p.2)) kvs, isI kv.2 := kv_all (g := fun _ p => .int p.2) (fun _ p => ⟨_, rfl⟩) h
theorem kv2_isI {sg : Int} {ps : List (Int × Int)} {kvs : List (Int × D)} (h : ∀ kv ∈ kvs, isI kv.2) : ∀ kv ∈ kv2 sg kvs ps, isI kv.2 := kv_all (g := fun kvs p => .int (dI ((ival kvs p.1).getD (.int 0)) + sg * p.2)) (fun _ p => ⟨_, rfl⟩) h
theorem kv_nodup {g : List (Int × D) → Int × Int → D} : ∀ {ps : List (Int × Int)} {kvs : List (Int × D)}, (kvs.map (·.1)).Nodup → ((ps.foldl (fun kvs p => iput kvs p.1 (g kvs p)) kvs).map (·.1)).Nodup
  | [], kvs, h => h
  | p :: ps, kvs, h => kv_nodup (g := g) (ps := ps) (iput_nodup h)
/-- {u: m for u, m in ps} -/
theorem dcL_kv {σ : DS} {G : GP} {i j : Nat} (hij : i ≠ j) (hi : i < σ.length) (hj : j < σ.length) : ∀ {ps : List (Int × Int)} {kvs : List (Int × D)} {Q : List (Key × D) → GP → Prop}, kvs.length + ps.length < sizeLine →
    Q (kD' (ps.foldl (fun kvs p => iput kvs p.1 (.int p.2)) kvs)) G → dcL sTrue (.many [i, j]) bYes (eVar i) (eVar j) σ Q (psD ps) (kD' kvs) G
  | [], kvs, Q, _, q => ⟨trivial, q⟩
  | p :: ps, kvs, Q, hz, q => by
    refine ⟨trivial, ?_⟩
    have e1 : ((σ.set i (some (D.int p.1))).set j (some (.int p.2)))[i]? = some (some (.int p.1)) := by
      rw [List.getElem?_set_ne (Ne.symm hij), List.getElem?_set_self hi]
    have e2 : ((σ.set i (some (D.int p.1))).set j (some (.int p.2)))[j]? = some (some (.int p.2)) := by
      rw [List.getElem?_set_self (by simpa using hj)]
    simp only [List.length_cons] at hz
    simp only [eOp, eUn, eVar, eC, eTest, eTru, rTru, eCa, aNil, aCons, eTup, eLst, rInt, rIxd, rAdd, rIntOf, rStrOf, rLen, rTupOf, rLstOf, rEq, rIsN, rNeg, rMin, rMax, eIf, bAnd, bOr, bNot, bYes, eMtL, eMtL0, rAppend, rPop, rExtend, rInsert, rReverse, rClear, eGet1, eGet2, rGet, isDic, gNm, gsNil, gsCons, gTp, gSb, rSet, eSl, rSl, oNone, oSome, iAny, iRg1, iRg2, eLc, eDc, dwipe, CT.put, setMany, sNext, sBreak, sCont, sRetN, sNever, keyD, kD, List.getElem?_cons_zero, List.getElem?_cons_succ, List.set_cons_zero, List.set_cons_succ, List.length_cons, List.length_nil, List.cons_append, List.nil_append, atI_0, atI_1, atI_2, atI_3, atI_4, ixN_0, ixN_1, ixN_2, ixN_3, ofString_inj, String.reduceEq, decide_true, decide_false, decide_not, beq_self_eq_true, Bool.not_true, Bool.not_false, Bool.false_eq_true, Bool.true_eq_false, if_true, if_false, ite_true, ite_false, beq_t, beq_f, true_and, and_true, not_true_eq_false, not_false_eq_true, forall_const, gup_get, eq_self, reduceCtorEq, reduceIte, e1, e2]
    refine ⟨by simp [kD']; omega, ?_⟩
    rw [dput_kD]
    refine dcL_kv hij hi hj (ps := ps) ?_ q
    have := iput_len (kvs := kvs) (u := p.1) (v := .int p.2)
    omega
theorem sumOf_D {kvs : List (Int × D)} (hI : ∀ kv ∈ kvs, isI kv.2) {ns : List Int} (hns : ns = sorti (kvs.map (·.1))) :
    psD (sumOf kvs) = (((ns.map D.int).filter fun d => match d with | .int u => decide (dI ((ival kvs u).getD .non) ≠ 0) | _ => false).map fun d => match d with | .int u => .tup [.int u, (ival kvs u).getD .non] | _ => .non) := by
  have hm : ∀ u ∈ ns, u ∈ kvs.map (·.1) := fun u hu => by
    rw [hns] at hu
    exact (List.mergeSort_perm ..).mem_iff.mp hu
  unfold sumOf psD
  rw [← hns]
  clear hns
  rw [List.filter_map, List.filter_map, List.map_map, List.map_map]
  apply List.map_congr_left
  intro u hu
  have hu' := hm u (List.mem_filter.mp hu).1
  obtain ⟨d, hd⟩ := ival_some hu'
  obtain ⟨i, hi⟩ := hI _ (ival_mem hd)
  simp only at hi
  subst hi
  simp only [Function.comp, hd, Option.getD_some, dI]
def sp_added : DSp := fun ds G Q => ∃ (ps qs : List (Int × Int)) (a b sg : Int), ds = [(Sy.sum ps a).toD, (Sy.sum qs b).toD, .int sg] ∧ ps.length ≤ 8 ∧ qs.length ≤ 8 ∧ (sg = 1 ∨ sg = -1) ∧ ∀ G', Ext G G' → Q (Sy.sum (addP ps qs sg) (a + sg * b)).toD G'
theorem sem_added {E : DEnds} {G0 : GP} {ps qs : List (Int × Int)} {a b sg : Int} (h1 : ps.length ≤ 8) (h2 : qs.length ≤ 8) (hs : sg = 1 ∨ sg = -1) (q : ∀ G', Ext G0 G' → E.rt (Sy.sum (addP ps qs sg) (a + sg * b)).toD G') :
    rd_added E (dstart n_added [(Sy.sum ps a).toD, (Sy.sum qs b).toD, .int sg]) G0 := by
  show rd_added E [some (Sy.sum ps a).toD, some (Sy.sum qs b).toD, some (.int sg), none, none, none, none] G0
  unfold rd_added
  have hsz := sizeLine_eq
  have hsg : -(2 ^ 64) < sg ∧ sg < 2 ^ 64 := by rcases hs with rfl | rfl <;> decide
  refine qSet_i fun k kn => ?_
  simp only [eOp, eUn, eVar, eC, eTest, eTru, rTru, eCa, aNil, aCons, eTup, eLst, rInt, rIxd, rAdd, rIntOf, rStrOf, rLen, rTupOf, rLstOf, rEq, rIsN, rNeg, rMin, rMax, eIf, bAnd, bOr, bNot, bYes, eMtL, eMtL0, rAppend, rPop, rExtend, rInsert, rReverse, rClear, eGet1, eGet2, rGet, isDic, gNm, gsNil, gsCons, gTp, gSb, rSet, eSl, rSl, oNone, oSome, iAny, iRg1, iRg2, eLc, eDc, dwipe, CT.put, setMany, sNext, sBreak, sCont, sRetN, sNever, keyD, kD, List.getElem?_cons_zero, List.getElem?_cons_succ, List.set_cons_zero, List.set_cons_succ, List.length_cons, List.length_nil, List.cons_append, List.nil_append, atI_0, atI_1, atI_2, atI_3, atI_4, ixN_0, ixN_1, ixN_2, ixN_3, ofString_inj, String.reduceEq, decide_true, decide_false, decide_not, beq_self_eq_true, Bool.not_true, Bool.not_false, Bool.false_eq_true, Bool.true_eq_false, if_true, if_false, ite_true, ite_false, beq_t, beq_f, true_and, and_true, not_true_eq_false, not_false_eq_true, forall_const, gup_get, eq_self, reduceCtorEq, reduceIte, Sy.toD]
  refine dcL_kv (kvs := []) (by decide) (by simp [dwipe]) (by simp [dwipe]) (by simp; omega) fun f hf => kn _ _ ?_
  try dsimp only [List.set_cons_zero, List.set_cons_succ]
  refine qFor_i fun k kn => ?_
  simp only [eOp, eUn, eVar, eC, eTest, eTru, rTru, eCa, aNil, aCons, eTup, eLst, rInt, rIxd, rAdd, rIntOf, rStrOf, rLen, rTupOf, rLstOf, rEq, rIsN, rNeg, rMin, rMax, eIf, bAnd, bOr, bNot, bYes, eMtL, eMtL0, rAppend, rPop, rExtend, rInsert, rReverse, rClear, eGet1, eGet2, rGet, isDic, gNm, gsNil, gsCons, gTp, gSb, rSet, eSl, rSl, oNone, oSome, iAny, iRg1, iRg2, eLc, eDc, dwipe, CT.put, setMany, sNext, sBreak, sCont, sRetN, sNever, keyD, kD, List.getElem?_cons_zero, List.getElem?_cons_succ, List.set_cons_zero, List.set_cons_succ, List.length_cons, List.length_nil, List.cons_append, List.nil_append, atI_0, atI_1, atI_2, atI_3, atI_4, ixN_0, ixN_1, ixN_2, ixN_3, ofString_inj, String.reduceEq, decide_true, decide_false, decide_not, beq_self_eq_true, Bool.not_true, Bool.not_false, Bool.false_eq_true, Bool.true_eq_false, if_true, if_false, ite_true, ite_false, beq_t, beq_f, true_and, and_true, not_true_eq_false, not_false_eq_true, forall_const, gup_get, eq_self, reduceCtorEq, reduceIte, Sy.toD]
  refine kn _ _ _ ?_
  have hk1 : (kv1 ps).length ≤ 8 := by
    have := kv_len (g := fun _ p => .int p.2) (ps := ps) (kvs := [])
    simp only [List.length_nil] at this
    unfold kv1
    omega
  have hn1 : ((kv1 ps).map (·.1)).Nodup := kv_nodup (g := fun _ p => .int p.2) (ps := ps) (kvs := []) (by simp)
  have hi1 : ∀ kv ∈ kv1 ps, isI kv.2 := kv1_isI (ps := ps) (kvs := []) (by simp)
  refine forL_rule (I := fun xs σ G => ∃ (qs' : List (Int × Int)) (kvs : List (Int × D)) (x4 x5 x6 : Option D), σ = [some (Sy.sum ps a).toD, some (Sy.sum qs b).toD, some (.int sg), some (.ref f), x4, x5, x6] ∧ xs = psD qs' ∧ G f = some (.dic (kD' kvs)) ∧ (∀ kv ∈ kvs, isI kv.2) ∧ (kvs.map (·.1)).Nodup ∧ kvs.length + qs'.length ≤ 16 ∧ Ext G0 G ∧ kv2 sg kvs qs' = kv2 sg (kv1 ps) qs) ?_ ?_ _ _ _ ⟨qs, kv1 ps, _, _, _, rfl, rfl, gup_same, hi1, hn1, by omega, Ext.new hf, rfl⟩
  · rintro x xs σ G k ⟨qs', kvs, x4, x5, x6, rfl, hxs, hG, hI, hN, hL, hE, hV⟩ kk
    refine ⟨trivial, ?_⟩
    cases qs' with
    | nil => cases hxs
    | cons p qs' =>
    simp only [psD, List.map_cons, List.cons.injEq] at hxs
    obtain ⟨rfl, rfl⟩ := hxs
    refine gTp2_i ?_
    try dsimp only [List.set_cons_zero, List.set_cons_succ]
    refine sAsg_i fun k kn => ?_
    have hI0 : isI ((ival kvs p.1).getD (.int 0)) := by
      cases e : ival kvs p.1 with
      | none => exact ⟨0, rfl⟩
      | some d => exact hI _ (ival_mem e)
    obtain ⟨i0, ei0⟩ := hI0
    simp only [eOp, eUn, eVar, eC, eTest, eTru, rTru, eCa, aNil, aCons, eTup, eLst, rInt, rIxd, rAdd, rIntOf, rStrOf, rLen, rTupOf, rLstOf, rEq, rIsN, rNeg, rMin, rMax, eIf, bAnd, bOr, bNot, bYes, eMtL, eMtL0, rAppend, rPop, rExtend, rInsert, rReverse, rClear, eGet1, eGet2, rGet, isDic, gNm, gsNil, gsCons, gTp, gSb, rSet, eSl, rSl, oNone, oSome, iAny, iRg1, iRg2, eLc, eDc, dwipe, CT.put, setMany, sNext, sBreak, sCont, sRetN, sNever, keyD, kD, List.getElem?_cons_zero, List.getElem?_cons_succ, List.set_cons_zero, List.set_cons_succ, List.length_cons, List.length_nil, List.cons_append, List.nil_append, atI_0, atI_1, atI_2, atI_3, atI_4, ixN_0, ixN_1, ixN_2, ixN_3, ofString_inj, String.reduceEq, decide_true, decide_false, decide_not, beq_self_eq_true, Bool.not_true, Bool.not_false, Bool.false_eq_true, Bool.true_eq_false, if_true, if_false, ite_true, ite_false, beq_t, beq_f, true_and, and_true, not_true_eq_false, not_false_eq_true, forall_const, gup_get, eq_self, reduceCtorEq, reduceIte, hG, dval_kD, ei0]
    refine ⟨.inl hsg, kn _ _ ?_⟩
    simp only [eOp, eUn, eVar, eC, eTest, eTru, rTru, eCa, aNil, aCons, eTup, eLst, rInt, rIxd, rAdd, rIntOf, rStrOf, rLen, rTupOf, rLstOf, rEq, rIsN, rNeg, rMin, rMax, eIf, bAnd, bOr, bNot, bYes, eMtL, eMtL0, rAppend, rPop, rExtend, rInsert, rReverse, rClear, eGet1, eGet2, rGet, isDic, gNm, gsNil, gsCons, gTp, gSb, rSet, eSl, rSl, oNone, oSome, iAny, iRg1, iRg2, eLc, eDc, dwipe, CT.put, setMany, sNext, sBreak, sCont, sRetN, sNever, keyD, kD, List.getElem?_cons_zero, List.getElem?_cons_succ, List.set_cons_zero, List.set_cons_succ, List.length_cons, List.length_nil, List.cons_append, List.nil_append, atI_0, atI_1, atI_2, atI_3, atI_4, ixN_0, ixN_1, ixN_2, ixN_3, ofString_inj, String.reduceEq, decide_true, decide_false, decide_not, beq_self_eq_true, Bool.not_true, Bool.not_false, Bool.false_eq_true, Bool.true_eq_false, if_true, if_false, ite_true, ite_false, beq_t, beq_f, true_and, and_true, not_true_eq_false, not_false_eq_true, forall_const, gup_get, eq_self, reduceCtorEq, reduceIte, hG]
    have hil := iput_len (kvs := kvs) (u := p.1) (v := .int (i0 + sg * p.2))
    simp only [List.length_cons] at hL
    refine ⟨by simp [kD']; omega, kk _ _ ⟨qs', iput kvs p.1 (.int (i0 + sg * p.2)), _, _, _, rfl, rfl, gup_same.trans (by rw [dput_kD]), iput_all hI ⟨_, rfl⟩, iput_nodup hN, by omega, hE.put hf, ?_⟩⟩
    rw [← hV]
    unfold kv2
    rw [List.foldl_cons, ei0]
    rfl
  · rintro σ G ⟨qs', kvs, x4, x5, x6, rfl, hxs, hG, hI, hN, hL, hE, hV⟩
    refine ⟨trivial, ?_⟩
    have hq : qs' = [] := by cases qs' with
      | nil => rfl
      | cons => simp [psD] at hxs
    subst hq
    have hV : kvs = kv2 sg (kv1 ps) qs := hV
    dsimp only []
    refine qSet_i fun k kn => ?_
    simp only [List.length_nil] at hL
    simp only [eOp, eUn, eVar, eC, eTest, eTru, rTru, eCa, aNil, aCons, eTup, eLst, rInt, rIxd, rAdd, rIntOf, rStrOf, rLen, rTupOf, rLstOf, rEq, rIsN, rNeg, rMin, rMax, eIf, bAnd, bOr, bNot, bYes, eMtL, eMtL0, rAppend, rPop, rExtend, rInsert, rReverse, rClear, eGet1, eGet2, rGet, isDic, gNm, gsNil, gsCons, gTp, gSb, rSet, eSl, rSl, oNone, oSome, iAny, iRg1, iRg2, eLc, eDc, dwipe, CT.put, setMany, sNext, sBreak, sCont, sRetN, sNever, keyD, kD, List.getElem?_cons_zero, List.getElem?_cons_succ, List.set_cons_zero, List.set_cons_succ, List.length_cons, List.length_nil, List.cons_append, List.nil_append, atI_0, atI_1, atI_2, atI_3, atI_4, ixN_0, ixN_1, ixN_2, ixN_3, ofString_inj, String.reduceEq, decide_true, decide_false, decide_not, beq_self_eq_true, Bool.not_true, Bool.not_false, Bool.false_eq_true, Bool.true_eq_false, if_true, if_false, ite_true, ite_false, beq_t, beq_f, true_and, and_true, not_true_eq_false, not_false_eq_true, forall_const, gup_get, eq_self, reduceCtorEq, reduceIte]
    refine .inr (.inr (.inl ⟨f, _, kvs.map (·.1), rfl, hG, by simp [kD'], by rw [List.length_map]; omega, fun ns p hp hso hp0 => ?_⟩))
    have hns := sorti_eq hp hso
    have nfp : f ≠ p := ne_none hG hp0
    have hl : ns.length = kvs.length := by have := hp.length_eq; rwa [List.length_map] at this
    have hG' : gup G p (.lst (ns.map D.int)) f = some (.dic (kD' kvs)) := (gup_ne nfp).trans hG
    simp only [gup_same]
    refine lcL_if (c := fun d => match d with | .int u => decide (dI ((ival kvs u).getD .non) ≠ 0) | _ => false) (f := fun d => match d with | .int u => .tup [.int u, (ival kvs u).getD .non] | _ => .non) (fun x hx => ?_) (.inl gup_same) (by simp; omega) ?_
    · obtain ⟨u, hu, rfl⟩ := List.mem_map.mp hx
      obtain ⟨d, hd⟩ := ival_some (hp.mem_iff.mp hu)
      obtain ⟨i, hi⟩ := hI _ (ival_mem hd)
      simp only at hi
      subst hi
      refine ⟨_, rfl, fun k hk => ?_, fun _ k hk => ?_⟩
      · simp only [eOp, eUn, eVar, eC, eTest, eTru, rTru, eCa, aNil, aCons, eTup, eLst, rInt, rIxd, rAdd, rIntOf, rStrOf, rLen, rTupOf, rLstOf, rEq, rIsN, rNeg, rMin, rMax, eIf, bAnd, bOr, bNot, bYes, eMtL, eMtL0, rAppend, rPop, rExtend, rInsert, rReverse, rClear, eGet1, eGet2, rGet, isDic, gNm, gsNil, gsCons, gTp, gSb, rSet, eSl, rSl, oNone, oSome, iAny, iRg1, iRg2, eLc, eDc, dwipe, CT.put, setMany, sNext, sBreak, sCont, sRetN, sNever, keyD, kD, List.getElem?_cons_zero, List.getElem?_cons_succ, List.set_cons_zero, List.set_cons_succ, List.length_cons, List.length_nil, List.cons_append, List.nil_append, atI_0, atI_1, atI_2, atI_3, atI_4, ixN_0, ixN_1, ixN_2, ixN_3, ofString_inj, String.reduceEq, decide_true, decide_false, decide_not, beq_self_eq_true, Bool.not_true, Bool.not_false, Bool.false_eq_true, Bool.true_eq_false, if_true, if_false, ite_true, ite_false, beq_t, beq_f, true_and, and_true, not_true_eq_false, not_false_eq_true, forall_const, gup_get, eq_self, reduceCtorEq, reduceIte, dwipe, nfp, hG, dval_kD, hd]
        simpa [hd, dI] using hk
      · simp only [eOp, eUn, eVar, eC, eTest, eTru, rTru, eCa, aNil, aCons, eTup, eLst, rInt, rIxd, rAdd, rIntOf, rStrOf, rLen, rTupOf, rLstOf, rEq, rIsN, rNeg, rMin, rMax, eIf, bAnd, bOr, bNot, bYes, eMtL, eMtL0, rAppend, rPop, rExtend, rInsert, rReverse, rClear, eGet1, eGet2, rGet, isDic, gNm, gsNil, gsCons, gTp, gSb, rSet, eSl, rSl, oNone, oSome, iAny, iRg1, iRg2, eLc, eDc, dwipe, CT.put, setMany, sNext, sBreak, sCont, sRetN, sNever, keyD, kD, List.getElem?_cons_zero, List.getElem?_cons_succ, List.set_cons_zero, List.set_cons_succ, List.length_cons, List.length_nil, List.cons_append, List.nil_append, atI_0, atI_1, atI_2, atI_3, atI_4, ixN_0, ixN_1, ixN_2, ixN_3, ofString_inj, String.reduceEq, decide_true, decide_false, decide_not, beq_self_eq_true, Bool.not_true, Bool.not_false, Bool.false_eq_true, Bool.true_eq_false, if_true, if_false, ite_true, ite_false, beq_t, beq_f, true_and, and_true, not_true_eq_false, not_false_eq_true, forall_const, gup_get, eq_self, reduceCtorEq, reduceIte, dwipe, nfp, hG, dval_kD, hd]
        refine ⟨by decide, ?_⟩
        simpa [hd] using hk
    rw [List.nil_append, ← sumOf_D hI hns]
    intro r hr
    refine kn _ _ ?_
    try dsimp only [List.set_cons_zero, List.set_cons_succ]
    refine sRet_i ?_
    simp only [eOp, eUn, eVar, eC, eTest, eTru, rTru, eCa, aNil, aCons, eTup, eLst, rInt, rIxd, rAdd, rIntOf, rStrOf, rLen, rTupOf, rLstOf, rEq, rIsN, rNeg, rMin, rMax, eIf, bAnd, bOr, bNot, bYes, eMtL, eMtL0, rAppend, rPop, rExtend, rInsert, rReverse, rClear, eGet1, eGet2, rGet, isDic, gNm, gsNil, gsCons, gTp, gSb, rSet, eSl, rSl, oNone, oSome, iAny, iRg1, iRg2, eLc, eDc, dwipe, CT.put, setMany, sNext, sBreak, sCont, sRetN, sNever, keyD, kD, List.getElem?_cons_zero, List.getElem?_cons_succ, List.set_cons_zero, List.set_cons_succ, List.length_cons, List.length_nil, List.cons_append, List.nil_append, atI_0, atI_1, atI_2, atI_3, atI_4, ixN_0, ixN_1, ixN_2, ixN_3, ofString_inj, String.reduceEq, decide_true, decide_false, decide_not, beq_self_eq_true, Bool.not_true, Bool.not_false, Bool.false_eq_true, Bool.true_eq_false, if_true, if_false, ite_true, ite_false, beq_t, beq_f, true_and, and_true, not_true_eq_false, not_false_eq_true, forall_const, gup_get, eq_self, reduceCtorEq, reduceIte, Sy.toD]
    refine ⟨.inl hsg, by decide, ?_⟩
    have fin : sumOf kvs = addP ps qs sg := by rw [addP, ← hV]
    rw [fin]
    simp only [Sy.toD] at q
    exact q _ ((hE.trans (Ext.new hp0)).trans (Ext.new hr))

/-! ### the law's own sum -/
def sp__law_added : DSp := sp_added
theorem sem__law_added {E : DEnds} {G0 : GP} {ps qs : List (Int × Int)} {a b sg : Int} (h1 : ps.length ≤ 8) (h2 : qs.length ≤ 8) (hs : sg = 1 ∨ sg = -1) (q : ∀ G', Ext G0 G' → E.rt (Sy.sum (addP ps qs sg) (a + sg * b)).toD G') :
    rd__law_added E (dstart n__law_added [(Sy.sum ps a).toD, (Sy.sum qs b).toD, .int sg]) G0 := by
  show rd__law_added E [some (Sy.sum ps a).toD, some (Sy.sum qs b).toD, some (.int sg), none, none, none, none] G0
  unfold rd__law_added
  have hsz := sizeLine_eq
  have hsg : -(2 ^ 64) < sg ∧ sg < 2 ^ 64 := by rcases hs with rfl | rfl <;> decide
  refine qSet_i fun k kn f hf => kn _ _ ?_
  try dsimp only [List.set_cons_zero, List.set_cons_succ]
  refine qFor_i fun k kn => ?_
  simp only [eOp, eUn, eVar, eC, eTest, eTru, rTru, eCa, aNil, aCons, eTup, eLst, rInt, rIxd, rAdd, rIntOf, rStrOf, rLen, rTupOf, rLstOf, rEq, rIsN, rNeg, rMin, rMax, eIf, bAnd, bOr, bNot, bYes, eMtL, eMtL0, rAppend, rPop, rExtend, rInsert, rReverse, rClear, eGet1, eGet2, rGet, isDic, gNm, gsNil, gsCons, gTp, gSb, rSet, eSl, rSl, oNone, oSome, iAny, iRg1, iRg2, eLc, eDc, dwipe, CT.put, setMany, sNext, sBreak, sCont, sRetN, sNever, keyD, kD, List.getElem?_cons_zero, List.getElem?_cons_succ, List.set_cons_zero, List.set_cons_succ, List.length_cons, List.length_nil, List.cons_append, List.nil_append, atI_0, atI_1, atI_2, atI_3, atI_4, ixN_0, ixN_1, ixN_2, ixN_3, ofString_inj, String.reduceEq, decide_true, decide_false, decide_not, beq_self_eq_true, Bool.not_true, Bool.not_false, Bool.false_eq_true, Bool.true_eq_false, if_true, if_false, ite_true, ite_false, beq_t, beq_f, true_and, and_true, not_true_eq_false, not_false_eq_true, forall_const, gup_get, eq_self, reduceCtorEq, reduceIte, Sy.toD]
  refine kn _ _ _ ?_
  have hk1 : (kv1 ps).length ≤ 8 := by
    have := kv_len (g := fun _ p => .int p.2) (ps := ps) (kvs := [])
    simp only [List.length_nil] at this
    unfold kv1
    omega
  have hn1 : ((kv1 ps).map (·.1)).Nodup := kv_nodup (g := fun _ p => .int p.2) (ps := ps) (kvs := []) (by simp)
  have hi1 : ∀ kv ∈ kv1 ps, isI kv.2 := kv1_isI (ps := ps) (kvs := []) (by simp)
  refine forL_rule (I := fun xs σ G => ∃ (ps' : List (Int × Int)) (kvs : List (Int × D)) (x4 x5 x6 : Option D), σ = [some (Sy.sum ps a).toD, some (Sy.sum qs b).toD, some (.int sg), some (.ref f), x4, x5, x6] ∧ xs = psD ps' ∧ G f = some (.dic (kD' kvs)) ∧ kvs.length + ps'.length ≤ 16 ∧ Ext G0 G ∧ ps'.foldl (fun kvs p => iput kvs p.1 (.int p.2)) kvs = kv1 ps) ?_ ?_ _ _ _ ⟨ps, [], _, _, _, rfl, rfl, gup_same, by simp; omega, Ext.new hf, rfl⟩
  · rintro x xs σ G k ⟨ps', kvs, x4, x5, x6, rfl, hxs, hG, hL, hE, hV⟩ kk
    refine ⟨trivial, ?_⟩
    cases ps' with
    | nil => cases hxs
    | cons p ps' =>
    simp only [psD, List.map_cons, List.cons.injEq] at hxs
    obtain ⟨rfl, rfl⟩ := hxs
    show sAsg _ _ _ ([some (Sy.sum ps a).toD, some (Sy.sum qs b).toD, some (.int sg), some (.ref f), some (.tup [.int p.1, .int p.2]), x5, x6]) G
    refine sAsg_i fun k kn => ?_
    simp only [eOp, eUn, eVar, eC, eTest, eTru, rTru, eCa, aNil, aCons, eTup, eLst, rInt, rIxd, rAdd, rIntOf, rStrOf, rLen, rTupOf, rLstOf, rEq, rIsN, rNeg, rMin, rMax, eIf, bAnd, bOr, bNot, bYes, eMtL, eMtL0, rAppend, rPop, rExtend, rInsert, rReverse, rClear, eGet1, eGet2, rGet, isDic, gNm, gsNil, gsCons, gTp, gSb, rSet, eSl, rSl, oNone, oSome, iAny, iRg1, iRg2, eLc, eDc, dwipe, CT.put, setMany, sNext, sBreak, sCont, sRetN, sNever, keyD, kD, List.getElem?_cons_zero, List.getElem?_cons_succ, List.set_cons_zero, List.set_cons_succ, List.length_cons, List.length_nil, List.cons_append, List.nil_append, atI_0, atI_1, atI_2, atI_3, atI_4, ixN_0, ixN_1, ixN_2, ixN_3, ofString_inj, String.reduceEq, decide_true, decide_false, decide_not, beq_self_eq_true, Bool.not_true, Bool.not_false, Bool.false_eq_true, Bool.true_eq_false, if_true, if_false, ite_true, ite_false, beq_t, beq_f, true_and, and_true, not_true_eq_false, not_false_eq_true, forall_const, gup_get, eq_self, reduceCtorEq, reduceIte, hG]
    refine kn _ _ ?_
    simp only [eOp, eUn, eVar, eC, eTest, eTru, rTru, eCa, aNil, aCons, eTup, eLst, rInt, rIxd, rAdd, rIntOf, rStrOf, rLen, rTupOf, rLstOf, rEq, rIsN, rNeg, rMin, rMax, eIf, bAnd, bOr, bNot, bYes, eMtL, eMtL0, rAppend, rPop, rExtend, rInsert, rReverse, rClear, eGet1, eGet2, rGet, isDic, gNm, gsNil, gsCons, gTp, gSb, rSet, eSl, rSl, oNone, oSome, iAny, iRg1, iRg2, eLc, eDc, dwipe, CT.put, setMany, sNext, sBreak, sCont, sRetN, sNever, keyD, kD, List.getElem?_cons_zero, List.getElem?_cons_succ, List.set_cons_zero, List.set_cons_succ, List.length_cons, List.length_nil, List.cons_append, List.nil_append, atI_0, atI_1, atI_2, atI_3, atI_4, ixN_0, ixN_1, ixN_2, ixN_3, ofString_inj, String.reduceEq, decide_true, decide_false, decide_not, beq_self_eq_true, Bool.not_true, Bool.not_false, Bool.false_eq_true, Bool.true_eq_false, if_true, if_false, ite_true, ite_false, beq_t, beq_f, true_and, and_true, not_true_eq_false, not_false_eq_true, forall_const, gup_get, eq_self, reduceCtorEq, reduceIte, hG]
    have hil := iput_len (kvs := kvs) (u := p.1) (v := .int p.2)
    simp only [List.length_cons] at hL
    exact ⟨by simp [kD']; omega, kk _ _ ⟨ps', iput kvs p.1 (.int p.2), _, _, _, rfl, rfl, gup_same.trans (by rw [dput_kD]), by omega, hE.put hf, hV⟩⟩
  rintro σ G ⟨ps', kvs, x4, x5, x6, rfl, hxs, hG, hL, hE, hV⟩
  refine ⟨trivial, ?_⟩
  have hq : ps' = [] := by cases ps' with
    | nil => rfl
    | cons => simp [psD] at hxs
  subst hq
  have hV : kvs = kv1 ps := hV
  subst hV
  dsimp only []
  refine qFor_i fun k kn => ?_
  simp only [eOp, eUn, eVar, eC, eTest, eTru, rTru, eCa, aNil, aCons, eTup, eLst, rInt, rIxd, rAdd, rIntOf, rStrOf, rLen, rTupOf, rLstOf, rEq, rIsN, rNeg, rMin, rMax, eIf, bAnd, bOr, bNot, bYes, eMtL, eMtL0, rAppend, rPop, rExtend, rInsert, rReverse, rClear, eGet1, eGet2, rGet, isDic, gNm, gsNil, gsCons, gTp, gSb, rSet, eSl, rSl, oNone, oSome, iAny, iRg1, iRg2, eLc, eDc, dwipe, CT.put, setMany, sNext, sBreak, sCont, sRetN, sNever, keyD, kD, List.getElem?_cons_zero, List.getElem?_cons_succ, List.set_cons_zero, List.set_cons_succ, List.length_cons, List.length_nil, List.cons_append, List.nil_append, atI_0, atI_1, atI_2, atI_3, atI_4, ixN_0, ixN_1, ixN_2, ixN_3, ofString_inj, String.reduceEq, decide_true, decide_false, decide_not, beq_self_eq_true, Bool.not_true, Bool.not_false, Bool.false_eq_true, Bool.true_eq_false, if_true, if_false, ite_true, ite_false, beq_t, beq_f, true_and, and_true, not_true_eq_false, not_false_eq_true, forall_const, gup_get, eq_self, reduceCtorEq, reduceIte, Sy.toD]
  refine kn _ _ _ ?_
  refine forL_rule (I := fun xs σ G => ∃ (qs' : List (Int × Int)) (kvs : List (Int × D)) (x4 x5 x6 : Option D), σ = [some (Sy.sum ps a).toD, some (Sy.sum qs b).toD, some (.int sg), some (.ref f), x4, x5, x6] ∧ xs = psD qs' ∧ G f = some (.dic (kD' kvs)) ∧ (∀ kv ∈ kvs, isI kv.2) ∧ (kvs.map (·.1)).Nodup ∧ kvs.length + qs'.length ≤ 16 ∧ Ext G0 G ∧ kv2 sg kvs qs' = kv2 sg (kv1 ps) qs) ?_ ?_ _ _ _ ⟨qs, kv1 ps, _, _, _, rfl, rfl, hG, hi1, hn1, by omega, hE, rfl⟩
  · rintro x xs σ G k ⟨qs', kvs, x4, x5, x6, rfl, hxs, hG, hI, hN, hL, hE, hV⟩ kk
    refine ⟨trivial, ?_⟩
    cases qs' with
    | nil => cases hxs
    | cons p qs' =>
    simp only [psD, List.map_cons, List.cons.injEq] at hxs
    obtain ⟨rfl, rfl⟩ := hxs
    show sAsg _ _ _ ([some (Sy.sum ps a).toD, some (Sy.sum qs b).toD, some (.int sg), some (.ref f), some (.tup [.int p.1, .int p.2]), x5, x6]) G
    refine sAsg_i fun k kn => ?_
    have hI0 : isI ((ival kvs p.1).getD (.int 0)) := by
      cases e : ival kvs p.1 with
      | none => exact ⟨0, rfl⟩
      | some d => exact hI _ (ival_mem e)
    obtain ⟨i0, ei0⟩ := hI0
    simp only [eOp, eUn, eVar, eC, eTest, eTru, rTru, eCa, aNil, aCons, eTup, eLst, rInt, rIxd, rAdd, rIntOf, rStrOf, rLen, rTupOf, rLstOf, rEq, rIsN, rNeg, rMin, rMax, eIf, bAnd, bOr, bNot, bYes, eMtL, eMtL0, rAppend, rPop, rExtend, rInsert, rReverse, rClear, eGet1, eGet2, rGet, isDic, gNm, gsNil, gsCons, gTp, gSb, rSet, eSl, rSl, oNone, oSome, iAny, iRg1, iRg2, eLc, eDc, dwipe, CT.put, setMany, sNext, sBreak, sCont, sRetN, sNever, keyD, kD, List.getElem?_cons_zero, List.getElem?_cons_succ, List.set_cons_zero, List.set_cons_succ, List.length_cons, List.length_nil, List.cons_append, List.nil_append, atI_0, atI_1, atI_2, atI_3, atI_4, ixN_0, ixN_1, ixN_2, ixN_3, ofString_inj, String.reduceEq, decide_true, decide_false, decide_not, beq_self_eq_true, Bool.not_true, Bool.not_false, Bool.false_eq_true, Bool.true_eq_false, if_true, if_false, ite_true, ite_false, beq_t, beq_f, true_and, and_true, not_true_eq_false, not_false_eq_true, forall_const, gup_get, eq_self, reduceCtorEq, reduceIte, hG, dval_kD, ei0]
    refine ⟨.inl hsg, kn _ _ ?_⟩
    simp only [eOp, eUn, eVar, eC, eTest, eTru, rTru, eCa, aNil, aCons, eTup, eLst, rInt, rIxd, rAdd, rIntOf, rStrOf, rLen, rTupOf, rLstOf, rEq, rIsN, rNeg, rMin, rMax, eIf, bAnd, bOr, bNot, bYes, eMtL, eMtL0, rAppend, rPop, rExtend, rInsert, rReverse, rClear, eGet1, eGet2, rGet, isDic, gNm, gsNil, gsCons, gTp, gSb, rSet, eSl, rSl, oNone, oSome, iAny, iRg1, iRg2, eLc, eDc, dwipe, CT.put, setMany, sNext, sBreak, sCont, sRetN, sNever, keyD, kD, List.getElem?_cons_zero, List.getElem?_cons_succ, List.set_cons_zero, List.set_cons_succ, List.length_cons, List.length_nil, List.cons_append, List.nil_append, atI_0, atI_1, atI_2, atI_3, atI_4, ixN_0, ixN_1, ixN_2, ixN_3, ofString_inj, String.reduceEq, decide_true, decide_false, decide_not, beq_self_eq_true, Bool.not_true, Bool.not_false, Bool.false_eq_true, Bool.true_eq_false, if_true, if_false, ite_true, ite_false, beq_t, beq_f, true_and, and_true, not_true_eq_false, not_false_eq_true, forall_const, gup_get, eq_self, reduceCtorEq, reduceIte, hG]
    have hil := iput_len (kvs := kvs) (u := p.1) (v := .int (i0 + sg * p.2))
    simp only [List.length_cons] at hL
    refine ⟨by simp [kD']; omega, kk _ _ ⟨qs', iput kvs p.1 (.int (i0 + sg * p.2)), _, _, _, rfl, rfl, gup_same.trans (by rw [dput_kD]), iput_all hI ⟨_, rfl⟩, iput_nodup hN, by omega, hE.put hf, ?_⟩⟩
    rw [← hV]
    unfold kv2
    rw [List.foldl_cons, ei0]
    rfl
  rintro σ G ⟨qs', kvs, x4, x5, x6, rfl, hxs, hG, hI, hN, hL, hE, hV⟩
  refine ⟨trivial, ?_⟩
  have hq : qs' = [] := by cases qs' with
    | nil => rfl
    | cons => simp [psD] at hxs
  subst hq
  have hV : kvs = kv2 sg (kv1 ps) qs := hV
  dsimp only []
  refine qSet_i fun k kn => ?_
  simp only [List.length_nil] at hL
  simp only [eOp, eUn, eVar, eC, eTest, eTru, rTru, eCa, aNil, aCons, eTup, eLst, rInt, rIxd, rAdd, rIntOf, rStrOf, rLen, rTupOf, rLstOf, rEq, rIsN, rNeg, rMin, rMax, eIf, bAnd, bOr, bNot, bYes, eMtL, eMtL0, rAppend, rPop, rExtend, rInsert, rReverse, rClear, eGet1, eGet2, rGet, isDic, gNm, gsNil, gsCons, gTp, gSb, rSet, eSl, rSl, oNone, oSome, iAny, iRg1, iRg2, eLc, eDc, dwipe, CT.put, setMany, sNext, sBreak, sCont, sRetN, sNever, keyD, kD, List.getElem?_cons_zero, List.getElem?_cons_succ, List.set_cons_zero, List.set_cons_succ, List.length_cons, List.length_nil, List.cons_append, List.nil_append, atI_0, atI_1, atI_2, atI_3, atI_4, ixN_0, ixN_1, ixN_2, ixN_3, ofString_inj, String.reduceEq, decide_true, decide_false, decide_not, beq_self_eq_true, Bool.not_true, Bool.not_false, Bool.false_eq_true, Bool.true_eq_false, if_true, if_false, ite_true, ite_false, beq_t, beq_f, true_and, and_true, not_true_eq_false, not_false_eq_true, forall_const, gup_get, eq_self, reduceCtorEq, reduceIte]
  refine .inr (.inr (.inl ⟨f, _, kvs.map (·.1), rfl, hG, by simp [kD'], by rw [List.length_map]; omega, fun ns p hp hso hp0 => ?_⟩))
  have hns := sorti_eq hp hso
  have nfp : f ≠ p := ne_none hG hp0
  have hl : ns.length = kvs.length := by have := hp.length_eq; rwa [List.length_map] at this
  simp only [gup_same]
  refine lcL_pure (f := fun d => match d with | .int u => .tup [.int u, (ival kvs u).getD .non] | _ => .non) (fun x hx => ?_) (.inl gup_same) (by simp; omega) ?_
  · obtain ⟨u, hu, rfl⟩ := List.mem_map.mp hx
    obtain ⟨d, hd⟩ := ival_some (hp.mem_iff.mp hu)
    refine ⟨_, rfl, fun k hk => ?_⟩
    simp only [eOp, eUn, eVar, eC, eTest, eTru, rTru, eCa, aNil, aCons, eTup, eLst, rInt, rIxd, rAdd, rIntOf, rStrOf, rLen, rTupOf, rLstOf, rEq, rIsN, rNeg, rMin, rMax, eIf, bAnd, bOr, bNot, bYes, eMtL, eMtL0, rAppend, rPop, rExtend, rInsert, rReverse, rClear, eGet1, eGet2, rGet, isDic, gNm, gsNil, gsCons, gTp, gSb, rSet, eSl, rSl, oNone, oSome, iAny, iRg1, iRg2, eLc, eDc, dwipe, CT.put, setMany, sNext, sBreak, sCont, sRetN, sNever, keyD, kD, List.getElem?_cons_zero, List.getElem?_cons_succ, List.set_cons_zero, List.set_cons_succ, List.length_cons, List.length_nil, List.cons_append, List.nil_append, atI_0, atI_1, atI_2, atI_3, atI_4, ixN_0, ixN_1, ixN_2, ixN_3, ofString_inj, String.reduceEq, decide_true, decide_false, decide_not, beq_self_eq_true, Bool.not_true, Bool.not_false, Bool.false_eq_true, Bool.true_eq_false, if_true, if_false, ite_true, ite_false, beq_t, beq_f, true_and, and_true, not_true_eq_false, not_false_eq_true, forall_const, gup_get, eq_self, reduceCtorEq, reduceIte, dwipe, nfp, hG, dval_kD, hd]
    refine ⟨by decide, ?_⟩
    simpa [hd] using hk
  intro r hr
  rw [List.nil_append]
  refine kn _ _ ?_
  try dsimp only [List.set_cons_zero, List.set_cons_succ]
  refine sRet_i ?_
  simp only [eOp, eUn, eVar, eC, eTest, eTru, rTru, eCa, aNil, aCons, eTup, eLst, rInt, rIxd, rAdd, rIntOf, rStrOf, rLen, rTupOf, rLstOf, rEq, rIsN, rNeg, rMin, rMax, eIf, bAnd, bOr, bNot, bYes, eMtL, eMtL0, rAppend, rPop, rExtend, rInsert, rReverse, rClear, eGet1, eGet2, rGet, isDic, gNm, gsNil, gsCons, gTp, gSb, rSet, eSl, rSl, oNone, oSome, iAny, iRg1, iRg2, eLc, eDc, dwipe, CT.put, setMany, sNext, sBreak, sCont, sRetN, sNever, keyD, kD, List.getElem?_cons_zero, List.getElem?_cons_succ, List.set_cons_zero, List.set_cons_succ, List.length_cons, List.length_nil, List.cons_append, List.nil_append, atI_0, atI_1, atI_2, atI_3, atI_4, ixN_0, ixN_1, ixN_2, ixN_3, ofString_inj, String.reduceEq, decide_true, decide_false, decide_not, beq_self_eq_true, Bool.not_true, Bool.not_false, Bool.false_eq_true, Bool.true_eq_false, if_true, if_false, ite_true, ite_false, beq_t, beq_f, true_and, and_true, not_true_eq_false, not_false_eq_true, forall_const, gup_get, eq_self, reduceCtorEq, reduceIte, Sy.toD]
  refine lcL_if (c := fun d => match d with | .tup [_, .int m] => decide (m ≠ 0) | _ => false) (f := id) (fun x hx => ?_) (.inl gup_same) (by simp; omega) ?_
  · obtain ⟨y, hy, rfl⟩ := List.mem_map.mp hx
    obtain ⟨u, hu, rfl⟩ := List.mem_map.mp hy
    obtain ⟨d, hd⟩ := ival_some (hp.mem_iff.mp hu)
    obtain ⟨i, hi⟩ := hI _ (ival_mem hd)
    simp only at hi
    subst hi
    refine ⟨_, rfl, fun k hk => ?_, fun _ k hk => ?_⟩
    · simp only [eOp, eUn, eVar, eC, eTest, eTru, rTru, eCa, aNil, aCons, eTup, eLst, rInt, rIxd, rAdd, rIntOf, rStrOf, rLen, rTupOf, rLstOf, rEq, rIsN, rNeg, rMin, rMax, eIf, bAnd, bOr, bNot, bYes, eMtL, eMtL0, rAppend, rPop, rExtend, rInsert, rReverse, rClear, eGet1, eGet2, rGet, isDic, gNm, gsNil, gsCons, gTp, gSb, rSet, eSl, rSl, oNone, oSome, iAny, iRg1, iRg2, eLc, eDc, dwipe, CT.put, setMany, sNext, sBreak, sCont, sRetN, sNever, keyD, kD, List.getElem?_cons_zero, List.getElem?_cons_succ, List.set_cons_zero, List.set_cons_succ, List.length_cons, List.length_nil, List.cons_append, List.nil_append, atI_0, atI_1, atI_2, atI_3, atI_4, ixN_0, ixN_1, ixN_2, ixN_3, ofString_inj, String.reduceEq, decide_true, decide_false, decide_not, beq_self_eq_true, Bool.not_true, Bool.not_false, Bool.false_eq_true, Bool.true_eq_false, if_true, if_false, ite_true, ite_false, beq_t, beq_f, true_and, and_true, not_true_eq_false, not_false_eq_true, forall_const, gup_get, eq_self, reduceCtorEq, reduceIte, dwipe, hd, Option.getD_some]
      simpa [hd, dI] using hk
    · simp only [eOp, eUn, eVar, eC, eTest, eTru, rTru, eCa, aNil, aCons, eTup, eLst, rInt, rIxd, rAdd, rIntOf, rStrOf, rLen, rTupOf, rLstOf, rEq, rIsN, rNeg, rMin, rMax, eIf, bAnd, bOr, bNot, bYes, eMtL, eMtL0, rAppend, rPop, rExtend, rInsert, rReverse, rClear, eGet1, eGet2, rGet, isDic, gNm, gsNil, gsCons, gTp, gSb, rSet, eSl, rSl, oNone, oSome, iAny, iRg1, iRg2, eLc, eDc, dwipe, CT.put, setMany, sNext, sBreak, sCont, sRetN, sNever, keyD, kD, List.getElem?_cons_zero, List.getElem?_cons_succ, List.set_cons_zero, List.set_cons_succ, List.length_cons, List.length_nil, List.cons_append, List.nil_append, atI_0, atI_1, atI_2, atI_3, atI_4, ixN_0, ixN_1, ixN_2, ixN_3, ofString_inj, String.reduceEq, decide_true, decide_false, decide_not, beq_self_eq_true, Bool.not_true, Bool.not_false, Bool.false_eq_true, Bool.true_eq_false, if_true, if_false, ite_true, ite_false, beq_t, beq_f, true_and, and_true, not_true_eq_false, not_false_eq_true, forall_const, gup_get, eq_self, reduceCtorEq, reduceIte, dwipe, hd, Option.getD_some]
      simpa [hd] using hk
  rw [List.nil_append, List.map_id]
  intro t ht
  have e9 : (((ns.map D.int).map fun d => match d with | .int u => D.tup [.int u, (ival kvs u).getD .non] | _ => .non).filter fun d => match d with | .tup [_, .int m] => decide (m ≠ 0) | _ => false) = psD (sumOf kvs) := by
    rw [sumOf_D hI hns, List.filter_map]
    congr 1
    apply List.filter_congr
    intro x hx
    obtain ⟨u, hu, rfl⟩ := List.mem_map.mp hx
    obtain ⟨d, hd⟩ := ival_some (hp.mem_iff.mp hu)
    obtain ⟨i, hi⟩ := hI _ (ival_mem hd)
    simp only at hi
    subst hi
    simp only [Function.comp, hd, Option.getD_some, dI]
  have fin : sumOf kvs = addP ps qs sg := by rw [addP, ← hV]
  rw [e9, fin]
  refine ⟨.inl hsg, by decide, ?_⟩
  simp only [Sy.toD] at q
  exact q _ (((hE.trans (Ext.new hp0)).trans (Ext.new hr)).trans (Ext.new ht))
end Dn.My

namespace Dn.My
open PySem PySem.Spec PyProof.Rows L2 Dn

/-! ### texts -/
def okS (s : Str) : Prop := PyData.strOk s = true
theorem okS_of (s : String) : okS (Str.ofString s) := by
  unfold okS PyData.strOk
  rw [Str.ofString_eq_toList, Array.all_eq_true]
  intro i hi
  simp only [List.getElem_toArray, List.getElem_map, decide_eq_true_eq]
  generalize (s.toList[i]'_) = c
  have := c.valid
  rcases this with h | h
  · have : c.toNat < 0xd800 := h
    omega
  · have : c.toNat < 0x110000 := h.2
    omega
theorem okS_app {a b : Str} (ha : okS a) (hb : okS b) : okS (a ++ b) := by
  unfold okS PyData.strOk at *
  show (a.cps ++ b.cps).all _ = true
  rw [Array.all_append, ha, hb]
  rfl
theorem len_app {a b : Str} : (a ++ b).length = a.length + b.length := Array.size_append ..
theorem log2_small {i : Int} (h0 : 0 ≤ i) (h1 : i < 2 ^ 64) : i.natAbs.log2 < 1920 := by
  have h2 : i.natAbs < 2 ^ 64 := by omega
  have := Nat.log2_lt (n := i.natAbs) (k := 64)
  by_cases h : i.natAbs = 0
  · rw [h]; decide
  · have := (Nat.log2_lt h).mpr h2
    omega
theorem len_int {i : Int} (h0 : 0 ≤ i) (h1 : i < 2 ^ 64) : (Str.ofString (toString i)).length ≤ 1921 := PyProof.Rows.int_text_len_1921 (log2_small h0 h1)

/-! ### fine terms -/
def Sy.fine : Nat → Sy → Prop
  | _, .sum ps _ => ps.length ≤ 3 ∧ ∀ p ∈ ps, 0 ≤ p.1 ∧ p.1 < 41
  | _, .name w => okS w
  | _, .addr _ => True
  | _, .unk u => 0 ≤ u ∧ u < 41
  | 0, .map _ => False
  | 0, .node _ _ => False
  | n + 1, .map es => es.length ≤ 10 ∧ ∀ e ∈ es, okS e.1 ∧ Sy.fine n e.2
  | n + 1, .node c ts => okS c ∧ ts.length ≤ 10 ∧ ∀ t ∈ ts, Sy.fine n t
def Trm.fine (p : Str → Prop) : Nat → Trm → Prop
  | _, .int _ => True
  | _, .name w => okS w
  | _, .addr _ => True
  | _, .mv w => p w
  | 0, .map _ => False
  | 0, .node _ _ => False
  | n + 1, .map es => es.length ≤ 10 ∧ ∀ e ∈ es, okS e.1 ∧ Trm.fine p n e.2
  | n + 1, .node c ts => okS c ∧ ts.length ≤ 10 ∧ ∀ t ∈ ts, Trm.fine p n t
theorem Trm.fine_mono {p : Str → Prop} : ∀ {n : Nat} {t : Trm}, t.fine p n → t.fine p (n + 1)
  | _, .int _, h => by simp [Trm.fine]
  | _, .name w, h => by cases ‹Nat› <;> simpa [Trm.fine] using h
  | _, .addr _, h => by simp [Trm.fine]
  | _, .mv w, h => by cases ‹Nat› <;> simpa [Trm.fine] using h
  | n + 1, .map es, h => by
    simp only [Trm.fine] at h ⊢
    exact ⟨h.1, fun e he => ⟨(h.2 e he).1, Trm.fine_mono (h.2 e he).2⟩⟩
  | n + 1, .node c ts, h => by
    simp only [Trm.fine] at h ⊢
    exact ⟨h.1, h.2.1, fun e he => Trm.fine_mono (h.2.2 e he)⟩
theorem Sy.fine_leaf {n : Nat} {s : Sy} (h : s.fine 0) : s.fine n := by
  cases n <;> cases s <;> simp [Sy.fine] at h ⊢ <;> exact h
theorem due_fine {T : Str → Sy} {p : Str → Prop} (hT : ∀ w, p w → (T w).fine 0) : ∀ {n : Nat} {t : Trm}, t.fine p n → (due T t).fine n
  | n, .int _, h => by cases n <;> simp [due, Sy.fine]
  | n, .name w, h => by cases n <;> simpa [due, Sy.fine, Trm.fine] using h
  | n, .addr _, h => by cases n <;> simp [due, Sy.fine]
  | n, .mv w, h => by
    rw [due]
    exact Sy.fine_leaf (hT w (by cases n <;> simpa [Trm.fine] using h))
  | n + 1, .map es, h => by
    simp only [Trm.fine] at h
    rw [due, dueE_map]
    simp only [Sy.fine, List.length_map]
    refine ⟨h.1, fun e he => ?_⟩
    obtain ⟨e', he', rfl⟩ := List.mem_map.mp he
    exact ⟨(h.2 e' he').1, due_fine hT (h.2 e' he').2⟩
  | n + 1, .node c ts, h => by
    simp only [Trm.fine] at h
    rw [due, dueS_map]
    simp only [Sy.fine, List.length_map]
    refine ⟨h.1, h.2.1, fun e he => ?_⟩
    obtain ⟨e', he', rfl⟩ := List.mem_map.mp he
    exact due_fine hT (h.2.2 e' he')
theorem fine_all {p : Str → Prop} : ∀ {n : Nat} {t : Trm}, t.fine p n → t.all p
  | n, .int _, h => by simp [Trm.all]
  | n, .name w, h => by simp [Trm.all]
  | n, .addr _, h => by simp [Trm.all]
  | n, .mv w, h => by cases n <;> simpa [Trm.fine, Trm.all] using h
  | n + 1, .map es, h => by
    simp only [Trm.fine] at h
    rw [Trm.all, allE_iff]
    exact fun e he => fine_all (h.2 e he).2
  | n + 1, .node c ts, h => by
    simp only [Trm.fine] at h
    rw [Trm.all, allS_iff]
    exact fun e he => fine_all (h.2.2 e he)
theorem sum_le {α : Type} {f : α → Nat} {b : Nat} : ∀ {xs : List α}, (∀ x ∈ xs, f x ≤ b) → (xs.map f).sum ≤ xs.length * b
  | [], _ => by simp
  | x :: xs, h => by
    have h1 := h x List.mem_cons_self
    have h2 := sum_le (xs := xs) fun y hy => h y (List.mem_cons_of_mem _ hy)
    rw [List.map_cons, List.sum_cons, List.length_cons, Nat.succ_mul]
    omega
def wtB : Nat → Nat
  | 0 => 1
  | n + 1 => 2 + 10 * wtB n
theorem fine_wt {p : Str → Prop} : ∀ {n : Nat} {t : Trm}, t.fine p n → t.wt ≤ wtB n
  | 0, .map _, h => by simp [Trm.fine] at h
  | 0, .node _ _, h => by simp [Trm.fine] at h
  | 0, .int _, h => by simp [Trm.wt, wtB]
  | 0, .name w, h => by simp [Trm.wt, wtB]
  | 0, .addr _, h => by simp [Trm.wt, wtB]
  | 0, .mv w, h => by simp [Trm.wt, wtB]
  | n + 1, .int _, h => by simp only [Trm.wt, wtB]; omega
  | n + 1, .name w, h => by simp only [Trm.wt, wtB]; omega
  | n + 1, .addr _, h => by simp only [Trm.wt, wtB]; omega
  | n + 1, .mv w, h => by simp only [Trm.wt, wtB]; omega
  | n + 1, .map es, h => by
    simp only [Trm.fine] at h
    rw [Trm.wt, wtE_sum, wts, List.map_map, List.map_map]
    have := sum_le (f := fun e : Str × Trm => e.2.wt) (b := wtB n) (xs := es) fun e he => fine_wt (h.2 e he).2
    have h10 : es.length * wtB n ≤ 10 * wtB n := Nat.mul_le_mul_right _ h.1
    have e : (es.map ((Ins.wt ∘ Ins.term) ∘ fun x => x.2)).sum = (es.map fun e : Str × Trm => e.2.wt).sum := rfl
    rw [e, wtB]
    omega
  | n + 1, .node c ts, h => by
    simp only [Trm.fine] at h
    rw [Trm.wt, wtS_sum, wts, List.map_map]
    have := sum_le (f := Trm.wt) (b := wtB n) (xs := ts) fun e he => fine_wt (h.2.2 e he)
    have h10 : ts.length * wtB n ≤ 10 * wtB n := Nat.mul_le_mul_right _ h.2.1
    have e : (ts.map (Ins.wt ∘ Ins.term)).sum = (ts.map Trm.wt).sum := rfl
    rw [e, wtB]
    omega
def szB : Nat → Nat
  | 0 => 1
  | n + 1 => 1 + 10 * (1 + szB n)
theorem szB_pos (n : Nat) : 1 ≤ szB n := by cases n <;> simp [szB]
theorem fine_sz : ∀ {n : Nat} {t : Sy}, t.fine n → t.sz ≤ szB n
  | 0, .map _, h => by simp [Sy.fine] at h
  | 0, .node _ _, h => by simp [Sy.fine] at h
  | n, .sum _ _, h => by simp only [Sy.sz]; exact szB_pos n
  | n, .name w, h => by simp only [Sy.sz]; exact szB_pos n
  | n, .addr _, h => by simp only [Sy.sz]; exact szB_pos n
  | n, .unk w, h => by simp only [Sy.sz]; exact szB_pos n
  | n + 1, .map es, h => by
    simp only [Sy.fine] at h
    rw [Sy.sz, szE_sum, szs, List.map_map]
    have := sum_le (f := fun e : Str × Sy => e.2.sz) (b := szB n) (xs := es) fun e he => fine_sz (h.2 e he).2
    have h10 : es.length * szB n ≤ 10 * szB n := Nat.mul_le_mul_right _ h.1
    have e : (es.map (Sy.sz ∘ fun x => x.2)).sum = (es.map fun e : Str × Sy => e.2.sz).sum := rfl
    rw [e, szB]
    have := h.1
    omega
  | n + 1, .node c ts, h => by
    simp only [Sy.fine] at h
    rw [Sy.sz, szS_sum, szs]
    have := sum_le (f := Sy.sz) (b := szB n) (xs := ts) fun e he => fine_sz (h.2.2 e he)
    have h10 : ts.length * szB n ≤ 10 * szB n := Nat.mul_le_mul_right _ h.2.1
    rw [szB]
    omega
theorem fine_uk : ∀ {n : Nat} {t : Sy}, t.fine n → ∀ u ∈ t.uk, 0 ≤ u ∧ u < 41
  | 0, .map _, h => by simp [Sy.fine] at h
  | 0, .node _ _, h => by simp [Sy.fine] at h
  | n, .sum ps _, h => by
    have h : ps.length ≤ 3 ∧ ∀ p ∈ ps, 0 ≤ p.1 ∧ p.1 < 41 := by cases n <;> simpa [Sy.fine] using h
    intro u hu
    rw [Sy.uk] at hu
    obtain ⟨p, hp, rfl⟩ := List.mem_map.mp hu
    exact h.2 p hp
  | n, .name w, h => by simp [Sy.uk]
  | n, .addr _, h => by simp [Sy.uk]
  | n, .unk w, h => by
    have h : 0 ≤ w ∧ w < 41 := by cases n <;> simpa [Sy.fine] using h
    intro u hu
    rw [Sy.uk, List.mem_singleton] at hu
    exact hu ▸ h
  | n + 1, .map es, h => by
    simp only [Sy.fine] at h
    rw [Sy.uk]
    intro u hu
    obtain ⟨e, he, hu⟩ := ukE_mem.mp hu
    exact fine_uk (h.2 e he).2 u hu
  | n + 1, .node c ts, h => by
    simp only [Sy.fine] at h
    rw [Sy.uk]
    intro u hu
    obtain ⟨e, he, hu⟩ := ukS_mem.mp hu
    exact fine_uk (h.2.2 e he) u hu

/-! ### equality -/
mutual
def okD : D → Prop
  | .non => True
  | .bl _ => True
  | .int _ => True
  | .str s => okS s
  | .tup xs => okDs xs
  | _ => False
def okDs : List D → Prop
  | [] => True
  | d :: ds => okD d ∧ okDs ds
end
mutual
def dep : D → Nat
  | .tup xs => deps xs + 1
  | _ => 0
def deps : List D → Nat
  | [] => 0
  | d :: ds => max (dep d) (deps ds)
end
mutual
theorem py0_ok : ∀ {d : D}, okD d → ∃ p, py0 d = some p ∧ p.canLay0 = true ∧ p.depth = dep d
  | .non, _ => ⟨_, rfl, by simp [PyData.canLay0], by simp [PyData.depth, dep]⟩
  | .bl _, _ => ⟨_, rfl, by simp [PyData.canLay0], by simp [PyData.depth, dep]⟩
  | .int _, _ => ⟨_, rfl, by simp [PyData.canLay0], by simp [PyData.depth, dep]⟩
  | .str s, h => ⟨_, rfl, by rw [okD] at h; rw [PyData.canLay0]; exact h, by simp [PyData.depth, dep]⟩
  | .tup xs, h => by
    rw [okD] at h
    obtain ⟨ps, e, h1, h2⟩ := py0s_ok h
    exact ⟨.tuple ps, by rw [py0, e]; rfl, by simpa [PyData.canLay0] using h1, by rw [PyData.depth, dep, h2]⟩
  | .ref _, h => by simp [okD] at h
  | .ty _, h => by simp [okD] at h
theorem py0s_ok : ∀ {ds : List D}, okDs ds → ∃ ps, py0s ds = some ps ∧ PyData.canLayAll0 ps = true ∧ PyData.depthAll ps = deps ds
  | [], _ => ⟨[], rfl, by simp [PyData.canLayAll0], by simp [PyData.depthAll, deps]⟩
  | d :: ds, h => by
    rw [okDs] at h
    obtain ⟨p, e1, h1, h2⟩ := py0_ok h.1
    obtain ⟨ps, e2, h3, h4⟩ := py0s_ok h.2
    exact ⟨p :: ps, by rw [py0s, e1, e2], by rw [PyData.canLayAll0, h1, h3]; rfl, by rw [PyData.depthAll, deps, h2, h4]⟩
end
theorem eqv_same {p : PyData} (h : p.canLay0 = true) : PyData.eqv p p = true := SeqAt.eqv_refl p h
/-- a tuple is what it is -/
theorem rEq_tup {k : Bool} {xs : List D} {G : GP} {Q : DVK} (h1 : okDs xs) (h2 : deps xs < 64) (q : Q (.bl k) G) : rEq k (.tup xs) (.tup xs) G Q := by
  obtain ⟨ps, e, a, b⟩ := py0s_ok h1
  have ep : py G (.tup xs) = some (.tuple ps) := by show py0 (.tup xs) = _; rw [py0, e]; rfl
  have hc : (PyData.tuple ps).canLay0 = true := by simpa [PyData.canLay0] using a
  have hs : SeqAt.shaped (.tuple ps) = true := by
    unfold SeqAt.shaped
    rw [hc, PyData.depth, b]
    exact decide_eq_true (by omega)
  simp only [rEq, ep, hs, eqv_same hc, true_and]
  cases k <;> exact q
/-- so are two lists that hold the same -/
theorem rEq_lst {k : Bool} {a b : Addr} {xs : List D} {G : GP} {Q : DVK} (ha : G a = some (.lst xs)) (hb : G b = some (.lst xs)) (h1 : okDs xs) (h2 : deps xs < 64) (q : Q (.bl k) G) : rEq k (.ref a) (.ref b) G Q := by
  obtain ⟨ps, e, c, d⟩ := py0s_ok h1
  have ea : py G (.ref a) = some (.list ps) := by simp only [py, ha, e]; rfl
  have eb : py G (.ref b) = some (.list ps) := by simp only [py, hb, e]; rfl
  have hc : (PyData.list ps).canLay0 = true := by simpa [PyData.canLay0] using c
  have hs : SeqAt.shaped (.list ps) = true := by
    unfold SeqAt.shaped
    rw [hc, PyData.depth, d]
    exact decide_eq_true (by omega)
  simp only [rEq, ea, eb, hs, eqv_same hc, true_and]
  cases k <;> exact q
theorem okDs_iff : ∀ {xs : List D}, okDs xs ↔ ∀ x ∈ xs, okD x
  | [] => by simp [okDs]
  | x :: xs => by rw [okDs, okDs_iff]; simp
theorem deps_le {n : Nat} : ∀ {xs : List D}, (∀ x ∈ xs, dep x ≤ n) → deps xs ≤ n
  | [], _ => by simp [deps]
  | x :: xs, h => by
    rw [deps]
    have := h x List.mem_cons_self
    have := deps_le (xs := xs) fun y hy => h y (List.mem_cons_of_mem _ hy)
    omega
theorem okD_psD {ps : List (Int × Int)} : okDs (psD ps) ∧ deps (psD ps) ≤ 1 := by
  refine ⟨okDs_iff.mpr fun x hx => ?_, deps_le fun x hx => ?_⟩ <;> (obtain ⟨p, hp, rfl⟩ := List.mem_map.mp hx)
  · simp [okD, okDs]
  · simp [dep, deps]
theorem fine_ok : ∀ {n : Nat} {s : Sy}, s.fine n → okD s.toD ∧ dep s.toD ≤ 3 + 3 * n
  | 0, .map _, h => by simp [Sy.fine] at h
  | 0, .node _ _, h => by simp [Sy.fine] at h
  | n, .sum ps _, h => by
    have := okD_psD (ps := ps)
    rw [Sy.toD]
    refine ⟨by simp only [okD, okDs]; exact ⟨okS_of _, this.1, trivial, trivial⟩, by simp only [dep, deps]; omega⟩
  | n, .name w, h => by
    have h : okS w := by cases n <;> simpa [Sy.fine] using h
    rw [Sy.toD]
    exact ⟨by simp only [okD, okDs]; exact ⟨okS_of _, h, trivial⟩, by simp only [dep, deps]; omega⟩
  | n, .addr _, h => by
    rw [Sy.toD]
    exact ⟨by simp only [okD, okDs]; exact ⟨okS_of _, trivial, trivial⟩, by simp only [dep, deps]; omega⟩
  | n, .unk w, h => by
    rw [Sy.toD]
    exact ⟨by simp only [okD, okDs]; exact ⟨okS_of _, trivial, trivial⟩, by simp only [dep, deps]; omega⟩
  | n + 1, .map es, h => by
    simp only [Sy.fine] at h
    rw [Sy.toD, sE_map]
    have h1 : okDs (es.map fun p : Str × Sy => .tup [.tup [.str "name", .str p.1], p.2.toD]) := okDs_iff.mpr fun x hx => by
      obtain ⟨e, he, rfl⟩ := List.mem_map.mp hx
      simp only [okD, okDs]
      exact ⟨⟨okS_of _, (h.2 e he).1, trivial⟩, (fine_ok (h.2 e he).2).1, trivial⟩
    have h2 : deps (es.map fun p : Str × Sy => .tup [.tup [.str "name", .str p.1], p.2.toD]) ≤ 3 + 3 * n + 1 := deps_le fun x hx => by
      obtain ⟨e, he, rfl⟩ := List.mem_map.mp hx
      simp only [dep, deps]
      have := (fine_ok (h.2 e he).2).2
      omega
    refine ⟨by simp only [okD, okDs]; exact ⟨okS_of _, trivial, h1, trivial⟩, by simp only [dep, deps]; omega⟩
  | n + 1, .node c ts, h => by
    simp only [Sy.fine] at h
    rw [Sy.toD, sD_map]
    have h1 : okDs (ts.map Sy.toD) := okDs_iff.mpr fun x hx => by
      obtain ⟨e, he, rfl⟩ := List.mem_map.mp hx
      exact (fine_ok (h.2.2 e he)).1
    have h2 : deps (ts.map Sy.toD) ≤ 3 + 3 * n := deps_le fun x hx => by
      obtain ⟨e, he, rfl⟩ := List.mem_map.mp hx
      exact (fine_ok (h.2.2 e he)).2
    refine ⟨by simp only [okD, okDs]; exact ⟨okS_of _, h.1, h1, trivial⟩, by simp only [dep, deps]; omega⟩
end Dn.My

namespace Dn.My
open PySem PySem.Spec PyProof.Rows L2 Dn

theorem lcL_rule {sb : GP → Prop} {ct : CT} {tt : DTT} {te : DTE} {σ : DS} {Q : List D → GP → Prop} {I : List D → List D → GP → Prop}
    (turn : ∀ (x : D) (xs acc : List D) (G : GP) (k : List D → GP → Prop), I (x :: xs) acc G → (∀ acc' G', I xs acc' G' → k acc' G') → sb G ∧ ∃ σ2, ct.put x σ = some σ2 ∧ tt σ2 G fun b G3 => if b = true then te σ2 G3 fun y G4 => acc.length < sizeLine ∧ k (acc ++ [y]) G4 else k acc G3)
    (fin : ∀ acc G, I [] acc G → sb G ∧ Q acc G) : ∀ (xs acc : List D) (G : GP), I xs acc G → lcL sb ct tt te σ Q xs acc G
  | [], acc, G, h => fin acc G h
  | x :: xs, acc, G, h => by
    obtain ⟨hs, σ2, e, t⟩ := turn x xs acc G (lcL sb ct tt te σ Q xs) h fun acc' G' h' => lcL_rule turn fin xs acc' G' h'
    refine ⟨hs, ?_⟩
    rw [e]
    exact t
theorem Exb.refl {p : Addr} {G : GP} : Exb p G G := fun _ _ _ h => h
theorem Exb.trans {p : Addr} {G G' G'' : GP} (h : Exb p G G') (h' : Exb p G' G'') : Exb p G G'' := fun a o n e => h' a o n (h a o n e)
theorem But.exb {p : Addr} {G G' : GP} (h : But p G G') : Exb p G G' := fun a o n e => (h a n).trans e
theorem Ext.exb {p : Addr} {G G' : GP} (h : Ext G G') : Exb p G G' := fun a o _ e => h a o e
theorem PoolR.ext {G G' : GP} {p c : Addr} {r : Int} (h : PoolR G p c r) (e : Ext G G') : PoolR G' p c r := let ⟨cs, i, s, h1, h2, h3⟩ := h; ⟨cs, i, s, e _ _ h1, e _ _ h2, h3⟩
theorem PoolAt.ext {G G' : GP} {p c : Addr} (h : PoolAt G p c) (e : Ext G G') : PoolAt G' p c := let ⟨r, h⟩ := h; ⟨r, h.ext e⟩
theorem PoolAt.nep {G : GP} {p c a : Addr} (h : PoolAt G p c) (ha : G a = none) : p ≠ a ∧ c ≠ a := let ⟨_, _, _, _, h1, h2, _⟩ := h; ⟨ne_none h1 ha, ne_none h2 ha⟩
theorem PoolAt.put {G : GP} {p c a : Addr} {o : DO} (h : PoolAt G p c) (n : p ≠ a ∧ c ≠ a) : PoolAt (gup G a o) p c := let ⟨r, cs, i, s, h1, h2, h3⟩ := h; ⟨r, cs, i, s, (gup_ne n.1).trans h1, (gup_ne n.2).trans h2, h3⟩
/-- what is drawn: the pool goes on, all else stands -/
def Dr (p c : Addr) (G G' : GP) : Prop := PoolAt G' p c ∧ Exb p G G'
theorem Dr.trans {p c : Addr} {G G' G'' : GP} (h : Dr p c G G') (h' : Dr p c G' G'') : Dr p c G G'' := ⟨h'.1, h.2.trans h'.2⟩
theorem Dr.ext {p c : Addr} {G G' G'' : GP} (h : Dr p c G G') (h' : Ext G' G'') : Dr p c G G'' := ⟨h.1.ext h', h.2.trans h'.exb⟩
theorem Dr.of {p c : Addr} {G G' : GP} (h : PoolAt G p c) (h' : Ext G G') : Dr p c G G' := ⟨h.ext h', h'.exb⟩
/-- a thing of one's own beside the pool is changed -/
theorem Dr.put {p c a : Addr} {G G' : GP} {o : DO} (h : Dr p c G G') (h0 : PoolAt G p c) (ha : G a = none) : Dr p c G (gup G' a o) :=
  ⟨h.1.put (h0.nep ha), fun b u hb e => (gup_ne (ne_none e ha)).trans (h.2 b u hb e)⟩
theorem take_i {p c : Addr} {G : GP} {m : Int} {k : DVK} (h : PoolAt G p c) (h1 : 0 < m) (h2 : m < 1073741824) (q : ∀ v G', 0 ≤ v → v < m → Dr p c G G' → k (.int v) G') : sp_take [.ref p, .int m] G k :=
  ⟨p, c, m, rfl, h, h1, h2, fun v G' a b c d => q v G' a b ⟨c, d.exb⟩⟩

/-! ### the pool is laid -/
def sp__law_pool (K : PySem.W.Frag) : DSp := fun ds G Q => ∃ (sc : Addr) (xs : List Int), ds = [.ref sc] ∧ (LstAt G sc (xs.map D.int) ∨ KLst K sc xs) ∧ xs.length ≤ 63 ∧ ∀ p c G', PoolAt G' p c → Ext G G' → Q (.ref p) G'
theorem sem__law_pool {K : PySem.W.Frag} {E : DEnds} {G0 : GP} {sc : Addr} {xs : List Int} (hs : LstAt G0 sc (xs.map D.int) ∨ KLst K sc xs) (hl : xs.length ≤ 63) (q : ∀ p c G', PoolAt G' p c → Ext G0 G' → E.rt (.ref p) G') :
    rd__law_pool K E (dstart n__law_pool [.ref sc]) G0 := by
  show rd__law_pool K E [some (.ref sc), none] G0
  unfold rd__law_pool
  refine sRet_i ?_
  have go : ∀ sb : GP → Prop, sb G0 → lcL sb (.one 1) bYes (eIf (eTest (eOp (rInt (fun _ _ => True) fun i j => .bl (decide (j ≤ i))) (eVar 1) (eC (.int 0)))) (eOp (rInt CMul fun i j => .int (i * j)) (eC (.int 2)) (eVar 1)) (eOp (rInt (fun _ _ => True) fun i j => .int (i - j)) (eOp (rInt CMul fun i j => .int (i * j)) (eUn rNeg (eC (.int 2))) (eVar 1)) (eC (.int 1)))) (dwipe [some (.ref sc), none] [1])
      (fun ys G2 => ∀ p, G2 p = none → 4 ≤ sizeLine ∧ ∀ p_1, (if p_1 = p then some (.lst ys) else G2 p_1) = none → E.rt (.ref p_1) (gup (gup G2 p (.lst ys)) p_1 (.lst [.ref p, .int 0, .int 0, .int 17]))) (xs.map D.int) [] G0 := by
    intro sb hsb
    refine lcL_pure (f := fun d => match d with | .int i => .int (if 0 ≤ i then 2 * i else -2 * i - 1) | _ => .non) (fun x hx => ?_) hsb (by have := sizeLine_eq; simp; omega) ?_
    · obtain ⟨i, hi, rfl⟩ := List.mem_map.mp hx
      refine ⟨_, rfl, fun k hk => ?_⟩
      simp only [eOp, eUn, eVar, eC, eTest, eTru, rTru, eCa, aNil, aCons, eTup, eLst, rInt, rIxd, rAdd, rIntOf, rStrOf, rLen, rTupOf, rLstOf, rEq, rIsN, rNeg, rMin, rMax, eIf, bAnd, bOr, bNot, bYes, eMtL, eMtL0, rAppend, rPop, rExtend, rInsert, rReverse, rClear, eGet1, eGet2, rGet, isDic, gNm, gsNil, gsCons, gTp, gSb, rSet, eSl, rSl, oNone, oSome, iAny, iRg1, iRg2, eLc, eDc, dwipe, CT.put, setMany, sNext, sBreak, sCont, sRetN, sNever, keyD, kD, List.getElem?_cons_zero, List.getElem?_cons_succ, List.set_cons_zero, List.set_cons_succ, List.length_cons, List.length_nil, List.cons_append, List.nil_append, atI_0, atI_1, atI_2, atI_3, atI_4, ixN_0, ixN_1, ixN_2, ixN_3, ofString_inj, String.reduceEq, decide_true, decide_false, decide_not, beq_self_eq_true, Bool.not_true, Bool.not_false, Bool.false_eq_true, Bool.true_eq_false, if_true, if_false, ite_true, ite_false, beq_t, beq_f, true_and, and_true, not_true_eq_false, not_false_eq_true, forall_const, gup_get, eq_self, reduceCtorEq, reduceIte, dwipe]
      by_cases h : 0 ≤ i
      · rw [decide_eq_true h]
        simp only [eOp, eUn, eVar, eC, eTest, eTru, rTru, eCa, aNil, aCons, eTup, eLst, rInt, rIxd, rAdd, rIntOf, rStrOf, rLen, rTupOf, rLstOf, rEq, rIsN, rNeg, rMin, rMax, eIf, bAnd, bOr, bNot, bYes, eMtL, eMtL0, rAppend, rPop, rExtend, rInsert, rReverse, rClear, eGet1, eGet2, rGet, isDic, gNm, gsNil, gsCons, gTp, gSb, rSet, eSl, rSl, oNone, oSome, iAny, iRg1, iRg2, eLc, eDc, dwipe, CT.put, setMany, sNext, sBreak, sCont, sRetN, sNever, keyD, kD, List.getElem?_cons_zero, List.getElem?_cons_succ, List.set_cons_zero, List.set_cons_succ, List.length_cons, List.length_nil, List.cons_append, List.nil_append, atI_0, atI_1, atI_2, atI_3, atI_4, ixN_0, ixN_1, ixN_2, ixN_3, ofString_inj, String.reduceEq, decide_true, decide_false, decide_not, beq_self_eq_true, Bool.not_true, Bool.not_false, Bool.false_eq_true, Bool.true_eq_false, if_true, if_false, ite_true, ite_false, beq_t, beq_f, true_and, and_true, not_true_eq_false, not_false_eq_true, forall_const, gup_get, eq_self, reduceCtorEq, reduceIte]
        refine ⟨.inl (by decide), ?_⟩
        simpa [h] using hk
      · rw [decide_eq_false h]
        simp only [eOp, eUn, eVar, eC, eTest, eTru, rTru, eCa, aNil, aCons, eTup, eLst, rInt, rIxd, rAdd, rIntOf, rStrOf, rLen, rTupOf, rLstOf, rEq, rIsN, rNeg, rMin, rMax, eIf, bAnd, bOr, bNot, bYes, eMtL, eMtL0, rAppend, rPop, rExtend, rInsert, rReverse, rClear, eGet1, eGet2, rGet, isDic, gNm, gsNil, gsCons, gTp, gSb, rSet, eSl, rSl, oNone, oSome, iAny, iRg1, iRg2, eLc, eDc, dwipe, CT.put, setMany, sNext, sBreak, sCont, sRetN, sNever, keyD, kD, List.getElem?_cons_zero, List.getElem?_cons_succ, List.set_cons_zero, List.set_cons_succ, List.length_cons, List.length_nil, List.cons_append, List.nil_append, atI_0, atI_1, atI_2, atI_3, atI_4, ixN_0, ixN_1, ixN_2, ixN_3, ofString_inj, String.reduceEq, decide_true, decide_false, decide_not, beq_self_eq_true, Bool.not_true, Bool.not_false, Bool.false_eq_true, Bool.true_eq_false, if_true, if_false, ite_true, ite_false, beq_t, beq_f, true_and, and_true, not_true_eq_false, not_false_eq_true, forall_const, gup_get, eq_self, reduceCtorEq, reduceIte]
        refine ⟨.inl (by decide), ?_⟩
        simpa [h] using hk
    · intro c hc
      refine ⟨by decide, fun p hp => ?_⟩
      have hp : gup G0 c (.lst ([] ++ (xs.map D.int).map fun d => match d with | .int i => .int (if 0 ≤ i then 2 * i else -2 * i - 1) | _ => .non)) p = none := hp
      have ncp : c ≠ p := ne_none gup_same hp
      refine q p c _ ⟨0, xs.map fun i => if 0 ≤ i then 2 * i else -2 * i - 1, 0, 17, gup_same, ?_, ncp, ?_, by decide, by decide, by decide, by decide⟩ ((Ext.new hc).trans (Ext.new hp))
      · rw [gup_ne ncp, gup_same, List.nil_append, List.map_map, List.map_map]
        rfl
      · intro x hx
        obtain ⟨i, hi, rfl⟩ := List.mem_map.mp hx
        split <;> omega
  simp only [eOp, eUn, eVar, eC, eTest, eTru, rTru, eCa, aNil, aCons, eTup, eLst, rInt, rIxd, rAdd, rIntOf, rStrOf, rLen, rTupOf, rLstOf, rEq, rIsN, rNeg, rMin, rMax, eIf, bAnd, bOr, bNot, bYes, eMtL, eMtL0, rAppend, rPop, rExtend, rInsert, rReverse, rClear, eGet1, eGet2, rGet, isDic, gNm, gsNil, gsCons, gTp, gSb, rSet, eSl, rSl, oNone, oSome, iAny, iRg1, iRg2, eLc, eDc, dwipe, CT.put, setMany, sNext, sBreak, sCont, sRetN, sNever, keyD, kD, List.getElem?_cons_zero, List.getElem?_cons_succ, List.set_cons_zero, List.set_cons_succ, List.length_cons, List.length_nil, List.cons_append, List.nil_append, atI_0, atI_1, atI_2, atI_3, atI_4, ixN_0, ixN_1, ixN_2, ixN_3, ofString_inj, String.reduceEq, decide_true, decide_false, decide_not, beq_self_eq_true, Bool.not_true, Bool.not_false, Bool.false_eq_true, Bool.true_eq_false, if_true, if_false, ite_true, ite_false, beq_t, beq_f, true_and, and_true, not_true_eq_false, not_false_eq_true, forall_const, gup_get, eq_self, reduceCtorEq, reduceIte, iScr]
  rcases hs with h | h
  · exact ⟨xs, .inl ⟨h, go _ h⟩⟩
  · exact ⟨xs, .inr ⟨h, go _ trivial⟩⟩

/-! ### whole numbers -/
def sp__law_whole : DSp := fun ds G Q => ∃ p c, ds = [.ref p] ∧ PoolAt G p c ∧ ∀ (n : Int) G', Dr p c G G' → Q (.int n) G'
theorem sem__law_whole {E : DEnds} {G0 : GP} {p c : Addr} (h : PoolAt G0 p c) (q : ∀ (n : Int) G', Dr p c G0 G' → E.rt (.int n) G') :
    rd__law_whole sp_take E (dstart n__law_whole [.ref p]) G0 := by
  show rd__law_whole sp_take E [some (.ref p)] G0
  unfold rd__law_whole
  refine qWhen_i fun k kt kf => ?_
  simp only [eOp, eUn, eVar, eC, eTest, eTru, rTru, eCa, aNil, aCons, eTup, eLst, rInt, rIxd, rAdd, rIntOf, rStrOf, rLen, rTupOf, rLstOf, rEq, rIsN, rNeg, rMin, rMax, eIf, bAnd, bOr, bNot, bYes, eMtL, eMtL0, rAppend, rPop, rExtend, rInsert, rReverse, rClear, eGet1, eGet2, rGet, isDic, gNm, gsNil, gsCons, gTp, gSb, rSet, eSl, rSl, oNone, oSome, iAny, iRg1, iRg2, eLc, eDc, dwipe, CT.put, setMany, sNext, sBreak, sCont, sRetN, sNever, keyD, kD, List.getElem?_cons_zero, List.getElem?_cons_succ, List.set_cons_zero, List.set_cons_succ, List.length_cons, List.length_nil, List.cons_append, List.nil_append, atI_0, atI_1, atI_2, atI_3, atI_4, ixN_0, ixN_1, ixN_2, ixN_3, ofString_inj, String.reduceEq, decide_true, decide_false, decide_not, beq_self_eq_true, Bool.not_true, Bool.not_false, Bool.false_eq_true, Bool.true_eq_false, if_true, if_false, ite_true, ite_false, beq_t, beq_f, true_and, and_true, not_true_eq_false, not_false_eq_true, forall_const, gup_get, eq_self, reduceCtorEq, reduceIte]
  refine take_i h (by decide) (by decide) fun v G1 _ _ d1 => ?_
  simp only [eOp, eUn, eVar, eC, eTest, eTru, rTru, eCa, aNil, aCons, eTup, eLst, rInt, rIxd, rAdd, rIntOf, rStrOf, rLen, rTupOf, rLstOf, rEq, rIsN, rNeg, rMin, rMax, eIf, bAnd, bOr, bNot, bYes, eMtL, eMtL0, rAppend, rPop, rExtend, rInsert, rReverse, rClear, eGet1, eGet2, rGet, isDic, gNm, gsNil, gsCons, gTp, gSb, rSet, eSl, rSl, oNone, oSome, iAny, iRg1, iRg2, eLc, eDc, dwipe, CT.put, setMany, sNext, sBreak, sCont, sRetN, sNever, keyD, kD, List.getElem?_cons_zero, List.getElem?_cons_succ, List.set_cons_zero, List.set_cons_succ, List.length_cons, List.length_nil, List.cons_append, List.nil_append, atI_0, atI_1, atI_2, atI_3, atI_4, ixN_0, ixN_1, ixN_2, ixN_3, ofString_inj, String.reduceEq, decide_true, decide_false, decide_not, beq_self_eq_true, Bool.not_true, Bool.not_false, Bool.false_eq_true, Bool.true_eq_false, if_true, if_false, ite_true, ite_false, beq_t, beq_f, true_and, and_true, not_true_eq_false, not_false_eq_true, forall_const, gup_get, eq_self, reduceCtorEq, reduceIte]
  refine k_dec (fun _ => kt _ ?_) (fun _ => kf _ ?_)
  · refine sRet_i ?_
    simp only [eOp, eUn, eVar, eC, eTest, eTru, rTru, eCa, aNil, aCons, eTup, eLst, rInt, rIxd, rAdd, rIntOf, rStrOf, rLen, rTupOf, rLstOf, rEq, rIsN, rNeg, rMin, rMax, eIf, bAnd, bOr, bNot, bYes, eMtL, eMtL0, rAppend, rPop, rExtend, rInsert, rReverse, rClear, eGet1, eGet2, rGet, isDic, gNm, gsNil, gsCons, gTp, gSb, rSet, eSl, rSl, oNone, oSome, iAny, iRg1, iRg2, eLc, eDc, dwipe, CT.put, setMany, sNext, sBreak, sCont, sRetN, sNever, keyD, kD, List.getElem?_cons_zero, List.getElem?_cons_succ, List.set_cons_zero, List.set_cons_succ, List.length_cons, List.length_nil, List.cons_append, List.nil_append, atI_0, atI_1, atI_2, atI_3, atI_4, ixN_0, ixN_1, ixN_2, ixN_3, ofString_inj, String.reduceEq, decide_true, decide_false, decide_not, beq_self_eq_true, Bool.not_true, Bool.not_false, Bool.false_eq_true, Bool.true_eq_false, if_true, if_false, ite_true, ite_false, beq_t, beq_f, true_and, and_true, not_true_eq_false, not_false_eq_true, forall_const, gup_get, eq_self, reduceCtorEq, reduceIte]
    refine take_i d1.1 (by decide) (by decide) fun v G2 _ _ d2 => ?_
    simp only [eOp, eUn, eVar, eC, eTest, eTru, rTru, eCa, aNil, aCons, eTup, eLst, rInt, rIxd, rAdd, rIntOf, rStrOf, rLen, rTupOf, rLstOf, rEq, rIsN, rNeg, rMin, rMax, eIf, bAnd, bOr, bNot, bYes, eMtL, eMtL0, rAppend, rPop, rExtend, rInsert, rReverse, rClear, eGet1, eGet2, rGet, isDic, gNm, gsNil, gsCons, gTp, gSb, rSet, eSl, rSl, oNone, oSome, iAny, iRg1, iRg2, eLc, eDc, dwipe, CT.put, setMany, sNext, sBreak, sCont, sRetN, sNever, keyD, kD, List.getElem?_cons_zero, List.getElem?_cons_succ, List.set_cons_zero, List.set_cons_succ, List.length_cons, List.length_nil, List.cons_append, List.nil_append, atI_0, atI_1, atI_2, atI_3, atI_4, ixN_0, ixN_1, ixN_2, ixN_3, ofString_inj, String.reduceEq, decide_true, decide_false, decide_not, beq_self_eq_true, Bool.not_true, Bool.not_false, Bool.false_eq_true, Bool.true_eq_false, if_true, if_false, ite_true, ite_false, beq_t, beq_f, true_and, and_true, not_true_eq_false, not_false_eq_true, forall_const, gup_get, eq_self, reduceCtorEq, reduceIte]
    exact q _ _ (d1.trans d2)
  · refine sRet_i ?_
    simp only [eOp, eUn, eVar, eC, eTest, eTru, rTru, eCa, aNil, aCons, eTup, eLst, rInt, rIxd, rAdd, rIntOf, rStrOf, rLen, rTupOf, rLstOf, rEq, rIsN, rNeg, rMin, rMax, eIf, bAnd, bOr, bNot, bYes, eMtL, eMtL0, rAppend, rPop, rExtend, rInsert, rReverse, rClear, eGet1, eGet2, rGet, isDic, gNm, gsNil, gsCons, gTp, gSb, rSet, eSl, rSl, oNone, oSome, iAny, iRg1, iRg2, eLc, eDc, dwipe, CT.put, setMany, sNext, sBreak, sCont, sRetN, sNever, keyD, kD, List.getElem?_cons_zero, List.getElem?_cons_succ, List.set_cons_zero, List.set_cons_succ, List.length_cons, List.length_nil, List.cons_append, List.nil_append, atI_0, atI_1, atI_2, atI_3, atI_4, ixN_0, ixN_1, ixN_2, ixN_3, ofString_inj, String.reduceEq, decide_true, decide_false, decide_not, beq_self_eq_true, Bool.not_true, Bool.not_false, Bool.false_eq_true, Bool.true_eq_false, if_true, if_false, ite_true, ite_false, beq_t, beq_f, true_and, and_true, not_true_eq_false, not_false_eq_true, forall_const, gup_get, eq_self, reduceCtorEq, reduceIte]
    refine take_i d1.1 (by decide) (by decide) fun v G2 _ _ d2 => ?_
    simp only [eOp, eUn, eVar, eC, eTest, eTru, rTru, eCa, aNil, aCons, eTup, eLst, rInt, rIxd, rAdd, rIntOf, rStrOf, rLen, rTupOf, rLstOf, rEq, rIsN, rNeg, rMin, rMax, eIf, bAnd, bOr, bNot, bYes, eMtL, eMtL0, rAppend, rPop, rExtend, rInsert, rReverse, rClear, eGet1, eGet2, rGet, isDic, gNm, gsNil, gsCons, gTp, gSb, rSet, eSl, rSl, oNone, oSome, iAny, iRg1, iRg2, eLc, eDc, dwipe, CT.put, setMany, sNext, sBreak, sCont, sRetN, sNever, keyD, kD, List.getElem?_cons_zero, List.getElem?_cons_succ, List.set_cons_zero, List.set_cons_succ, List.length_cons, List.length_nil, List.cons_append, List.nil_append, atI_0, atI_1, atI_2, atI_3, atI_4, ixN_0, ixN_1, ixN_2, ixN_3, ofString_inj, String.reduceEq, decide_true, decide_false, decide_not, beq_self_eq_true, Bool.not_true, Bool.not_false, Bool.false_eq_true, Bool.true_eq_false, if_true, if_false, ite_true, ite_false, beq_t, beq_f, true_and, and_true, not_true_eq_false, not_false_eq_true, forall_const, gup_get, eq_self, reduceCtorEq, reduceIte]
    exact q _ _ (d1.trans d2)
end Dn.My

namespace Dn.My
open PySem PySem.Spec PyProof.Rows L2 Dn

theorem mem_rngDs {x : D} {n : Nat} (h : x ∈ rngDs 0 n) : ∃ j : Nat, j < n ∧ x = .int j := by
  unfold rngDs at h
  obtain ⟨j, hj, rfl⟩ := List.mem_map.mp h
  exact ⟨j, List.mem_range.mp hj, by rw [Int.zero_add]⟩
theorem len_rngDs {n : Nat} : (rngDs 0 n).length = n := by simp [rngDs]
def sp__law_sum : DSp := fun ds G Q => ∃ p c, ds = [.ref p] ∧ PoolAt G p c ∧ ∀ (ps : List (Int × Int)) (n : Int) G', ps.length ≤ 3 → (∀ q ∈ ps, 0 ≤ q.1 ∧ q.1 < 41) → Dr p c G G' → Q (Sy.sum ps n).toD G'
theorem sem__law_sum {E : DEnds} {G0 : GP} {p c : Addr} (h : PoolAt G0 p c) (q : ∀ (ps : List (Int × Int)) (n : Int) G', ps.length ≤ 3 → (∀ q ∈ ps, 0 ≤ q.1 ∧ q.1 < 41) → Dr p c G0 G' → E.rt (Sy.sum ps n).toD G') :
    rd__law_sum sp_take sp__law_whole E (dstart n__law_sum [.ref p]) G0 := by
  show rd__law_sum sp_take sp__law_whole E [some (.ref p), none, none, none] G0
  unfold rd__law_sum
  have hsz := sizeLine_eq
  refine qSet_i fun k kn => ?_
  simp only [eOp, eUn, eVar, eC, eTest, eTru, rTru, eCa, aNil, aCons, eTup, eLst, rInt, rIxd, rAdd, rIntOf, rStrOf, rLen, rTupOf, rLstOf, rEq, rIsN, rNeg, rMin, rMax, eIf, bAnd, bOr, bNot, bYes, eMtL, eMtL0, rAppend, rPop, rExtend, rInsert, rReverse, rClear, eGet1, eGet2, rGet, isDic, gNm, gsNil, gsCons, gTp, gSb, rSet, eSl, rSl, oNone, oSome, iAny, iRg1, iRg2, eLc, eDc, dwipe, CT.put, setMany, sNext, sBreak, sCont, sRetN, sNever, keyD, kD, List.getElem?_cons_zero, List.getElem?_cons_succ, List.set_cons_zero, List.set_cons_succ, List.length_cons, List.length_nil, List.cons_append, List.nil_append, atI_0, atI_1, atI_2, atI_3, atI_4, ixN_0, ixN_1, ixN_2, ixN_3, ofString_inj, String.reduceEq, decide_true, decide_false, decide_not, beq_self_eq_true, Bool.not_true, Bool.not_false, Bool.false_eq_true, Bool.true_eq_false, if_true, if_false, ite_true, ite_false, beq_t, beq_f, true_and, and_true, not_true_eq_false, not_false_eq_true, forall_const, gup_get, eq_self, reduceCtorEq, reduceIte]
  refine ⟨Nat.zero_le _, fun a ha => kn _ _ ?_⟩
  try dsimp only [List.set_cons_zero, List.set_cons_succ]
  refine qFor_i fun k kn => ?_
  simp only [eOp, eUn, eVar, eC, eTest, eTru, rTru, eCa, aNil, aCons, eTup, eLst, rInt, rIxd, rAdd, rIntOf, rStrOf, rLen, rTupOf, rLstOf, rEq, rIsN, rNeg, rMin, rMax, eIf, bAnd, bOr, bNot, bYes, eMtL, eMtL0, rAppend, rPop, rExtend, rInsert, rReverse, rClear, eGet1, eGet2, rGet, isDic, gNm, gsNil, gsCons, gTp, gSb, rSet, eSl, rSl, oNone, oSome, iAny, iRg1, iRg2, eLc, eDc, dwipe, CT.put, setMany, sNext, sBreak, sCont, sRetN, sNever, keyD, kD, List.getElem?_cons_zero, List.getElem?_cons_succ, List.set_cons_zero, List.set_cons_succ, List.length_cons, List.length_nil, List.cons_append, List.nil_append, atI_0, atI_1, atI_2, atI_3, atI_4, ixN_0, ixN_1, ixN_2, ixN_3, ofString_inj, String.reduceEq, decide_true, decide_false, decide_not, beq_self_eq_true, Bool.not_true, Bool.not_false, Bool.false_eq_true, Bool.true_eq_false, if_true, if_false, ite_true, ite_false, beq_t, beq_f, true_and, and_true, not_true_eq_false, not_false_eq_true, forall_const, gup_get, eq_self, reduceCtorEq, reduceIte]
  refine take_i (h.ext (Ext.new ha)) (by decide) (by decide) fun v G1 v0 v1 d1 => ?_
  simp only [eOp, eUn, eVar, eC, eTest, eTru, rTru, eCa, aNil, aCons, eTup, eLst, rInt, rIxd, rAdd, rIntOf, rStrOf, rLen, rTupOf, rLstOf, rEq, rIsN, rNeg, rMin, rMax, eIf, bAnd, bOr, bNot, bYes, eMtL, eMtL0, rAppend, rPop, rExtend, rInsert, rReverse, rClear, eGet1, eGet2, rGet, isDic, gNm, gsNil, gsCons, gTp, gSb, rSet, eSl, rSl, oNone, oSome, iAny, iRg1, iRg2, eLc, eDc, dwipe, CT.put, setMany, sNext, sBreak, sCont, sRetN, sNever, keyD, kD, List.getElem?_cons_zero, List.getElem?_cons_succ, List.set_cons_zero, List.set_cons_succ, List.length_cons, List.length_nil, List.cons_append, List.nil_append, atI_0, atI_1, atI_2, atI_3, atI_4, ixN_0, ixN_1, ixN_2, ixN_3, ofString_inj, String.reduceEq, decide_true, decide_false, decide_not, beq_self_eq_true, Bool.not_true, Bool.not_false, Bool.false_eq_true, Bool.true_eq_false, if_true, if_false, ite_true, ite_false, beq_t, beq_f, true_and, and_true, not_true_eq_false, not_false_eq_true, forall_const, gup_get, eq_self, reduceCtorEq, reduceIte]
  refine ⟨⟨by omega, by omega⟩, kn _ _ _ ?_⟩
  have hda : Dr p c G0 G1 := (Dr.of h (Ext.new ha)).trans d1
  refine forL_rule (I := fun xs σ G => ∃ (ps : List (Int × Int)) (x2 x3 : Option D), σ = [some (.ref p), some (.ref a), x2, x3] ∧ (∀ x ∈ xs, ∃ j : Nat, j < 3 ∧ x = .int j) ∧ ps.length + xs.length ≤ 3 ∧ (∀ q ∈ ps, 0 ≤ q.1 ∧ q.1 < 41) ∧ G a = some (.lst (psD ps)) ∧ Dr p c G0 G) ?_ ?_ _ _ _ ⟨[], _, _, rfl, fun x hx => ?_, by rw [len_rngDs]; simp; omega, by simp, d1.2 _ _ (fun e => (h.nep ha).1 e.symm) gup_same, hda⟩
  · rintro x xs σ G k ⟨ps, x2, x3, rfl, hx, hl, hq, hG, hd⟩ kk
    refine ⟨trivial, ?_⟩
    obtain ⟨j, hj, rfl⟩ := hx x List.mem_cons_self
    simp only [List.length_cons] at hl
    show sSeq _ _ _ ([some (.ref p), some (.ref a), some (.int j), x3]) G
    refine qSet_i fun k kn => ?_
    simp only [eOp, eUn, eVar, eC, eTest, eTru, rTru, eCa, aNil, aCons, eTup, eLst, rInt, rIxd, rAdd, rIntOf, rStrOf, rLen, rTupOf, rLstOf, rEq, rIsN, rNeg, rMin, rMax, eIf, bAnd, bOr, bNot, bYes, eMtL, eMtL0, rAppend, rPop, rExtend, rInsert, rReverse, rClear, eGet1, eGet2, rGet, isDic, gNm, gsNil, gsCons, gTp, gSb, rSet, eSl, rSl, oNone, oSome, iAny, iRg1, iRg2, eLc, eDc, dwipe, CT.put, setMany, sNext, sBreak, sCont, sRetN, sNever, keyD, kD, List.getElem?_cons_zero, List.getElem?_cons_succ, List.set_cons_zero, List.set_cons_succ, List.length_cons, List.length_nil, List.cons_append, List.nil_append, atI_0, atI_1, atI_2, atI_3, atI_4, ixN_0, ixN_1, ixN_2, ixN_3, ofString_inj, String.reduceEq, decide_true, decide_false, decide_not, beq_self_eq_true, Bool.not_true, Bool.not_false, Bool.false_eq_true, Bool.true_eq_false, if_true, if_false, ite_true, ite_false, beq_t, beq_f, true_and, and_true, not_true_eq_false, not_false_eq_true, forall_const, gup_get, eq_self, reduceCtorEq, reduceIte]
    refine take_i hd.1 (by decide) (by decide) fun v G1 v0 v1 d1 => ?_
    simp only [eOp, eUn, eVar, eC, eTest, eTru, rTru, eCa, aNil, aCons, eTup, eLst, rInt, rIxd, rAdd, rIntOf, rStrOf, rLen, rTupOf, rLstOf, rEq, rIsN, rNeg, rMin, rMax, eIf, bAnd, bOr, bNot, bYes, eMtL, eMtL0, rAppend, rPop, rExtend, rInsert, rReverse, rClear, eGet1, eGet2, rGet, isDic, gNm, gsNil, gsCons, gTp, gSb, rSet, eSl, rSl, oNone, oSome, iAny, iRg1, iRg2, eLc, eDc, dwipe, CT.put, setMany, sNext, sBreak, sCont, sRetN, sNever, keyD, kD, List.getElem?_cons_zero, List.getElem?_cons_succ, List.set_cons_zero, List.set_cons_succ, List.length_cons, List.length_nil, List.cons_append, List.nil_append, atI_0, atI_1, atI_2, atI_3, atI_4, ixN_0, ixN_1, ixN_2, ixN_3, ofString_inj, String.reduceEq, decide_true, decide_false, decide_not, beq_self_eq_true, Bool.not_true, Bool.not_false, Bool.false_eq_true, Bool.true_eq_false, if_true, if_false, ite_true, ite_false, beq_t, beq_f, true_and, and_true, not_true_eq_false, not_false_eq_true, forall_const, gup_get, eq_self, reduceCtorEq, reduceIte]
    refine kn _ _ ?_
    try dsimp only [List.set_cons_zero, List.set_cons_succ]
    have hG1 : G1 a = some (.lst (psD ps)) := d1.2 _ _ (fun e => (h.nep ha).1 e.symm) hG
    have hx' : ∀ x ∈ xs, ∃ j : Nat, j < 3 ∧ x = .int j := fun y hy => hx y (List.mem_cons_of_mem _ hy)
    refine sIf_i fun k kt kf => ?_
    simp only [eOp, eUn, eVar, eC, eTest, eTru, rTru, eCa, aNil, aCons, eTup, eLst, rInt, rIxd, rAdd, rIntOf, rStrOf, rLen, rTupOf, rLstOf, rEq, rIsN, rNeg, rMin, rMax, eIf, bAnd, bOr, bNot, bYes, eMtL, eMtL0, rAppend, rPop, rExtend, rInsert, rReverse, rClear, eGet1, eGet2, rGet, isDic, gNm, gsNil, gsCons, gTp, gSb, rSet, eSl, rSl, oNone, oSome, iAny, iRg1, iRg2, eLc, eDc, dwipe, CT.put, setMany, sNext, sBreak, sCont, sRetN, sNever, keyD, kD, List.getElem?_cons_zero, List.getElem?_cons_succ, List.set_cons_zero, List.set_cons_succ, List.length_cons, List.length_nil, List.cons_append, List.nil_append, atI_0, atI_1, atI_2, atI_3, atI_4, ixN_0, ixN_1, ixN_2, ixN_3, ofString_inj, String.reduceEq, decide_true, decide_false, decide_not, beq_self_eq_true, Bool.not_true, Bool.not_false, Bool.false_eq_true, Bool.true_eq_false, if_true, if_false, ite_true, ite_false, beq_t, beq_f, true_and, and_true, not_true_eq_false, not_false_eq_true, forall_const, gup_get, eq_self, reduceCtorEq, reduceIte]
    by_cases hv : v - 3 = 0
    · rw [decide_eq_true hv]
      exact kf _ (kk _ _ ⟨ps, _, _, rfl, hx', by omega, hq, hG1, hd.trans d1⟩)
    · rw [decide_eq_false hv]
      refine kt _ (sDrop_i fun k kn => ?_)
      simp only [eOp, eUn, eVar, eC, eTest, eTru, rTru, eCa, aNil, aCons, eTup, eLst, rInt, rIxd, rAdd, rIntOf, rStrOf, rLen, rTupOf, rLstOf, rEq, rIsN, rNeg, rMin, rMax, eIf, bAnd, bOr, bNot, bYes, eMtL, eMtL0, rAppend, rPop, rExtend, rInsert, rReverse, rClear, eGet1, eGet2, rGet, isDic, gNm, gsNil, gsCons, gTp, gSb, rSet, eSl, rSl, oNone, oSome, iAny, iRg1, iRg2, eLc, eDc, dwipe, CT.put, setMany, sNext, sBreak, sCont, sRetN, sNever, keyD, kD, List.getElem?_cons_zero, List.getElem?_cons_succ, List.set_cons_zero, List.set_cons_succ, List.length_cons, List.length_nil, List.cons_append, List.nil_append, atI_0, atI_1, atI_2, atI_3, atI_4, ixN_0, ixN_1, ixN_2, ixN_3, ofString_inj, String.reduceEq, decide_true, decide_false, decide_not, beq_self_eq_true, Bool.not_true, Bool.not_false, Bool.false_eq_true, Bool.true_eq_false, if_true, if_false, ite_true, ite_false, beq_t, beq_f, true_and, and_true, not_true_eq_false, not_false_eq_true, forall_const, gup_get, eq_self, reduceCtorEq, reduceIte, hG1]
      refine ⟨.inl (by decide), ?_⟩
      refine take_i d1.1 (by decide) (by decide) fun w G2 w0 w1 d2 => ?_
      have hG2 : G2 a = some (.lst (psD ps)) := d2.2 _ _ (fun e => (h.nep ha).1 e.symm) hG1
      simp only [eOp, eUn, eVar, eC, eTest, eTru, rTru, eCa, aNil, aCons, eTup, eLst, rInt, rIxd, rAdd, rIntOf, rStrOf, rLen, rTupOf, rLstOf, rEq, rIsN, rNeg, rMin, rMax, eIf, bAnd, bOr, bNot, bYes, eMtL, eMtL0, rAppend, rPop, rExtend, rInsert, rReverse, rClear, eGet1, eGet2, rGet, isDic, gNm, gsNil, gsCons, gTp, gSb, rSet, eSl, rSl, oNone, oSome, iAny, iRg1, iRg2, eLc, eDc, dwipe, CT.put, setMany, sNext, sBreak, sCont, sRetN, sNever, keyD, kD, List.getElem?_cons_zero, List.getElem?_cons_succ, List.set_cons_zero, List.set_cons_succ, List.length_cons, List.length_nil, List.cons_append, List.nil_append, atI_0, atI_1, atI_2, atI_3, atI_4, ixN_0, ixN_1, ixN_2, ixN_3, ofString_inj, String.reduceEq, decide_true, decide_false, decide_not, beq_self_eq_true, Bool.not_true, Bool.not_false, Bool.false_eq_true, Bool.true_eq_false, if_true, if_false, ite_true, ite_false, beq_t, beq_f, true_and, and_true, not_true_eq_false, not_false_eq_true, forall_const, gup_get, eq_self, reduceCtorEq, reduceIte, hG2]
      refine ⟨by decide, by simp [psD]; omega, kn _ _ (kk _ _ ⟨ps ++ [(10 * (j : Int) + w, v - 3)], _, _, rfl, hx', by simp; omega, ?_, gup_same.trans (by simp [psD]), ((hd.trans d1).trans d2).put h ha⟩)⟩
      intro q hq'
      rcases List.mem_append.mp hq' with h' | h'
      · exact hq q h'
      · rw [List.mem_singleton.mp h']
        simp only []
        omega
  · rintro σ G ⟨ps, x2, x3, rfl, hx, hl, hq, hG, hd⟩
    refine ⟨trivial, ?_⟩
    dsimp only []
    refine sRet_i ?_
    simp only [eOp, eUn, eVar, eC, eTest, eTru, rTru, eCa, aNil, aCons, eTup, eLst, rInt, rIxd, rAdd, rIntOf, rStrOf, rLen, rTupOf, rLstOf, rEq, rIsN, rNeg, rMin, rMax, eIf, bAnd, bOr, bNot, bYes, eMtL, eMtL0, rAppend, rPop, rExtend, rInsert, rReverse, rClear, eGet1, eGet2, rGet, isDic, gNm, gsNil, gsCons, gTp, gSb, rSet, eSl, rSl, oNone, oSome, iAny, iRg1, iRg2, eLc, eDc, dwipe, CT.put, setMany, sNext, sBreak, sCont, sRetN, sNever, keyD, kD, List.getElem?_cons_zero, List.getElem?_cons_succ, List.set_cons_zero, List.set_cons_succ, List.length_cons, List.length_nil, List.cons_append, List.nil_append, atI_0, atI_1, atI_2, atI_3, atI_4, ixN_0, ixN_1, ixN_2, ixN_3, ofString_inj, String.reduceEq, decide_true, decide_false, decide_not, beq_self_eq_true, Bool.not_true, Bool.not_false, Bool.false_eq_true, Bool.true_eq_false, if_true, if_false, ite_true, ite_false, beq_t, beq_f, true_and, and_true, not_true_eq_false, not_false_eq_true, forall_const, gup_get, eq_self, reduceCtorEq, reduceIte, hG]
    refine ⟨p, c, rfl, hd.1, fun n G2 d2 => ?_⟩
    simp only [eOp, eUn, eVar, eC, eTest, eTru, rTru, eCa, aNil, aCons, eTup, eLst, rInt, rIxd, rAdd, rIntOf, rStrOf, rLen, rTupOf, rLstOf, rEq, rIsN, rNeg, rMin, rMax, eIf, bAnd, bOr, bNot, bYes, eMtL, eMtL0, rAppend, rPop, rExtend, rInsert, rReverse, rClear, eGet1, eGet2, rGet, isDic, gNm, gsNil, gsCons, gTp, gSb, rSet, eSl, rSl, oNone, oSome, iAny, iRg1, iRg2, eLc, eDc, dwipe, CT.put, setMany, sNext, sBreak, sCont, sRetN, sNever, keyD, kD, List.getElem?_cons_zero, List.getElem?_cons_succ, List.set_cons_zero, List.set_cons_succ, List.length_cons, List.length_nil, List.cons_append, List.nil_append, atI_0, atI_1, atI_2, atI_3, atI_4, ixN_0, ixN_1, ixN_2, ixN_3, ofString_inj, String.reduceEq, decide_true, decide_false, decide_not, beq_self_eq_true, Bool.not_true, Bool.not_false, Bool.false_eq_true, Bool.true_eq_false, if_true, if_false, ite_true, ite_false, beq_t, beq_f, true_and, and_true, not_true_eq_false, not_false_eq_true, forall_const, gup_get, eq_self, reduceCtorEq, reduceIte]
    refine ⟨by decide, ?_⟩
    have := q ps n G2 (by simp only [List.length_nil] at hl; omega) hq (hd.trans d2)
    simp only [Sy.toD] at this
    exact this
  · obtain ⟨j, hj, rfl⟩ := mem_rngDs hx
    exact ⟨j, by omega, rfl⟩
def sp__law_given : DSp := fun ds G Q => ∃ p c, ds = [.ref p] ∧ PoolAt G p c ∧ ∀ (s : Sy) G', s.fine 0 → Dr p c G G' → Q s.toD G'
theorem sem__law_given {E : DEnds} {G0 : GP} {p c : Addr} (h : PoolAt G0 p c) (q : ∀ (s : Sy) G', s.fine 0 → Dr p c G0 G' → E.rt s.toD G') :
    rd__law_given sp_take sp__law_sum E (dstart n__law_given [.ref p]) G0 := by
  show rd__law_given sp_take sp__law_sum E [some (.ref p), none] G0
  unfold rd__law_given
  have hsz := sizeLine_eq
  refine qSet_i fun k kn => ?_
  simp only [eOp, eUn, eVar, eC, eTest, eTru, rTru, eCa, aNil, aCons, eTup, eLst, rInt, rIxd, rAdd, rIntOf, rStrOf, rLen, rTupOf, rLstOf, rEq, rIsN, rNeg, rMin, rMax, eIf, bAnd, bOr, bNot, bYes, eMtL, eMtL0, rAppend, rPop, rExtend, rInsert, rReverse, rClear, eGet1, eGet2, rGet, isDic, gNm, gsNil, gsCons, gTp, gSb, rSet, eSl, rSl, oNone, oSome, iAny, iRg1, iRg2, eLc, eDc, dwipe, CT.put, setMany, sNext, sBreak, sCont, sRetN, sNever, keyD, kD, List.getElem?_cons_zero, List.getElem?_cons_succ, List.set_cons_zero, List.set_cons_succ, List.length_cons, List.length_nil, List.cons_append, List.nil_append, atI_0, atI_1, atI_2, atI_3, atI_4, ixN_0, ixN_1, ixN_2, ixN_3, ofString_inj, String.reduceEq, decide_true, decide_false, decide_not, beq_self_eq_true, Bool.not_true, Bool.not_false, Bool.false_eq_true, Bool.true_eq_false, if_true, if_false, ite_true, ite_false, beq_t, beq_f, true_and, and_true, not_true_eq_false, not_false_eq_true, forall_const, gup_get, eq_self, reduceCtorEq, reduceIte]
  refine take_i h (by decide) (by decide) fun v G1 v0 v1 d1 => kn _ _ ?_
  try dsimp only [List.set_cons_zero, List.set_cons_succ]
  refine qWhen_i fun k kt kf => ?_
  simp only [eOp, eUn, eVar, eC, eTest, eTru, rTru, eCa, aNil, aCons, eTup, eLst, rInt, rIxd, rAdd, rIntOf, rStrOf, rLen, rTupOf, rLstOf, rEq, rIsN, rNeg, rMin, rMax, eIf, bAnd, bOr, bNot, bYes, eMtL, eMtL0, rAppend, rPop, rExtend, rInsert, rReverse, rClear, eGet1, eGet2, rGet, isDic, gNm, gsNil, gsCons, gTp, gSb, rSet, eSl, rSl, oNone, oSome, iAny, iRg1, iRg2, eLc, eDc, dwipe, CT.put, setMany, sNext, sBreak, sCont, sRetN, sNever, keyD, kD, List.getElem?_cons_zero, List.getElem?_cons_succ, List.set_cons_zero, List.set_cons_succ, List.length_cons, List.length_nil, List.cons_append, List.nil_append, atI_0, atI_1, atI_2, atI_3, atI_4, ixN_0, ixN_1, ixN_2, ixN_3, ofString_inj, String.reduceEq, decide_true, decide_false, decide_not, beq_self_eq_true, Bool.not_true, Bool.not_false, Bool.false_eq_true, Bool.true_eq_false, if_true, if_false, ite_true, ite_false, beq_t, beq_f, true_and, and_true, not_true_eq_false, not_false_eq_true, forall_const, gup_get, eq_self, reduceCtorEq, reduceIte]
  refine k_dec (fun _ => kt _ ?_) (fun _ => kf _ ?_)
  · refine sRet_i ?_
    simp only [eOp, eUn, eVar, eC, eTest, eTru, rTru, eCa, aNil, aCons, eTup, eLst, rInt, rIxd, rAdd, rIntOf, rStrOf, rLen, rTupOf, rLstOf, rEq, rIsN, rNeg, rMin, rMax, eIf, bAnd, bOr, bNot, bYes, eMtL, eMtL0, rAppend, rPop, rExtend, rInsert, rReverse, rClear, eGet1, eGet2, rGet, isDic, gNm, gsNil, gsCons, gTp, gSb, rSet, eSl, rSl, oNone, oSome, iAny, iRg1, iRg2, eLc, eDc, dwipe, CT.put, setMany, sNext, sBreak, sCont, sRetN, sNever, keyD, kD, List.getElem?_cons_zero, List.getElem?_cons_succ, List.set_cons_zero, List.set_cons_succ, List.length_cons, List.length_nil, List.cons_append, List.nil_append, atI_0, atI_1, atI_2, atI_3, atI_4, ixN_0, ixN_1, ixN_2, ixN_3, ofString_inj, String.reduceEq, decide_true, decide_false, decide_not, beq_self_eq_true, Bool.not_true, Bool.not_false, Bool.false_eq_true, Bool.true_eq_false, if_true, if_false, ite_true, ite_false, beq_t, beq_f, true_and, and_true, not_true_eq_false, not_false_eq_true, forall_const, gup_get, eq_self, reduceCtorEq, reduceIte]
    refine ⟨p, c, rfl, d1.1, fun ps n G2 a b d2 => q _ _ ?_ (d1.trans d2)⟩
    exact ⟨a, b⟩
  refine qWhen_i fun k kt kf => ?_
  simp only [eOp, eUn, eVar, eC, eTest, eTru, rTru, eCa, aNil, aCons, eTup, eLst, rInt, rIxd, rAdd, rIntOf, rStrOf, rLen, rTupOf, rLstOf, rEq, rIsN, rNeg, rMin, rMax, eIf, bAnd, bOr, bNot, bYes, eMtL, eMtL0, rAppend, rPop, rExtend, rInsert, rReverse, rClear, eGet1, eGet2, rGet, isDic, gNm, gsNil, gsCons, gTp, gSb, rSet, eSl, rSl, oNone, oSome, iAny, iRg1, iRg2, eLc, eDc, dwipe, CT.put, setMany, sNext, sBreak, sCont, sRetN, sNever, keyD, kD, List.getElem?_cons_zero, List.getElem?_cons_succ, List.set_cons_zero, List.set_cons_succ, List.length_cons, List.length_nil, List.cons_append, List.nil_append, atI_0, atI_1, atI_2, atI_3, atI_4, ixN_0, ixN_1, ixN_2, ixN_3, ofString_inj, String.reduceEq, decide_true, decide_false, decide_not, beq_self_eq_true, Bool.not_true, Bool.not_false, Bool.false_eq_true, Bool.true_eq_false, if_true, if_false, ite_true, ite_false, beq_t, beq_f, true_and, and_true, not_true_eq_false, not_false_eq_true, forall_const, gup_get, eq_self, reduceCtorEq, reduceIte]
  refine k_dec (fun _ => kt _ ?_) (fun _ => kf _ ?_)
  · refine sRet_i ?_
    simp only [eOp, eUn, eVar, eC, eTest, eTru, rTru, eCa, aNil, aCons, eTup, eLst, rInt, rIxd, rAdd, rIntOf, rStrOf, rLen, rTupOf, rLstOf, rEq, rIsN, rNeg, rMin, rMax, eIf, bAnd, bOr, bNot, bYes, eMtL, eMtL0, rAppend, rPop, rExtend, rInsert, rReverse, rClear, eGet1, eGet2, rGet, isDic, gNm, gsNil, gsCons, gTp, gSb, rSet, eSl, rSl, oNone, oSome, iAny, iRg1, iRg2, eLc, eDc, dwipe, CT.put, setMany, sNext, sBreak, sCont, sRetN, sNever, keyD, kD, List.getElem?_cons_zero, List.getElem?_cons_succ, List.set_cons_zero, List.set_cons_succ, List.length_cons, List.length_nil, List.cons_append, List.nil_append, atI_0, atI_1, atI_2, atI_3, atI_4, ixN_0, ixN_1, ixN_2, ixN_3, ofString_inj, String.reduceEq, decide_true, decide_false, decide_not, beq_self_eq_true, Bool.not_true, Bool.not_false, Bool.false_eq_true, Bool.true_eq_false, if_true, if_false, ite_true, ite_false, beq_t, beq_f, true_and, and_true, not_true_eq_false, not_false_eq_true, forall_const, gup_get, eq_self, reduceCtorEq, reduceIte]
    refine take_i d1.1 (by decide) (by decide) fun w G2 w0 w1 d2 => ?_
    simp only [eOp, eUn, eVar, eC, eTest, eTru, rTru, eCa, aNil, aCons, eTup, eLst, rInt, rIxd, rAdd, rIntOf, rStrOf, rLen, rTupOf, rLstOf, rEq, rIsN, rNeg, rMin, rMax, eIf, bAnd, bOr, bNot, bYes, eMtL, eMtL0, rAppend, rPop, rExtend, rInsert, rReverse, rClear, eGet1, eGet2, rGet, isDic, gNm, gsNil, gsCons, gTp, gSb, rSet, eSl, rSl, oNone, oSome, iAny, iRg1, iRg2, eLc, eDc, dwipe, CT.put, setMany, sNext, sBreak, sCont, sRetN, sNever, keyD, kD, List.getElem?_cons_zero, List.getElem?_cons_succ, List.set_cons_zero, List.set_cons_succ, List.length_cons, List.length_nil, List.cons_append, List.nil_append, atI_0, atI_1, atI_2, atI_3, atI_4, ixN_0, ixN_1, ixN_2, ixN_3, ofString_inj, String.reduceEq, decide_true, decide_false, decide_not, beq_self_eq_true, Bool.not_true, Bool.not_false, Bool.false_eq_true, Bool.true_eq_false, if_true, if_false, ite_true, ite_false, beq_t, beq_f, true_and, and_true, not_true_eq_false, not_false_eq_true, forall_const, gup_get, eq_self, reduceCtorEq, reduceIte]
    have hl := len_int w0 (by omega)
    refine ⟨log2_small w0 (by omega), ?_, by decide, ?_⟩
    · have : (Str.ofString "n").length = 1 := by decide +kernel
      omega
    have := q (.name (Str.ofString "n" ++ Str.ofString (toString w))) G2 (okS_app (okS_of _) (okS_of _)) (d1.trans d2)
    simp only [Sy.toD] at this
    exact this
  refine qWhen_i fun k kt kf => ?_
  simp only [eOp, eUn, eVar, eC, eTest, eTru, rTru, eCa, aNil, aCons, eTup, eLst, rInt, rIxd, rAdd, rIntOf, rStrOf, rLen, rTupOf, rLstOf, rEq, rIsN, rNeg, rMin, rMax, eIf, bAnd, bOr, bNot, bYes, eMtL, eMtL0, rAppend, rPop, rExtend, rInsert, rReverse, rClear, eGet1, eGet2, rGet, isDic, gNm, gsNil, gsCons, gTp, gSb, rSet, eSl, rSl, oNone, oSome, iAny, iRg1, iRg2, eLc, eDc, dwipe, CT.put, setMany, sNext, sBreak, sCont, sRetN, sNever, keyD, kD, List.getElem?_cons_zero, List.getElem?_cons_succ, List.set_cons_zero, List.set_cons_succ, List.length_cons, List.length_nil, List.cons_append, List.nil_append, atI_0, atI_1, atI_2, atI_3, atI_4, ixN_0, ixN_1, ixN_2, ixN_3, ofString_inj, String.reduceEq, decide_true, decide_false, decide_not, beq_self_eq_true, Bool.not_true, Bool.not_false, Bool.false_eq_true, Bool.true_eq_false, if_true, if_false, ite_true, ite_false, beq_t, beq_f, true_and, and_true, not_true_eq_false, not_false_eq_true, forall_const, gup_get, eq_self, reduceCtorEq, reduceIte]
  refine k_dec (fun _ => kt _ ?_) (fun _ => kf _ ?_)
  · refine sRet_i ?_
    simp only [eOp, eUn, eVar, eC, eTest, eTru, rTru, eCa, aNil, aCons, eTup, eLst, rInt, rIxd, rAdd, rIntOf, rStrOf, rLen, rTupOf, rLstOf, rEq, rIsN, rNeg, rMin, rMax, eIf, bAnd, bOr, bNot, bYes, eMtL, eMtL0, rAppend, rPop, rExtend, rInsert, rReverse, rClear, eGet1, eGet2, rGet, isDic, gNm, gsNil, gsCons, gTp, gSb, rSet, eSl, rSl, oNone, oSome, iAny, iRg1, iRg2, eLc, eDc, dwipe, CT.put, setMany, sNext, sBreak, sCont, sRetN, sNever, keyD, kD, List.getElem?_cons_zero, List.getElem?_cons_succ, List.set_cons_zero, List.set_cons_succ, List.length_cons, List.length_nil, List.cons_append, List.nil_append, atI_0, atI_1, atI_2, atI_3, atI_4, ixN_0, ixN_1, ixN_2, ixN_3, ofString_inj, String.reduceEq, decide_true, decide_false, decide_not, beq_self_eq_true, Bool.not_true, Bool.not_false, Bool.false_eq_true, Bool.true_eq_false, if_true, if_false, ite_true, ite_false, beq_t, beq_f, true_and, and_true, not_true_eq_false, not_false_eq_true, forall_const, gup_get, eq_self, reduceCtorEq, reduceIte]
    refine take_i d1.1 (by decide) (by decide) fun w G2 w0 w1 d2 => ?_
    refine ⟨by decide, ?_⟩
    have := q (.addr w) G2 trivial (d1.trans d2)
    simp only [Sy.toD] at this
    exact this
  · refine sRet_i ?_
    simp only [eOp, eUn, eVar, eC, eTest, eTru, rTru, eCa, aNil, aCons, eTup, eLst, rInt, rIxd, rAdd, rIntOf, rStrOf, rLen, rTupOf, rLstOf, rEq, rIsN, rNeg, rMin, rMax, eIf, bAnd, bOr, bNot, bYes, eMtL, eMtL0, rAppend, rPop, rExtend, rInsert, rReverse, rClear, eGet1, eGet2, rGet, isDic, gNm, gsNil, gsCons, gTp, gSb, rSet, eSl, rSl, oNone, oSome, iAny, iRg1, iRg2, eLc, eDc, dwipe, CT.put, setMany, sNext, sBreak, sCont, sRetN, sNever, keyD, kD, List.getElem?_cons_zero, List.getElem?_cons_succ, List.set_cons_zero, List.set_cons_succ, List.length_cons, List.length_nil, List.cons_append, List.nil_append, atI_0, atI_1, atI_2, atI_3, atI_4, ixN_0, ixN_1, ixN_2, ixN_3, ofString_inj, String.reduceEq, decide_true, decide_false, decide_not, beq_self_eq_true, Bool.not_true, Bool.not_false, Bool.false_eq_true, Bool.true_eq_false, if_true, if_false, ite_true, ite_false, beq_t, beq_f, true_and, and_true, not_true_eq_false, not_false_eq_true, forall_const, gup_get, eq_self, reduceCtorEq, reduceIte]
    refine take_i d1.1 (by decide) (by decide) fun w G2 w0 w1 d2 => ?_
    refine ⟨by decide, ?_⟩
    have := q (.unk w) G2 ⟨w0, w1⟩ (d1.trans d2)
    simp only [Sy.toD] at this
    exact this
end Dn.My

namespace Dn.My
open PySem PySem.Spec PyProof.Rows L2 Dn

def sp__law_term (n : Nat) : DSp := fun ds G Q => ∃ (p c wd : Addr) (words : List Str) (d : Int), ds = [.ref p, .ref wd, .int d] ∧ PoolAt G p c ∧ G wd = some (.lst (words.map D.str)) ∧ 0 < words.length ∧ words.length < 1000 ∧ wd ≠ p ∧ d ≤ n ∧
  ∀ (t : Trm) G', t.fine (· ∈ words) n → Dr p c G G' → Q t.toD G'
def Below (n : Nat) (sp : DSp) : Prop := ∀ m, n = m + 1 → sp = sp__law_term m
theorem fine_leaf' {p : Str → Prop} {n : Nat} {t : Trm} (h : t.fine p 0) : t.fine p n := by
  cases n <;> cases t <;> simp [Trm.fine] at h ⊢ <;> exact h
theorem sem__law_term {n : Nat} {sp : DSp} (hsp : Below n sp) {E : DEnds} {G0 : GP} {p c wd : Addr} {words : List Str} {d : Int} (h : PoolAt G0 p c) (hw : G0 wd = some (.lst (words.map D.str))) (hw0 : 0 < words.length) (hw1 : words.length < 1000) (hwp : wd ≠ p) (hd : d ≤ n)
    (q : ∀ (t : Trm) G', t.fine (· ∈ words) n → Dr p c G0 G' → E.rt t.toD G') :
    rd__law_term sp_take sp__law_whole sp E (dstart n__law_term [.ref p, .ref wd, .int d]) G0 := by
  show rd__law_term sp_take sp__law_whole sp E [some (.ref p), some (.ref wd), some (.int d), none, none, none, none, none] G0
  unfold rd__law_term
  have hsz := sizeLine_eq
  refine qSet_i fun k kn => ?_
  simp only [eOp, eUn, eVar, eC, eTest, eTru, rTru, eCa, aNil, aCons, eTup, eLst, rInt, rIxd, rAdd, rIntOf, rStrOf, rLen, rTupOf, rLstOf, rEq, rIsN, rNeg, rMin, rMax, eIf, bAnd, bOr, bNot, bYes, eMtL, eMtL0, rAppend, rPop, rExtend, rInsert, rReverse, rClear, eGet1, eGet2, rGet, isDic, gNm, gsNil, gsCons, gTp, gSb, rSet, eSl, rSl, oNone, oSome, iAny, iRg1, iRg2, eLc, eDc, dwipe, CT.put, setMany, sNext, sBreak, sCont, sRetN, sNever, keyD, kD, List.getElem?_cons_zero, List.getElem?_cons_succ, List.set_cons_zero, List.set_cons_succ, List.length_cons, List.length_nil, List.cons_append, List.nil_append, atI_0, atI_1, atI_2, atI_3, atI_4, ixN_0, ixN_1, ixN_2, ixN_3, ofString_inj, String.reduceEq, decide_true, decide_false, decide_not, beq_self_eq_true, Bool.not_true, Bool.not_false, Bool.false_eq_true, Bool.true_eq_false, if_true, if_false, ite_true, ite_false, beq_t, beq_f, true_and, and_true, not_true_eq_false, not_false_eq_true, forall_const, gup_get, eq_self, reduceCtorEq, reduceIte]
  refine take_i h (by decide) (by decide) fun v G1 v0 v1 d1 => kn _ _ ?_
  try dsimp only [List.set_cons_zero, List.set_cons_succ]
  have leaf : ∀ (E' : DEnds) (t : Trm) G', E'.rt = E.rt → t.fine (· ∈ words) 0 → Dr p c G0 G' → E'.rt t.toD G' := fun E' t G' e hf hd => by rw [e]; exact q t G' (fine_leaf' hf) hd
  have first : sRet (eOp rIxd (eTup (aCons (eTup (aCons (eC (.str "int")) (aCons (eCa sp__law_whole (aCons (eVar 0) (aNil))) (aNil)))) (aCons (eTup (aCons (eC (.str "name")) (aCons (eOp rAdd (eC (.str "k")) (eCa rStrOf (aCons (eCa sp_take (aCons (eVar 0) (aCons (eC (.int 9)) (aNil)))) (aNil)))) (aNil)))) (aNil)))) (eCa sp_take (aCons (eVar 0) (aCons (eC (.int 2)) (aNil))))) E [some (.ref p), some (.ref wd), some (.int d), some (.int v), none, none, none, none] G1 := by
    refine sRet_i ?_
    simp only [eOp, eUn, eVar, eC, eTest, eTru, rTru, eCa, aNil, aCons, eTup, eLst, rInt, rIxd, rAdd, rIntOf, rStrOf, rLen, rTupOf, rLstOf, rEq, rIsN, rNeg, rMin, rMax, eIf, bAnd, bOr, bNot, bYes, eMtL, eMtL0, rAppend, rPop, rExtend, rInsert, rReverse, rClear, eGet1, eGet2, rGet, isDic, gNm, gsNil, gsCons, gTp, gSb, rSet, eSl, rSl, oNone, oSome, iAny, iRg1, iRg2, eLc, eDc, dwipe, CT.put, setMany, sNext, sBreak, sCont, sRetN, sNever, keyD, kD, List.getElem?_cons_zero, List.getElem?_cons_succ, List.set_cons_zero, List.set_cons_succ, List.length_cons, List.length_nil, List.cons_append, List.nil_append, atI_0, atI_1, atI_2, atI_3, atI_4, ixN_0, ixN_1, ixN_2, ixN_3, ofString_inj, String.reduceEq, decide_true, decide_false, decide_not, beq_self_eq_true, Bool.not_true, Bool.not_false, Bool.false_eq_true, Bool.true_eq_false, if_true, if_false, ite_true, ite_false, beq_t, beq_f, true_and, and_true, not_true_eq_false, not_false_eq_true, forall_const, gup_get, eq_self, reduceCtorEq, reduceIte]
    refine ⟨p, c, rfl, d1.1, fun m G2 d2 => ?_⟩
    simp only [eOp, eUn, eVar, eC, eTest, eTru, rTru, eCa, aNil, aCons, eTup, eLst, rInt, rIxd, rAdd, rIntOf, rStrOf, rLen, rTupOf, rLstOf, rEq, rIsN, rNeg, rMin, rMax, eIf, bAnd, bOr, bNot, bYes, eMtL, eMtL0, rAppend, rPop, rExtend, rInsert, rReverse, rClear, eGet1, eGet2, rGet, isDic, gNm, gsNil, gsCons, gTp, gSb, rSet, eSl, rSl, oNone, oSome, iAny, iRg1, iRg2, eLc, eDc, dwipe, CT.put, setMany, sNext, sBreak, sCont, sRetN, sNever, keyD, kD, List.getElem?_cons_zero, List.getElem?_cons_succ, List.set_cons_zero, List.set_cons_succ, List.length_cons, List.length_nil, List.cons_append, List.nil_append, atI_0, atI_1, atI_2, atI_3, atI_4, ixN_0, ixN_1, ixN_2, ixN_3, ofString_inj, String.reduceEq, decide_true, decide_false, decide_not, beq_self_eq_true, Bool.not_true, Bool.not_false, Bool.false_eq_true, Bool.true_eq_false, if_true, if_false, ite_true, ite_false, beq_t, beq_f, true_and, and_true, not_true_eq_false, not_false_eq_true, forall_const, gup_get, eq_self, reduceCtorEq, reduceIte]
    refine ⟨by decide, ?_⟩
    refine take_i d2.1 (by decide) (by decide) fun w G3 w0 w1 d3 => ?_
    simp only [eOp, eUn, eVar, eC, eTest, eTru, rTru, eCa, aNil, aCons, eTup, eLst, rInt, rIxd, rAdd, rIntOf, rStrOf, rLen, rTupOf, rLstOf, rEq, rIsN, rNeg, rMin, rMax, eIf, bAnd, bOr, bNot, bYes, eMtL, eMtL0, rAppend, rPop, rExtend, rInsert, rReverse, rClear, eGet1, eGet2, rGet, isDic, gNm, gsNil, gsCons, gTp, gSb, rSet, eSl, rSl, oNone, oSome, iAny, iRg1, iRg2, eLc, eDc, dwipe, CT.put, setMany, sNext, sBreak, sCont, sRetN, sNever, keyD, kD, List.getElem?_cons_zero, List.getElem?_cons_succ, List.set_cons_zero, List.set_cons_succ, List.length_cons, List.length_nil, List.cons_append, List.nil_append, atI_0, atI_1, atI_2, atI_3, atI_4, ixN_0, ixN_1, ixN_2, ixN_3, ofString_inj, String.reduceEq, decide_true, decide_false, decide_not, beq_self_eq_true, Bool.not_true, Bool.not_false, Bool.false_eq_true, Bool.true_eq_false, if_true, if_false, ite_true, ite_false, beq_t, beq_f, true_and, and_true, not_true_eq_false, not_false_eq_true, forall_const, gup_get, eq_self, reduceCtorEq, reduceIte]
    have hl := len_int w0 (by omega)
    refine ⟨log2_small w0 (by omega), ?_, by decide, by decide, ?_⟩
    · have : (Str.ofString "k").length = 1 := by decide +kernel
      omega
    refine take_i d3.1 (by decide) (by decide) fun u G4 u0 u1 d4 => ?_
    have hd4 := ((d1.trans d2).trans d3).trans d4
    have hu : u = 0 ∨ u = 1 := by omega
    rcases hu with rfl | rfl
    · have := q (.int m) G4 (fine_leaf' trivial) hd4
      simp only [Trm.toD] at this
      simp only [eOp, eUn, eVar, eC, eTest, eTru, rTru, eCa, aNil, aCons, eTup, eLst, rInt, rIxd, rAdd, rIntOf, rStrOf, rLen, rTupOf, rLstOf, rEq, rIsN, rNeg, rMin, rMax, eIf, bAnd, bOr, bNot, bYes, eMtL, eMtL0, rAppend, rPop, rExtend, rInsert, rReverse, rClear, eGet1, eGet2, rGet, isDic, gNm, gsNil, gsCons, gTp, gSb, rSet, eSl, rSl, oNone, oSome, iAny, iRg1, iRg2, eLc, eDc, dwipe, CT.put, setMany, sNext, sBreak, sCont, sRetN, sNever, keyD, kD, List.getElem?_cons_zero, List.getElem?_cons_succ, List.set_cons_zero, List.set_cons_succ, List.length_cons, List.length_nil, List.cons_append, List.nil_append, atI_0, atI_1, atI_2, atI_3, atI_4, ixN_0, ixN_1, ixN_2, ixN_3, ofString_inj, String.reduceEq, decide_true, decide_false, decide_not, beq_self_eq_true, Bool.not_true, Bool.not_false, Bool.false_eq_true, Bool.true_eq_false, if_true, if_false, ite_true, ite_false, beq_t, beq_f, true_and, and_true, not_true_eq_false, not_false_eq_true, forall_const, gup_get, eq_self, reduceCtorEq, reduceIte]
      exact this
    · have := q (.name (Str.ofString "k" ++ Str.ofString (toString w))) G4 (fine_leaf' (okS_app (okS_of _) (okS_of _))) hd4
      simp only [Trm.toD] at this
      simp only [eOp, eUn, eVar, eC, eTest, eTru, rTru, eCa, aNil, aCons, eTup, eLst, rInt, rIxd, rAdd, rIntOf, rStrOf, rLen, rTupOf, rLstOf, rEq, rIsN, rNeg, rMin, rMax, eIf, bAnd, bOr, bNot, bYes, eMtL, eMtL0, rAppend, rPop, rExtend, rInsert, rReverse, rClear, eGet1, eGet2, rGet, isDic, gNm, gsNil, gsCons, gTp, gSb, rSet, eSl, rSl, oNone, oSome, iAny, iRg1, iRg2, eLc, eDc, dwipe, CT.put, setMany, sNext, sBreak, sCont, sRetN, sNever, keyD, kD, List.getElem?_cons_zero, List.getElem?_cons_succ, List.set_cons_zero, List.set_cons_succ, List.length_cons, List.length_nil, List.cons_append, List.nil_append, atI_0, atI_1, atI_2, atI_3, atI_4, ixN_0, ixN_1, ixN_2, ixN_3, ofString_inj, String.reduceEq, decide_true, decide_false, decide_not, beq_self_eq_true, Bool.not_true, Bool.not_false, Bool.false_eq_true, Bool.true_eq_false, if_true, if_false, ite_true, ite_false, beq_t, beq_f, true_and, and_true, not_true_eq_false, not_false_eq_true, forall_const, gup_get, eq_self, reduceCtorEq, reduceIte]
      exact this
  have hw' : G1 wd = some (.lst (words.map D.str)) := d1.2 _ _ hwp hw
  refine qWhen_i fun k kt kf => ?_
  simp only [eOp, eUn, eVar, eC, eTest, eTru, rTru, eCa, aNil, aCons, eTup, eLst, rInt, rIxd, rAdd, rIntOf, rStrOf, rLen, rTupOf, rLstOf, rEq, rIsN, rNeg, rMin, rMax, eIf, bAnd, bOr, bNot, bYes, eMtL, eMtL0, rAppend, rPop, rExtend, rInsert, rReverse, rClear, eGet1, eGet2, rGet, isDic, gNm, gsNil, gsCons, gTp, gSb, rSet, eSl, rSl, oNone, oSome, iAny, iRg1, iRg2, eLc, eDc, dwipe, CT.put, setMany, sNext, sBreak, sCont, sRetN, sNever, keyD, kD, List.getElem?_cons_zero, List.getElem?_cons_succ, List.set_cons_zero, List.set_cons_succ, List.length_cons, List.length_nil, List.cons_append, List.nil_append, atI_0, atI_1, atI_2, atI_3, atI_4, ixN_0, ixN_1, ixN_2, ixN_3, ofString_inj, String.reduceEq, decide_true, decide_false, decide_not, beq_self_eq_true, Bool.not_true, Bool.not_false, Bool.false_eq_true, Bool.true_eq_false, if_true, if_false, ite_true, ite_false, beq_t, beq_f, true_and, and_true, not_true_eq_false, not_false_eq_true, forall_const, gup_get, eq_self, reduceCtorEq, reduceIte]
  by_cases c1 : v < 2
  · rw [decide_eq_true c1]
    simp only [eOp, eUn, eVar, eC, eTest, eTru, rTru, eCa, aNil, aCons, eTup, eLst, rInt, rIxd, rAdd, rIntOf, rStrOf, rLen, rTupOf, rLstOf, rEq, rIsN, rNeg, rMin, rMax, eIf, bAnd, bOr, bNot, bYes, eMtL, eMtL0, rAppend, rPop, rExtend, rInsert, rReverse, rClear, eGet1, eGet2, rGet, isDic, gNm, gsNil, gsCons, gTp, gSb, rSet, eSl, rSl, oNone, oSome, iAny, iRg1, iRg2, eLc, eDc, dwipe, CT.put, setMany, sNext, sBreak, sCont, sRetN, sNever, keyD, kD, List.getElem?_cons_zero, List.getElem?_cons_succ, List.set_cons_zero, List.set_cons_succ, List.length_cons, List.length_nil, List.cons_append, List.nil_append, atI_0, atI_1, atI_2, atI_3, atI_4, ixN_0, ixN_1, ixN_2, ixN_3, ofString_inj, String.reduceEq, decide_true, decide_false, decide_not, beq_self_eq_true, Bool.not_true, Bool.not_false, Bool.false_eq_true, Bool.true_eq_false, if_true, if_false, ite_true, ite_false, beq_t, beq_f, true_and, and_true, not_true_eq_false, not_false_eq_true, forall_const, gup_get, eq_self, reduceCtorEq, reduceIte]
    exact kt _ first
  rw [decide_eq_false c1]
  simp only [eOp, eUn, eVar, eC, eTest, eTru, rTru, eCa, aNil, aCons, eTup, eLst, rInt, rIxd, rAdd, rIntOf, rStrOf, rLen, rTupOf, rLstOf, rEq, rIsN, rNeg, rMin, rMax, eIf, bAnd, bOr, bNot, bYes, eMtL, eMtL0, rAppend, rPop, rExtend, rInsert, rReverse, rClear, eGet1, eGet2, rGet, isDic, gNm, gsNil, gsCons, gTp, gSb, rSet, eSl, rSl, oNone, oSome, iAny, iRg1, iRg2, eLc, eDc, dwipe, CT.put, setMany, sNext, sBreak, sCont, sRetN, sNever, keyD, kD, List.getElem?_cons_zero, List.getElem?_cons_succ, List.set_cons_zero, List.set_cons_succ, List.length_cons, List.length_nil, List.cons_append, List.nil_append, atI_0, atI_1, atI_2, atI_3, atI_4, ixN_0, ixN_1, ixN_2, ixN_3, ofString_inj, String.reduceEq, decide_true, decide_false, decide_not, beq_self_eq_true, Bool.not_true, Bool.not_false, Bool.false_eq_true, Bool.true_eq_false, if_true, if_false, ite_true, ite_false, beq_t, beq_f, true_and, and_true, not_true_eq_false, not_false_eq_true, forall_const, gup_get, eq_self, reduceCtorEq, reduceIte]
  refine k_dec (fun _ => kt _ first) (fun c2 => kf _ ?_)
  obtain ⟨m, rfl⟩ : ∃ m, n = m + 1 := ⟨n - 1, by omega⟩
  obtain rfl := hsp m rfl
  refine qWhen_i fun k kt kf => ?_
  simp only [eOp, eUn, eVar, eC, eTest, eTru, rTru, eCa, aNil, aCons, eTup, eLst, rInt, rIxd, rAdd, rIntOf, rStrOf, rLen, rTupOf, rLstOf, rEq, rIsN, rNeg, rMin, rMax, eIf, bAnd, bOr, bNot, bYes, eMtL, eMtL0, rAppend, rPop, rExtend, rInsert, rReverse, rClear, eGet1, eGet2, rGet, isDic, gNm, gsNil, gsCons, gTp, gSb, rSet, eSl, rSl, oNone, oSome, iAny, iRg1, iRg2, eLc, eDc, dwipe, CT.put, setMany, sNext, sBreak, sCont, sRetN, sNever, keyD, kD, List.getElem?_cons_zero, List.getElem?_cons_succ, List.set_cons_zero, List.set_cons_succ, List.length_cons, List.length_nil, List.cons_append, List.nil_append, atI_0, atI_1, atI_2, atI_3, atI_4, ixN_0, ixN_1, ixN_2, ixN_3, ofString_inj, String.reduceEq, decide_true, decide_false, decide_not, beq_self_eq_true, Bool.not_true, Bool.not_false, Bool.false_eq_true, Bool.true_eq_false, if_true, if_false, ite_true, ite_false, beq_t, beq_f, true_and, and_true, not_true_eq_false, not_false_eq_true, forall_const, gup_get, eq_self, reduceCtorEq, reduceIte]
  refine k_dec (fun _ => kt _ ?_) (fun _ => kf _ ?_)
  · refine sRet_i ?_
    simp only [eOp, eUn, eVar, eC, eTest, eTru, rTru, eCa, aNil, aCons, eTup, eLst, rInt, rIxd, rAdd, rIntOf, rStrOf, rLen, rTupOf, rLstOf, rEq, rIsN, rNeg, rMin, rMax, eIf, bAnd, bOr, bNot, bYes, eMtL, eMtL0, rAppend, rPop, rExtend, rInsert, rReverse, rClear, eGet1, eGet2, rGet, isDic, gNm, gsNil, gsCons, gTp, gSb, rSet, eSl, rSl, oNone, oSome, iAny, iRg1, iRg2, eLc, eDc, dwipe, CT.put, setMany, sNext, sBreak, sCont, sRetN, sNever, keyD, kD, List.getElem?_cons_zero, List.getElem?_cons_succ, List.set_cons_zero, List.set_cons_succ, List.length_cons, List.length_nil, List.cons_append, List.nil_append, atI_0, atI_1, atI_2, atI_3, atI_4, ixN_0, ixN_1, ixN_2, ixN_3, ofString_inj, String.reduceEq, decide_true, decide_false, decide_not, beq_self_eq_true, Bool.not_true, Bool.not_false, Bool.false_eq_true, Bool.true_eq_false, if_true, if_false, ite_true, ite_false, beq_t, beq_f, true_and, and_true, not_true_eq_false, not_false_eq_true, forall_const, gup_get, eq_self, reduceCtorEq, reduceIte]
    refine take_i d1.1 (by decide) (by decide) fun w G2 w0 w1 d2 => ?_
    refine ⟨by decide, ?_⟩
    have := q (.addr w) G2 trivial (d1.trans d2)
    simp only [Trm.toD] at this
    exact this
  refine qWhen_i fun k kt kf => ?_
  simp only [eOp, eUn, eVar, eC, eTest, eTru, rTru, eCa, aNil, aCons, eTup, eLst, rInt, rIxd, rAdd, rIntOf, rStrOf, rLen, rTupOf, rLstOf, rEq, rIsN, rNeg, rMin, rMax, eIf, bAnd, bOr, bNot, bYes, eMtL, eMtL0, rAppend, rPop, rExtend, rInsert, rReverse, rClear, eGet1, eGet2, rGet, isDic, gNm, gsNil, gsCons, gTp, gSb, rSet, eSl, rSl, oNone, oSome, iAny, iRg1, iRg2, eLc, eDc, dwipe, CT.put, setMany, sNext, sBreak, sCont, sRetN, sNever, keyD, kD, List.getElem?_cons_zero, List.getElem?_cons_succ, List.set_cons_zero, List.set_cons_succ, List.length_cons, List.length_nil, List.cons_append, List.nil_append, atI_0, atI_1, atI_2, atI_3, atI_4, ixN_0, ixN_1, ixN_2, ixN_3, ofString_inj, String.reduceEq, decide_true, decide_false, decide_not, beq_self_eq_true, Bool.not_true, Bool.not_false, Bool.false_eq_true, Bool.true_eq_false, if_true, if_false, ite_true, ite_false, beq_t, beq_f, true_and, and_true, not_true_eq_false, not_false_eq_true, forall_const, gup_get, eq_self, reduceCtorEq, reduceIte]
  refine k_dec (fun _ => kt _ ?_) (fun _ => kf _ ?_)
  · refine sRet_i ?_
    simp only [eOp, eUn, eVar, eC, eTest, eTru, rTru, eCa, aNil, aCons, eTup, eLst, rInt, rIxd, rAdd, rIntOf, rStrOf, rLen, rTupOf, rLstOf, rEq, rIsN, rNeg, rMin, rMax, eIf, bAnd, bOr, bNot, bYes, eMtL, eMtL0, rAppend, rPop, rExtend, rInsert, rReverse, rClear, eGet1, eGet2, rGet, isDic, gNm, gsNil, gsCons, gTp, gSb, rSet, eSl, rSl, oNone, oSome, iAny, iRg1, iRg2, eLc, eDc, dwipe, CT.put, setMany, sNext, sBreak, sCont, sRetN, sNever, keyD, kD, List.getElem?_cons_zero, List.getElem?_cons_succ, List.set_cons_zero, List.set_cons_succ, List.length_cons, List.length_nil, List.cons_append, List.nil_append, atI_0, atI_1, atI_2, atI_3, atI_4, ixN_0, ixN_1, ixN_2, ixN_3, ofString_inj, String.reduceEq, decide_true, decide_false, decide_not, beq_self_eq_true, Bool.not_true, Bool.not_false, Bool.false_eq_true, Bool.true_eq_false, if_true, if_false, ite_true, ite_false, beq_t, beq_f, true_and, and_true, not_true_eq_false, not_false_eq_true, forall_const, gup_get, eq_self, reduceCtorEq, reduceIte, hw']
    refine take_i d1.1 (by simp; omega) (by simp; omega) fun w G2 w0 w1 d2 => ?_
    simp only [List.length_map] at w1
    obtain ⟨j, rfl⟩ : ∃ j : Nat, w = j := ⟨w.toNat, by omega⟩
    have hj : j < words.length := by omega
    have hw2 : G2 wd = some (.lst (words.map D.str)) := d2.2 _ _ hwp hw'
    have e1 : atI (words.map D.str) (j : Int) = some (.str words[j]) := by rw [atI_of_nat, List.getElem?_map, List.getElem?_eq_getElem hj]; rfl
    simp only [eOp, eUn, eVar, eC, eTest, eTru, rTru, eCa, aNil, aCons, eTup, eLst, rInt, rIxd, rAdd, rIntOf, rStrOf, rLen, rTupOf, rLstOf, rEq, rIsN, rNeg, rMin, rMax, eIf, bAnd, bOr, bNot, bYes, eMtL, eMtL0, rAppend, rPop, rExtend, rInsert, rReverse, rClear, eGet1, eGet2, rGet, isDic, gNm, gsNil, gsCons, gTp, gSb, rSet, eSl, rSl, oNone, oSome, iAny, iRg1, iRg2, eLc, eDc, dwipe, CT.put, setMany, sNext, sBreak, sCont, sRetN, sNever, keyD, kD, List.getElem?_cons_zero, List.getElem?_cons_succ, List.set_cons_zero, List.set_cons_succ, List.length_cons, List.length_nil, List.cons_append, List.nil_append, atI_0, atI_1, atI_2, atI_3, atI_4, ixN_0, ixN_1, ixN_2, ixN_3, ofString_inj, String.reduceEq, decide_true, decide_false, decide_not, beq_self_eq_true, Bool.not_true, Bool.not_false, Bool.false_eq_true, Bool.true_eq_false, if_true, if_false, ite_true, ite_false, beq_t, beq_f, true_and, and_true, not_true_eq_false, not_false_eq_true, forall_const, gup_get, eq_self, reduceCtorEq, reduceIte, hw2, e1]
    refine ⟨by decide, ?_⟩
    have := q (.mv words[j]) G2 (List.getElem_mem hj) (d1.trans d2)
    simp only [Trm.toD] at this
    exact this
  refine qWhen_i fun k kt kf => ?_
  simp only [eOp, eUn, eVar, eC, eTest, eTru, rTru, eCa, aNil, aCons, eTup, eLst, rInt, rIxd, rAdd, rIntOf, rStrOf, rLen, rTupOf, rLstOf, rEq, rIsN, rNeg, rMin, rMax, eIf, bAnd, bOr, bNot, bYes, eMtL, eMtL0, rAppend, rPop, rExtend, rInsert, rReverse, rClear, eGet1, eGet2, rGet, isDic, gNm, gsNil, gsCons, gTp, gSb, rSet, eSl, rSl, oNone, oSome, iAny, iRg1, iRg2, eLc, eDc, dwipe, CT.put, setMany, sNext, sBreak, sCont, sRetN, sNever, keyD, kD, List.getElem?_cons_zero, List.getElem?_cons_succ, List.set_cons_zero, List.set_cons_succ, List.length_cons, List.length_nil, List.cons_append, List.nil_append, atI_0, atI_1, atI_2, atI_3, atI_4, ixN_0, ixN_1, ixN_2, ixN_3, ofString_inj, String.reduceEq, decide_true, decide_false, decide_not, beq_self_eq_true, Bool.not_true, Bool.not_false, Bool.false_eq_true, Bool.true_eq_false, if_true, if_false, ite_true, ite_false, beq_t, beq_f, true_and, and_true, not_true_eq_false, not_false_eq_true, forall_const, gup_get, eq_self, reduceCtorEq, reduceIte]
  refine k_dec (fun _ => kt _ ?_) (fun _ => kf _ ?_)
  · -- a map
    refine qSet_i fun k kn => ?_
    simp only [eOp, eUn, eVar, eC, eTest, eTru, rTru, eCa, aNil, aCons, eTup, eLst, rInt, rIxd, rAdd, rIntOf, rStrOf, rLen, rTupOf, rLstOf, rEq, rIsN, rNeg, rMin, rMax, eIf, bAnd, bOr, bNot, bYes, eMtL, eMtL0, rAppend, rPop, rExtend, rInsert, rReverse, rClear, eGet1, eGet2, rGet, isDic, gNm, gsNil, gsCons, gTp, gSb, rSet, eSl, rSl, oNone, oSome, iAny, iRg1, iRg2, eLc, eDc, dwipe, CT.put, setMany, sNext, sBreak, sCont, sRetN, sNever, keyD, kD, List.getElem?_cons_zero, List.getElem?_cons_succ, List.set_cons_zero, List.set_cons_succ, List.length_cons, List.length_nil, List.cons_append, List.nil_append, atI_0, atI_1, atI_2, atI_3, atI_4, ixN_0, ixN_1, ixN_2, ixN_3, ofString_inj, String.reduceEq, decide_true, decide_false, decide_not, beq_self_eq_true, Bool.not_true, Bool.not_false, Bool.false_eq_true, Bool.true_eq_false, if_true, if_false, ite_true, ite_false, beq_t, beq_f, true_and, and_true, not_true_eq_false, not_false_eq_true, forall_const, gup_get, eq_self, reduceCtorEq, reduceIte]
    refine ⟨⟨by decide, by decide⟩, ?_⟩
    refine lcL_rule (I := fun xs acc G => ∃ ns : List Str, acc = ns.map D.str ∧ (∀ w ∈ ns, okS w) ∧ (∀ x ∈ xs, ∃ j : Nat, j < 10 ∧ x = .int j) ∧ ns.length + xs.length ≤ 10 ∧ Dr p c G0 G) ?_ ?_ _ _ _ ⟨[], rfl, by simp, fun x hx => ?_, by rw [len_rngDs]; decide, d1⟩
    · rintro x xs acc G k ⟨ns, rfl, hok, hx, hl, hdr⟩ kk
      obtain ⟨j, hj, rfl⟩ := hx x List.mem_cons_self
      have hx' : ∀ x ∈ xs, ∃ j : Nat, j < 10 ∧ x = .int j := fun y hy => hx y (List.mem_cons_of_mem _ hy)
      simp only [List.length_cons] at hl
      refine ⟨trivial, _, rfl, ?_⟩
      simp only [eOp, eUn, eVar, eC, eTest, eTru, rTru, eCa, aNil, aCons, eTup, eLst, rInt, rIxd, rAdd, rIntOf, rStrOf, rLen, rTupOf, rLstOf, rEq, rIsN, rNeg, rMin, rMax, eIf, bAnd, bOr, bNot, bYes, eMtL, eMtL0, rAppend, rPop, rExtend, rInsert, rReverse, rClear, eGet1, eGet2, rGet, isDic, gNm, gsNil, gsCons, gTp, gSb, rSet, eSl, rSl, oNone, oSome, iAny, iRg1, iRg2, eLc, eDc, dwipe, CT.put, setMany, sNext, sBreak, sCont, sRetN, sNever, keyD, kD, List.getElem?_cons_zero, List.getElem?_cons_succ, List.set_cons_zero, List.set_cons_succ, List.length_cons, List.length_nil, List.cons_append, List.nil_append, atI_0, atI_1, atI_2, atI_3, atI_4, ixN_0, ixN_1, ixN_2, ixN_3, ofString_inj, String.reduceEq, decide_true, decide_false, decide_not, beq_self_eq_true, Bool.not_true, Bool.not_false, Bool.false_eq_true, Bool.true_eq_false, if_true, if_false, ite_true, ite_false, beq_t, beq_f, true_and, and_true, not_true_eq_false, not_false_eq_true, forall_const, gup_get, eq_self, reduceCtorEq, reduceIte, dwipe]
      refine take_i hdr.1 (by decide) (by decide) fun w G2 w0 w1 d2 => ?_
      simp only [eOp, eUn, eVar, eC, eTest, eTru, rTru, eCa, aNil, aCons, eTup, eLst, rInt, rIxd, rAdd, rIntOf, rStrOf, rLen, rTupOf, rLstOf, rEq, rIsN, rNeg, rMin, rMax, eIf, bAnd, bOr, bNot, bYes, eMtL, eMtL0, rAppend, rPop, rExtend, rInsert, rReverse, rClear, eGet1, eGet2, rGet, isDic, gNm, gsNil, gsCons, gTp, gSb, rSet, eSl, rSl, oNone, oSome, iAny, iRg1, iRg2, eLc, eDc, dwipe, CT.put, setMany, sNext, sBreak, sCont, sRetN, sNever, keyD, kD, List.getElem?_cons_zero, List.getElem?_cons_succ, List.set_cons_zero, List.set_cons_succ, List.length_cons, List.length_nil, List.cons_append, List.nil_append, atI_0, atI_1, atI_2, atI_3, atI_4, ixN_0, ixN_1, ixN_2, ixN_3, ofString_inj, String.reduceEq, decide_true, decide_false, decide_not, beq_self_eq_true, Bool.not_true, Bool.not_false, Bool.false_eq_true, Bool.true_eq_false, if_true, if_false, ite_true, ite_false, beq_t, beq_f, true_and, and_true, not_true_eq_false, not_false_eq_true, forall_const, gup_get, eq_self, reduceCtorEq, reduceIte]
      by_cases hw : w = 0
      · rw [decide_eq_true hw]
        simp only [eOp, eUn, eVar, eC, eTest, eTru, rTru, eCa, aNil, aCons, eTup, eLst, rInt, rIxd, rAdd, rIntOf, rStrOf, rLen, rTupOf, rLstOf, rEq, rIsN, rNeg, rMin, rMax, eIf, bAnd, bOr, bNot, bYes, eMtL, eMtL0, rAppend, rPop, rExtend, rInsert, rReverse, rClear, eGet1, eGet2, rGet, isDic, gNm, gsNil, gsCons, gTp, gSb, rSet, eSl, rSl, oNone, oSome, iAny, iRg1, iRg2, eLc, eDc, dwipe, CT.put, setMany, sNext, sBreak, sCont, sRetN, sNever, keyD, kD, List.getElem?_cons_zero, List.getElem?_cons_succ, List.set_cons_zero, List.set_cons_succ, List.length_cons, List.length_nil, List.cons_append, List.nil_append, atI_0, atI_1, atI_2, atI_3, atI_4, ixN_0, ixN_1, ixN_2, ixN_3, ofString_inj, String.reduceEq, decide_true, decide_false, decide_not, beq_self_eq_true, Bool.not_true, Bool.not_false, Bool.false_eq_true, Bool.true_eq_false, if_true, if_false, ite_true, ite_false, beq_t, beq_f, true_and, and_true, not_true_eq_false, not_false_eq_true, forall_const, gup_get, eq_self, reduceCtorEq, reduceIte]
        have hl' := len_int (i := (j : Int)) (by omega) (by omega)
        refine ⟨log2_small (by omega) (by omega), ?_, by simp; omega, ?_⟩
        · have : (Str.ofString "a").length = 1 := by decide +kernel
          omega
        refine kk _ _ ⟨ns ++ [Str.ofString "a" ++ Str.ofString (toString (j : Int))], by simp, ?_, hx', by simp; omega, hdr.trans d2⟩
        intro z hz
        rcases List.mem_append.mp hz with h' | h'
        · exact hok z h'
        · rw [List.mem_singleton.mp h']
          exact okS_app (okS_of _) (okS_of _)
      · rw [decide_eq_false hw]
        simp only [eOp, eUn, eVar, eC, eTest, eTru, rTru, eCa, aNil, aCons, eTup, eLst, rInt, rIxd, rAdd, rIntOf, rStrOf, rLen, rTupOf, rLstOf, rEq, rIsN, rNeg, rMin, rMax, eIf, bAnd, bOr, bNot, bYes, eMtL, eMtL0, rAppend, rPop, rExtend, rInsert, rReverse, rClear, eGet1, eGet2, rGet, isDic, gNm, gsNil, gsCons, gTp, gSb, rSet, eSl, rSl, oNone, oSome, iAny, iRg1, iRg2, eLc, eDc, dwipe, CT.put, setMany, sNext, sBreak, sCont, sRetN, sNever, keyD, kD, List.getElem?_cons_zero, List.getElem?_cons_succ, List.set_cons_zero, List.set_cons_succ, List.length_cons, List.length_nil, List.cons_append, List.nil_append, atI_0, atI_1, atI_2, atI_3, atI_4, ixN_0, ixN_1, ixN_2, ixN_3, ofString_inj, String.reduceEq, decide_true, decide_false, decide_not, beq_self_eq_true, Bool.not_true, Bool.not_false, Bool.false_eq_true, Bool.true_eq_false, if_true, if_false, ite_true, ite_false, beq_t, beq_f, true_and, and_true, not_true_eq_false, not_false_eq_true, forall_const, gup_get, eq_self, reduceCtorEq, reduceIte]
        exact kk _ _ ⟨ns, rfl, hok, hx', by omega, hdr.trans d2⟩
    · rintro acc G ⟨ns, rfl, hok, hx, hl, hdr⟩
      refine ⟨trivial, fun a ha => ?_⟩
      simp only [List.length_nil] at hl
      refine .inr (.inl ⟨a, ns, rfl, .inl gup_same, by omega, fun ns' b hp hs hb => kn _ _ ?_⟩)
      try dsimp only [List.set_cons_zero, List.set_cons_succ]
      refine sRet_i ?_
      have hnb : a ≠ b := ne_none gup_same hb
      simp only [eOp, eUn, eVar, eC, eTest, eTru, rTru, eCa, aNil, aCons, eTup, eLst, rInt, rIxd, rAdd, rIntOf, rStrOf, rLen, rTupOf, rLstOf, rEq, rIsN, rNeg, rMin, rMax, eIf, bAnd, bOr, bNot, bYes, eMtL, eMtL0, rAppend, rPop, rExtend, rInsert, rReverse, rClear, eGet1, eGet2, rGet, isDic, gNm, gsNil, gsCons, gTp, gSb, rSet, eSl, rSl, oNone, oSome, iAny, iRg1, iRg2, eLc, eDc, dwipe, CT.put, setMany, sNext, sBreak, sCont, sRetN, sNever, keyD, kD, List.getElem?_cons_zero, List.getElem?_cons_succ, List.set_cons_zero, List.set_cons_succ, List.length_cons, List.length_nil, List.cons_append, List.nil_append, atI_0, atI_1, atI_2, atI_3, atI_4, ixN_0, ixN_1, ixN_2, ixN_3, ofString_inj, String.reduceEq, decide_true, decide_false, decide_not, beq_self_eq_true, Bool.not_true, Bool.not_false, Bool.false_eq_true, Bool.true_eq_false, if_true, if_false, ite_true, ite_false, beq_t, beq_f, true_and, and_true, not_true_eq_false, not_false_eq_true, forall_const, gup_get, eq_self, reduceCtorEq, reduceIte]
      have hdr2 : Dr p c G0 (gup (gup G a (.lst (ns.map D.str))) b (.lst (ns'.map D.str))) := hdr.ext ((Ext.new ha).trans (Ext.new hb))
      have hl' : ns'.length ≤ 10 := by rw [hp.length_eq]; omega
      have hbp : b ≠ p := fun e => (PoolAt.nep (h := hdr.1.ext (Ext.new ha)) hb).1 e.symm
      refine lcL_rule (I := fun xs acc G => ∃ (ys : List Str) (es : List (Str × Trm)), xs = ys.map D.str ∧ acc = Trm.esD es ∧ (∀ w ∈ ys, okS w) ∧ (∀ e ∈ es, okS e.1 ∧ Trm.fine (· ∈ words) m e.2) ∧ es.length + ys.length ≤ 10 ∧ Dr p c G0 G ∧ G b = some (.lst (ns'.map D.str)) ∧ G wd = some (.lst (words.map D.str))) ?_ ?_ _ _ _ ⟨ns', [], rfl, rfl, fun w hw => hok w (hp.mem_iff.mp hw), by simp, by simp; omega, hdr2, gup_same, hdr2.2 _ _ hwp (by assumption)⟩
      · rintro x xs acc G k ⟨ys, es, hxs, rfl, hoky, hfe, hl, hdr, hGb, hGw⟩ kk
        refine ⟨.inl hGb, ?_⟩
        cases ys with
        | nil => cases hxs
        | cons y ys =>
        simp only [List.map_cons, List.cons.injEq] at hxs
        obtain ⟨rfl, rfl⟩ := hxs
        simp only [List.length_cons] at hl
        refine ⟨_, rfl, ?_⟩
        simp only [eOp, eUn, eVar, eC, eTest, eTru, rTru, eCa, aNil, aCons, eTup, eLst, rInt, rIxd, rAdd, rIntOf, rStrOf, rLen, rTupOf, rLstOf, rEq, rIsN, rNeg, rMin, rMax, eIf, bAnd, bOr, bNot, bYes, eMtL, eMtL0, rAppend, rPop, rExtend, rInsert, rReverse, rClear, eGet1, eGet2, rGet, isDic, gNm, gsNil, gsCons, gTp, gSb, rSet, eSl, rSl, oNone, oSome, iAny, iRg1, iRg2, eLc, eDc, dwipe, CT.put, setMany, sNext, sBreak, sCont, sRetN, sNever, keyD, kD, List.getElem?_cons_zero, List.getElem?_cons_succ, List.set_cons_zero, List.set_cons_succ, List.length_cons, List.length_nil, List.cons_append, List.nil_append, atI_0, atI_1, atI_2, atI_3, atI_4, ixN_0, ixN_1, ixN_2, ixN_3, ofString_inj, String.reduceEq, decide_true, decide_false, decide_not, beq_self_eq_true, Bool.not_true, Bool.not_false, Bool.false_eq_true, Bool.true_eq_false, if_true, if_false, ite_true, ite_false, beq_t, beq_f, true_and, and_true, not_true_eq_false, not_false_eq_true, forall_const, gup_get, eq_self, reduceCtorEq, reduceIte, dwipe]
        refine ⟨p, c, wd, words, _, rfl, hdr.1, hGw, hw0, hw1, hwp, by omega, fun t G2 ht d2 => ?_⟩
        have el : (Trm.esD es).length = es.length := by rw [esD_map, List.length_map]
        refine ⟨by decide, by rw [el]; omega, kk _ _ ⟨ys, es ++ [(y, t)], rfl, by simp [esD_map], fun w hw => hoky w (List.mem_cons_of_mem _ hw), ?_, by simp; omega, hdr.trans d2, d2.2 _ _ hbp hGb, d2.2 _ _ hwp hGw⟩⟩
        intro e he
        rcases List.mem_append.mp he with h' | h'
        · exact hfe e h'
        · rw [List.mem_singleton.mp h']
          exact ⟨hoky y List.mem_cons_self, ht⟩
      · rintro acc G ⟨ys, es, hxs, rfl, hoky, hfe, hl, hdr, hGb, hGw⟩
        refine ⟨.inl hGb, fun e he => ?_⟩
        refine ⟨by decide, ?_⟩
        have := q (.map es) (gup G e (.lst (Trm.esD es))) ⟨by omega, hfe⟩ (hdr.ext (Ext.new he))
        simp only [Trm.toD] at this
        exact this
    · obtain ⟨j, hj, rfl⟩ := mem_rngDs hx
      exact ⟨j, hj, rfl⟩
  · -- a node
    refine qSet_i fun k kn => ?_
    simp only [eOp, eUn, eVar, eC, eTest, eTru, rTru, eCa, aNil, aCons, eTup, eLst, rInt, rIxd, rAdd, rIntOf, rStrOf, rLen, rTupOf, rLstOf, rEq, rIsN, rNeg, rMin, rMax, eIf, bAnd, bOr, bNot, bYes, eMtL, eMtL0, rAppend, rPop, rExtend, rInsert, rReverse, rClear, eGet1, eGet2, rGet, isDic, gNm, gsNil, gsCons, gTp, gSb, rSet, eSl, rSl, oNone, oSome, iAny, iRg1, iRg2, eLc, eDc, dwipe, CT.put, setMany, sNext, sBreak, sCont, sRetN, sNever, keyD, kD, List.getElem?_cons_zero, List.getElem?_cons_succ, List.set_cons_zero, List.set_cons_succ, List.length_cons, List.length_nil, List.cons_append, List.nil_append, atI_0, atI_1, atI_2, atI_3, atI_4, ixN_0, ixN_1, ixN_2, ixN_3, ofString_inj, String.reduceEq, decide_true, decide_false, decide_not, beq_self_eq_true, Bool.not_true, Bool.not_false, Bool.false_eq_true, Bool.true_eq_false, if_true, if_false, ite_true, ite_false, beq_t, beq_f, true_and, and_true, not_true_eq_false, not_false_eq_true, forall_const, gup_get, eq_self, reduceCtorEq, reduceIte]
    refine take_i d1.1 (by decide) (by decide) fun w G2 w0 w1 d2 => kn _ _ ?_
    try dsimp only [List.set_cons_zero, List.set_cons_succ]
    refine sRet_i ?_
    simp only [eOp, eUn, eVar, eC, eTest, eTru, rTru, eCa, aNil, aCons, eTup, eLst, rInt, rIxd, rAdd, rIntOf, rStrOf, rLen, rTupOf, rLstOf, rEq, rIsN, rNeg, rMin, rMax, eIf, bAnd, bOr, bNot, bYes, eMtL, eMtL0, rAppend, rPop, rExtend, rInsert, rReverse, rClear, eGet1, eGet2, rGet, isDic, gNm, gsNil, gsCons, gTp, gSb, rSet, eSl, rSl, oNone, oSome, iAny, iRg1, iRg2, eLc, eDc, dwipe, CT.put, setMany, sNext, sBreak, sCont, sRetN, sNever, keyD, kD, List.getElem?_cons_zero, List.getElem?_cons_succ, List.set_cons_zero, List.set_cons_succ, List.length_cons, List.length_nil, List.cons_append, List.nil_append, atI_0, atI_1, atI_2, atI_3, atI_4, ixN_0, ixN_1, ixN_2, ixN_3, ofString_inj, String.reduceEq, decide_true, decide_false, decide_not, beq_self_eq_true, Bool.not_true, Bool.not_false, Bool.false_eq_true, Bool.true_eq_false, if_true, if_false, ite_true, ite_false, beq_t, beq_f, true_and, and_true, not_true_eq_false, not_false_eq_true, forall_const, gup_get, eq_self, reduceCtorEq, reduceIte]
    have hl' := len_int w0 (by omega)
    refine ⟨log2_small w0 (by omega), ?_, ⟨by omega, by omega⟩, ?_⟩
    · have : (Str.ofString "c").length = 1 := by decide +kernel
      omega
    have hdr2 := d1.trans d2
    refine lcL_rule (I := fun xs acc G => ∃ ts : List Trm, acc = Trm.tsD ts ∧ (∀ t ∈ ts, Trm.fine (· ∈ words) m t) ∧ (∀ x ∈ xs, ∃ j : Nat, j < 3 ∧ x = .int j) ∧ ts.length + xs.length ≤ 3 ∧ Dr p c G0 G ∧ G wd = some (.lst (words.map D.str))) ?_ ?_ _ _ _ ⟨[], rfl, by simp, fun x hx => ?_, by rw [len_rngDs]; simp; omega, hdr2, hdr2.2 _ _ hwp (by assumption)⟩
    · rintro x xs acc G k ⟨ts, rfl, hft, hx, hl, hdr, hGw⟩ kk
      obtain ⟨j, hj, rfl⟩ := hx x List.mem_cons_self
      simp only [List.length_cons] at hl
      refine ⟨trivial, _, rfl, ?_⟩
      simp only [eOp, eUn, eVar, eC, eTest, eTru, rTru, eCa, aNil, aCons, eTup, eLst, rInt, rIxd, rAdd, rIntOf, rStrOf, rLen, rTupOf, rLstOf, rEq, rIsN, rNeg, rMin, rMax, eIf, bAnd, bOr, bNot, bYes, eMtL, eMtL0, rAppend, rPop, rExtend, rInsert, rReverse, rClear, eGet1, eGet2, rGet, isDic, gNm, gsNil, gsCons, gTp, gSb, rSet, eSl, rSl, oNone, oSome, iAny, iRg1, iRg2, eLc, eDc, dwipe, CT.put, setMany, sNext, sBreak, sCont, sRetN, sNever, keyD, kD, List.getElem?_cons_zero, List.getElem?_cons_succ, List.set_cons_zero, List.set_cons_succ, List.length_cons, List.length_nil, List.cons_append, List.nil_append, atI_0, atI_1, atI_2, atI_3, atI_4, ixN_0, ixN_1, ixN_2, ixN_3, ofString_inj, String.reduceEq, decide_true, decide_false, decide_not, beq_self_eq_true, Bool.not_true, Bool.not_false, Bool.false_eq_true, Bool.true_eq_false, if_true, if_false, ite_true, ite_false, beq_t, beq_f, true_and, and_true, not_true_eq_false, not_false_eq_true, forall_const, gup_get, eq_self, reduceCtorEq, reduceIte, dwipe]
      refine ⟨p, c, wd, words, _, rfl, hdr.1, hGw, hw0, hw1, hwp, by omega, fun t G2 ht d2 => ?_⟩
      have el : (Trm.tsD ts).length = ts.length := by rw [tsD_map, List.length_map]
      refine ⟨by rw [el]; omega, kk _ _ ⟨ts ++ [t], by simp [tsD_map], ?_, fun y hy => hx y (List.mem_cons_of_mem _ hy), by simp; omega, hdr.trans d2, d2.2 _ _ hwp hGw⟩⟩
      intro e he
      rcases List.mem_append.mp he with h' | h'
      · exact hft e h'
      · rw [List.mem_singleton.mp h']
        exact ht
    · rintro acc G ⟨ts, rfl, hft, hx, hl, hdr, hGw⟩
      refine ⟨trivial, fun e he => ?_⟩
      refine ⟨by decide, ?_⟩
      have := q (.node (Str.ofString "c" ++ Str.ofString (toString w)) ts) (gup G e (.lst (Trm.tsD ts))) ⟨okS_app (okS_of _) (okS_of _), by simp only [List.length_nil] at hl; omega, hft⟩ (hdr.ext (Ext.new he))
      simp only [Trm.toD] at this
      exact this
    · obtain ⟨j, hj, rfl⟩ := mem_rngDs hx
      exact ⟨j, by omega, rfl⟩
end Dn.My

namespace Dn.My
open PySem PySem.Spec PyProof.Rows L2 Dn

/-! ### due -/
def sp__law_due (n : Nat) : DSp := fun ds G Q => ∃ (t : Trm) (tb : Addr) (T : Str → Sy) (p : Str → Prop), ds = [t.toD, .ref tb] ∧ t.fine p n ∧ Tab G tb T p ∧ ∀ G', Ext G G' → Q (due T t).toD G'
theorem sem__law_due {n : Nat} {sp : DSp} (hsp : ∀ m, n = m + 1 → sp = sp__law_due m) {E : DEnds} {G0 : GP} {t : Trm} {tb : Addr} {T : Str → Sy} {p : Str → Prop} (hf : t.fine p n) (tab : Tab G0 tb T p) (q : ∀ G', Ext G0 G' → E.rt (due T t).toD G') :
    rd__law_due sp E (dstart n__law_due [t.toD, .ref tb]) G0 := by
  show rd__law_due sp E [some t.toD, some (.ref tb), none, none] G0
  unfold rd__law_due
  have hsz := sizeLine_eq
  refine qWhen_i fun k kt kf => ?_
  cases t with
  | int i =>
    simp only [eOp, eUn, eVar, eC, eTest, eTru, rTru, eCa, aNil, aCons, eTup, eLst, rInt, rIxd, rAdd, rIntOf, rStrOf, rLen, rTupOf, rLstOf, rEq, rIsN, rNeg, rMin, rMax, eIf, bAnd, bOr, bNot, bYes, eMtL, eMtL0, rAppend, rPop, rExtend, rInsert, rReverse, rClear, eGet1, eGet2, rGet, isDic, gNm, gsNil, gsCons, gTp, gSb, rSet, eSl, rSl, oNone, oSome, iAny, iRg1, iRg2, eLc, eDc, dwipe, CT.put, setMany, sNext, sBreak, sCont, sRetN, sNever, keyD, kD, List.getElem?_cons_zero, List.getElem?_cons_succ, List.set_cons_zero, List.set_cons_succ, List.length_cons, List.length_nil, List.cons_append, List.nil_append, atI_0, atI_1, atI_2, atI_3, atI_4, ixN_0, ixN_1, ixN_2, ixN_3, ofString_inj, String.reduceEq, decide_true, decide_false, decide_not, beq_self_eq_true, Bool.not_true, Bool.not_false, Bool.false_eq_true, Bool.true_eq_false, if_true, if_false, ite_true, ite_false, beq_t, beq_f, true_and, and_true, not_true_eq_false, not_false_eq_true, forall_const, gup_get, eq_self, reduceCtorEq, reduceIte, Trm.toD]
    refine kt _ (sRet_i ?_)
    simp only [eOp, eUn, eVar, eC, eTest, eTru, rTru, eCa, aNil, aCons, eTup, eLst, rInt, rIxd, rAdd, rIntOf, rStrOf, rLen, rTupOf, rLstOf, rEq, rIsN, rNeg, rMin, rMax, eIf, bAnd, bOr, bNot, bYes, eMtL, eMtL0, rAppend, rPop, rExtend, rInsert, rReverse, rClear, eGet1, eGet2, rGet, isDic, gNm, gsNil, gsCons, gTp, gSb, rSet, eSl, rSl, oNone, oSome, iAny, iRg1, iRg2, eLc, eDc, dwipe, CT.put, setMany, sNext, sBreak, sCont, sRetN, sNever, keyD, kD, List.getElem?_cons_zero, List.getElem?_cons_succ, List.set_cons_zero, List.set_cons_succ, List.length_cons, List.length_nil, List.cons_append, List.nil_append, atI_0, atI_1, atI_2, atI_3, atI_4, ixN_0, ixN_1, ixN_2, ixN_3, ofString_inj, String.reduceEq, decide_true, decide_false, decide_not, beq_self_eq_true, Bool.not_true, Bool.not_false, Bool.false_eq_true, Bool.true_eq_false, if_true, if_false, ite_true, ite_false, beq_t, beq_f, true_and, and_true, not_true_eq_false, not_false_eq_true, forall_const, gup_get, eq_self, reduceCtorEq, reduceIte, Trm.toD]
    refine ⟨by decide, by decide, ?_⟩
    have := q G0 .refl
    simp only [due, Sy.toD] at this
    exact this
  | name w =>
    simp only [eOp, eUn, eVar, eC, eTest, eTru, rTru, eCa, aNil, aCons, eTup, eLst, rInt, rIxd, rAdd, rIntOf, rStrOf, rLen, rTupOf, rLstOf, rEq, rIsN, rNeg, rMin, rMax, eIf, bAnd, bOr, bNot, bYes, eMtL, eMtL0, rAppend, rPop, rExtend, rInsert, rReverse, rClear, eGet1, eGet2, rGet, isDic, gNm, gsNil, gsCons, gTp, gSb, rSet, eSl, rSl, oNone, oSome, iAny, iRg1, iRg2, eLc, eDc, dwipe, CT.put, setMany, sNext, sBreak, sCont, sRetN, sNever, keyD, kD, List.getElem?_cons_zero, List.getElem?_cons_succ, List.set_cons_zero, List.set_cons_succ, List.length_cons, List.length_nil, List.cons_append, List.nil_append, atI_0, atI_1, atI_2, atI_3, atI_4, ixN_0, ixN_1, ixN_2, ixN_3, ofString_inj, String.reduceEq, decide_true, decide_false, decide_not, beq_self_eq_true, Bool.not_true, Bool.not_false, Bool.false_eq_true, Bool.true_eq_false, if_true, if_false, ite_true, ite_false, beq_t, beq_f, true_and, and_true, not_true_eq_false, not_false_eq_true, forall_const, gup_get, eq_self, reduceCtorEq, reduceIte, Trm.toD]
    refine kf _ (qWhen_i fun k kt kf => ?_)
    simp only [eOp, eUn, eVar, eC, eTest, eTru, rTru, eCa, aNil, aCons, eTup, eLst, rInt, rIxd, rAdd, rIntOf, rStrOf, rLen, rTupOf, rLstOf, rEq, rIsN, rNeg, rMin, rMax, eIf, bAnd, bOr, bNot, bYes, eMtL, eMtL0, rAppend, rPop, rExtend, rInsert, rReverse, rClear, eGet1, eGet2, rGet, isDic, gNm, gsNil, gsCons, gTp, gSb, rSet, eSl, rSl, oNone, oSome, iAny, iRg1, iRg2, eLc, eDc, dwipe, CT.put, setMany, sNext, sBreak, sCont, sRetN, sNever, keyD, kD, List.getElem?_cons_zero, List.getElem?_cons_succ, List.set_cons_zero, List.set_cons_succ, List.length_cons, List.length_nil, List.cons_append, List.nil_append, atI_0, atI_1, atI_2, atI_3, atI_4, ixN_0, ixN_1, ixN_2, ixN_3, ofString_inj, String.reduceEq, decide_true, decide_false, decide_not, beq_self_eq_true, Bool.not_true, Bool.not_false, Bool.false_eq_true, Bool.true_eq_false, if_true, if_false, ite_true, ite_false, beq_t, beq_f, true_and, and_true, not_true_eq_false, not_false_eq_true, forall_const, gup_get, eq_self, reduceCtorEq, reduceIte, Trm.toD]
    refine kf _ (qWhen_i fun k kt kf => ?_)
    simp only [eOp, eUn, eVar, eC, eTest, eTru, rTru, eCa, aNil, aCons, eTup, eLst, rInt, rIxd, rAdd, rIntOf, rStrOf, rLen, rTupOf, rLstOf, rEq, rIsN, rNeg, rMin, rMax, eIf, bAnd, bOr, bNot, bYes, eMtL, eMtL0, rAppend, rPop, rExtend, rInsert, rReverse, rClear, eGet1, eGet2, rGet, isDic, gNm, gsNil, gsCons, gTp, gSb, rSet, eSl, rSl, oNone, oSome, iAny, iRg1, iRg2, eLc, eDc, dwipe, CT.put, setMany, sNext, sBreak, sCont, sRetN, sNever, keyD, kD, List.getElem?_cons_zero, List.getElem?_cons_succ, List.set_cons_zero, List.set_cons_succ, List.length_cons, List.length_nil, List.cons_append, List.nil_append, atI_0, atI_1, atI_2, atI_3, atI_4, ixN_0, ixN_1, ixN_2, ixN_3, ofString_inj, String.reduceEq, decide_true, decide_false, decide_not, beq_self_eq_true, Bool.not_true, Bool.not_false, Bool.false_eq_true, Bool.true_eq_false, if_true, if_false, ite_true, ite_false, beq_t, beq_f, true_and, and_true, not_true_eq_false, not_false_eq_true, forall_const, gup_get, eq_self, reduceCtorEq, reduceIte, Trm.toD]
    refine kf _ (qWhen_i fun k kt kf => ?_)
    simp only [eOp, eUn, eVar, eC, eTest, eTru, rTru, eCa, aNil, aCons, eTup, eLst, rInt, rIxd, rAdd, rIntOf, rStrOf, rLen, rTupOf, rLstOf, rEq, rIsN, rNeg, rMin, rMax, eIf, bAnd, bOr, bNot, bYes, eMtL, eMtL0, rAppend, rPop, rExtend, rInsert, rReverse, rClear, eGet1, eGet2, rGet, isDic, gNm, gsNil, gsCons, gTp, gSb, rSet, eSl, rSl, oNone, oSome, iAny, iRg1, iRg2, eLc, eDc, dwipe, CT.put, setMany, sNext, sBreak, sCont, sRetN, sNever, keyD, kD, List.getElem?_cons_zero, List.getElem?_cons_succ, List.set_cons_zero, List.set_cons_succ, List.length_cons, List.length_nil, List.cons_append, List.nil_append, atI_0, atI_1, atI_2, atI_3, atI_4, ixN_0, ixN_1, ixN_2, ixN_3, ofString_inj, String.reduceEq, decide_true, decide_false, decide_not, beq_self_eq_true, Bool.not_true, Bool.not_false, Bool.false_eq_true, Bool.true_eq_false, if_true, if_false, ite_true, ite_false, beq_t, beq_f, true_and, and_true, not_true_eq_false, not_false_eq_true, forall_const, gup_get, eq_self, reduceCtorEq, reduceIte, Trm.toD]
    refine kf _ (sRet_i ?_)
    simp only [eOp, eUn, eVar, eC, eTest, eTru, rTru, eCa, aNil, aCons, eTup, eLst, rInt, rIxd, rAdd, rIntOf, rStrOf, rLen, rTupOf, rLstOf, rEq, rIsN, rNeg, rMin, rMax, eIf, bAnd, bOr, bNot, bYes, eMtL, eMtL0, rAppend, rPop, rExtend, rInsert, rReverse, rClear, eGet1, eGet2, rGet, isDic, gNm, gsNil, gsCons, gTp, gSb, rSet, eSl, rSl, oNone, oSome, iAny, iRg1, iRg2, eLc, eDc, dwipe, CT.put, setMany, sNext, sBreak, sCont, sRetN, sNever, keyD, kD, List.getElem?_cons_zero, List.getElem?_cons_succ, List.set_cons_zero, List.set_cons_succ, List.length_cons, List.length_nil, List.cons_append, List.nil_append, atI_0, atI_1, atI_2, atI_3, atI_4, ixN_0, ixN_1, ixN_2, ixN_3, ofString_inj, String.reduceEq, decide_true, decide_false, decide_not, beq_self_eq_true, Bool.not_true, Bool.not_false, Bool.false_eq_true, Bool.true_eq_false, if_true, if_false, ite_true, ite_false, beq_t, beq_f, true_and, and_true, not_true_eq_false, not_false_eq_true, forall_const, gup_get, eq_self, reduceCtorEq, reduceIte]
    have := q G0 .refl
    simp only [due, Sy.toD] at this
    simp only [Trm.toD]
    exact this
  | addr w =>
    simp only [eOp, eUn, eVar, eC, eTest, eTru, rTru, eCa, aNil, aCons, eTup, eLst, rInt, rIxd, rAdd, rIntOf, rStrOf, rLen, rTupOf, rLstOf, rEq, rIsN, rNeg, rMin, rMax, eIf, bAnd, bOr, bNot, bYes, eMtL, eMtL0, rAppend, rPop, rExtend, rInsert, rReverse, rClear, eGet1, eGet2, rGet, isDic, gNm, gsNil, gsCons, gTp, gSb, rSet, eSl, rSl, oNone, oSome, iAny, iRg1, iRg2, eLc, eDc, dwipe, CT.put, setMany, sNext, sBreak, sCont, sRetN, sNever, keyD, kD, List.getElem?_cons_zero, List.getElem?_cons_succ, List.set_cons_zero, List.set_cons_succ, List.length_cons, List.length_nil, List.cons_append, List.nil_append, atI_0, atI_1, atI_2, atI_3, atI_4, ixN_0, ixN_1, ixN_2, ixN_3, ofString_inj, String.reduceEq, decide_true, decide_false, decide_not, beq_self_eq_true, Bool.not_true, Bool.not_false, Bool.false_eq_true, Bool.true_eq_false, if_true, if_false, ite_true, ite_false, beq_t, beq_f, true_and, and_true, not_true_eq_false, not_false_eq_true, forall_const, gup_get, eq_self, reduceCtorEq, reduceIte, Trm.toD]
    refine kf _ (qWhen_i fun k kt kf => ?_)
    simp only [eOp, eUn, eVar, eC, eTest, eTru, rTru, eCa, aNil, aCons, eTup, eLst, rInt, rIxd, rAdd, rIntOf, rStrOf, rLen, rTupOf, rLstOf, rEq, rIsN, rNeg, rMin, rMax, eIf, bAnd, bOr, bNot, bYes, eMtL, eMtL0, rAppend, rPop, rExtend, rInsert, rReverse, rClear, eGet1, eGet2, rGet, isDic, gNm, gsNil, gsCons, gTp, gSb, rSet, eSl, rSl, oNone, oSome, iAny, iRg1, iRg2, eLc, eDc, dwipe, CT.put, setMany, sNext, sBreak, sCont, sRetN, sNever, keyD, kD, List.getElem?_cons_zero, List.getElem?_cons_succ, List.set_cons_zero, List.set_cons_succ, List.length_cons, List.length_nil, List.cons_append, List.nil_append, atI_0, atI_1, atI_2, atI_3, atI_4, ixN_0, ixN_1, ixN_2, ixN_3, ofString_inj, String.reduceEq, decide_true, decide_false, decide_not, beq_self_eq_true, Bool.not_true, Bool.not_false, Bool.false_eq_true, Bool.true_eq_false, if_true, if_false, ite_true, ite_false, beq_t, beq_f, true_and, and_true, not_true_eq_false, not_false_eq_true, forall_const, gup_get, eq_self, reduceCtorEq, reduceIte, Trm.toD]
    refine kf _ (qWhen_i fun k kt kf => ?_)
    simp only [eOp, eUn, eVar, eC, eTest, eTru, rTru, eCa, aNil, aCons, eTup, eLst, rInt, rIxd, rAdd, rIntOf, rStrOf, rLen, rTupOf, rLstOf, rEq, rIsN, rNeg, rMin, rMax, eIf, bAnd, bOr, bNot, bYes, eMtL, eMtL0, rAppend, rPop, rExtend, rInsert, rReverse, rClear, eGet1, eGet2, rGet, isDic, gNm, gsNil, gsCons, gTp, gSb, rSet, eSl, rSl, oNone, oSome, iAny, iRg1, iRg2, eLc, eDc, dwipe, CT.put, setMany, sNext, sBreak, sCont, sRetN, sNever, keyD, kD, List.getElem?_cons_zero, List.getElem?_cons_succ, List.set_cons_zero, List.set_cons_succ, List.length_cons, List.length_nil, List.cons_append, List.nil_append, atI_0, atI_1, atI_2, atI_3, atI_4, ixN_0, ixN_1, ixN_2, ixN_3, ofString_inj, String.reduceEq, decide_true, decide_false, decide_not, beq_self_eq_true, Bool.not_true, Bool.not_false, Bool.false_eq_true, Bool.true_eq_false, if_true, if_false, ite_true, ite_false, beq_t, beq_f, true_and, and_true, not_true_eq_false, not_false_eq_true, forall_const, gup_get, eq_self, reduceCtorEq, reduceIte, Trm.toD]
    refine kf _ (qWhen_i fun k kt kf => ?_)
    simp only [eOp, eUn, eVar, eC, eTest, eTru, rTru, eCa, aNil, aCons, eTup, eLst, rInt, rIxd, rAdd, rIntOf, rStrOf, rLen, rTupOf, rLstOf, rEq, rIsN, rNeg, rMin, rMax, eIf, bAnd, bOr, bNot, bYes, eMtL, eMtL0, rAppend, rPop, rExtend, rInsert, rReverse, rClear, eGet1, eGet2, rGet, isDic, gNm, gsNil, gsCons, gTp, gSb, rSet, eSl, rSl, oNone, oSome, iAny, iRg1, iRg2, eLc, eDc, dwipe, CT.put, setMany, sNext, sBreak, sCont, sRetN, sNever, keyD, kD, List.getElem?_cons_zero, List.getElem?_cons_succ, List.set_cons_zero, List.set_cons_succ, List.length_cons, List.length_nil, List.cons_append, List.nil_append, atI_0, atI_1, atI_2, atI_3, atI_4, ixN_0, ixN_1, ixN_2, ixN_3, ofString_inj, String.reduceEq, decide_true, decide_false, decide_not, beq_self_eq_true, Bool.not_true, Bool.not_false, Bool.false_eq_true, Bool.true_eq_false, if_true, if_false, ite_true, ite_false, beq_t, beq_f, true_and, and_true, not_true_eq_false, not_false_eq_true, forall_const, gup_get, eq_self, reduceCtorEq, reduceIte, Trm.toD]
    refine kf _ (sRet_i ?_)
    simp only [eOp, eUn, eVar, eC, eTest, eTru, rTru, eCa, aNil, aCons, eTup, eLst, rInt, rIxd, rAdd, rIntOf, rStrOf, rLen, rTupOf, rLstOf, rEq, rIsN, rNeg, rMin, rMax, eIf, bAnd, bOr, bNot, bYes, eMtL, eMtL0, rAppend, rPop, rExtend, rInsert, rReverse, rClear, eGet1, eGet2, rGet, isDic, gNm, gsNil, gsCons, gTp, gSb, rSet, eSl, rSl, oNone, oSome, iAny, iRg1, iRg2, eLc, eDc, dwipe, CT.put, setMany, sNext, sBreak, sCont, sRetN, sNever, keyD, kD, List.getElem?_cons_zero, List.getElem?_cons_succ, List.set_cons_zero, List.set_cons_succ, List.length_cons, List.length_nil, List.cons_append, List.nil_append, atI_0, atI_1, atI_2, atI_3, atI_4, ixN_0, ixN_1, ixN_2, ixN_3, ofString_inj, String.reduceEq, decide_true, decide_false, decide_not, beq_self_eq_true, Bool.not_true, Bool.not_false, Bool.false_eq_true, Bool.true_eq_false, if_true, if_false, ite_true, ite_false, beq_t, beq_f, true_and, and_true, not_true_eq_false, not_false_eq_true, forall_const, gup_get, eq_self, reduceCtorEq, reduceIte]
    have := q G0 .refl
    simp only [due, Sy.toD] at this
    simp only [Trm.toD]
    exact this
  | mv w =>
    obtain ⟨kvs, h1, h2⟩ := tab
    have ha : p w := fine_all hf
    simp only [eOp, eUn, eVar, eC, eTest, eTru, rTru, eCa, aNil, aCons, eTup, eLst, rInt, rIxd, rAdd, rIntOf, rStrOf, rLen, rTupOf, rLstOf, rEq, rIsN, rNeg, rMin, rMax, eIf, bAnd, bOr, bNot, bYes, eMtL, eMtL0, rAppend, rPop, rExtend, rInsert, rReverse, rClear, eGet1, eGet2, rGet, isDic, gNm, gsNil, gsCons, gTp, gSb, rSet, eSl, rSl, oNone, oSome, iAny, iRg1, iRg2, eLc, eDc, dwipe, CT.put, setMany, sNext, sBreak, sCont, sRetN, sNever, keyD, kD, List.getElem?_cons_zero, List.getElem?_cons_succ, List.set_cons_zero, List.set_cons_succ, List.length_cons, List.length_nil, List.cons_append, List.nil_append, atI_0, atI_1, atI_2, atI_3, atI_4, ixN_0, ixN_1, ixN_2, ixN_3, ofString_inj, String.reduceEq, decide_true, decide_false, decide_not, beq_self_eq_true, Bool.not_true, Bool.not_false, Bool.false_eq_true, Bool.true_eq_false, if_true, if_false, ite_true, ite_false, beq_t, beq_f, true_and, and_true, not_true_eq_false, not_false_eq_true, forall_const, gup_get, eq_self, reduceCtorEq, reduceIte, Trm.toD]
    refine kf _ (qWhen_i fun k kt kf => ?_)
    simp only [eOp, eUn, eVar, eC, eTest, eTru, rTru, eCa, aNil, aCons, eTup, eLst, rInt, rIxd, rAdd, rIntOf, rStrOf, rLen, rTupOf, rLstOf, rEq, rIsN, rNeg, rMin, rMax, eIf, bAnd, bOr, bNot, bYes, eMtL, eMtL0, rAppend, rPop, rExtend, rInsert, rReverse, rClear, eGet1, eGet2, rGet, isDic, gNm, gsNil, gsCons, gTp, gSb, rSet, eSl, rSl, oNone, oSome, iAny, iRg1, iRg2, eLc, eDc, dwipe, CT.put, setMany, sNext, sBreak, sCont, sRetN, sNever, keyD, kD, List.getElem?_cons_zero, List.getElem?_cons_succ, List.set_cons_zero, List.set_cons_succ, List.length_cons, List.length_nil, List.cons_append, List.nil_append, atI_0, atI_1, atI_2, atI_3, atI_4, ixN_0, ixN_1, ixN_2, ixN_3, ofString_inj, String.reduceEq, decide_true, decide_false, decide_not, beq_self_eq_true, Bool.not_true, Bool.not_false, Bool.false_eq_true, Bool.true_eq_false, if_true, if_false, ite_true, ite_false, beq_t, beq_f, true_and, and_true, not_true_eq_false, not_false_eq_true, forall_const, gup_get, eq_self, reduceCtorEq, reduceIte, Trm.toD]
    refine kt _ (sRet_i ?_)
    simp only [eOp, eUn, eVar, eC, eTest, eTru, rTru, eCa, aNil, aCons, eTup, eLst, rInt, rIxd, rAdd, rIntOf, rStrOf, rLen, rTupOf, rLstOf, rEq, rIsN, rNeg, rMin, rMax, eIf, bAnd, bOr, bNot, bYes, eMtL, eMtL0, rAppend, rPop, rExtend, rInsert, rReverse, rClear, eGet1, eGet2, rGet, isDic, gNm, gsNil, gsCons, gTp, gSb, rSet, eSl, rSl, oNone, oSome, iAny, iRg1, iRg2, eLc, eDc, dwipe, CT.put, setMany, sNext, sBreak, sCont, sRetN, sNever, keyD, kD, List.getElem?_cons_zero, List.getElem?_cons_succ, List.set_cons_zero, List.set_cons_succ, List.length_cons, List.length_nil, List.cons_append, List.nil_append, atI_0, atI_1, atI_2, atI_3, atI_4, ixN_0, ixN_1, ixN_2, ixN_3, ofString_inj, String.reduceEq, decide_true, decide_false, decide_not, beq_self_eq_true, Bool.not_true, Bool.not_false, Bool.false_eq_true, Bool.true_eq_false, if_true, if_false, ite_true, ite_false, beq_t, beq_f, true_and, and_true, not_true_eq_false, not_false_eq_true, forall_const, gup_get, eq_self, reduceCtorEq, reduceIte, Trm.toD, h1, h2 w ha]
    have := q G0 .refl
    simp only [due] at this
    exact this
  | map es =>
    cases n with
    | zero => simp [Trm.fine] at hf
    | succ m =>
    obtain rfl := hsp m rfl
    simp only [Trm.fine] at hf
    simp only [eOp, eUn, eVar, eC, eTest, eTru, rTru, eCa, aNil, aCons, eTup, eLst, rInt, rIxd, rAdd, rIntOf, rStrOf, rLen, rTupOf, rLstOf, rEq, rIsN, rNeg, rMin, rMax, eIf, bAnd, bOr, bNot, bYes, eMtL, eMtL0, rAppend, rPop, rExtend, rInsert, rReverse, rClear, eGet1, eGet2, rGet, isDic, gNm, gsNil, gsCons, gTp, gSb, rSet, eSl, rSl, oNone, oSome, iAny, iRg1, iRg2, eLc, eDc, dwipe, CT.put, setMany, sNext, sBreak, sCont, sRetN, sNever, keyD, kD, List.getElem?_cons_zero, List.getElem?_cons_succ, List.set_cons_zero, List.set_cons_succ, List.length_cons, List.length_nil, List.cons_append, List.nil_append, atI_0, atI_1, atI_2, atI_3, atI_4, ixN_0, ixN_1, ixN_2, ixN_3, ofString_inj, String.reduceEq, decide_true, decide_false, decide_not, beq_self_eq_true, Bool.not_true, Bool.not_false, Bool.false_eq_true, Bool.true_eq_false, if_true, if_false, ite_true, ite_false, beq_t, beq_f, true_and, and_true, not_true_eq_false, not_false_eq_true, forall_const, gup_get, eq_self, reduceCtorEq, reduceIte, Trm.toD]
    refine kf _ (qWhen_i fun k kt kf => ?_)
    simp only [eOp, eUn, eVar, eC, eTest, eTru, rTru, eCa, aNil, aCons, eTup, eLst, rInt, rIxd, rAdd, rIntOf, rStrOf, rLen, rTupOf, rLstOf, rEq, rIsN, rNeg, rMin, rMax, eIf, bAnd, bOr, bNot, bYes, eMtL, eMtL0, rAppend, rPop, rExtend, rInsert, rReverse, rClear, eGet1, eGet2, rGet, isDic, gNm, gsNil, gsCons, gTp, gSb, rSet, eSl, rSl, oNone, oSome, iAny, iRg1, iRg2, eLc, eDc, dwipe, CT.put, setMany, sNext, sBreak, sCont, sRetN, sNever, keyD, kD, List.getElem?_cons_zero, List.getElem?_cons_succ, List.set_cons_zero, List.set_cons_succ, List.length_cons, List.length_nil, List.cons_append, List.nil_append, atI_0, atI_1, atI_2, atI_3, atI_4, ixN_0, ixN_1, ixN_2, ixN_3, ofString_inj, String.reduceEq, decide_true, decide_false, decide_not, beq_self_eq_true, Bool.not_true, Bool.not_false, Bool.false_eq_true, Bool.true_eq_false, if_true, if_false, ite_true, ite_false, beq_t, beq_f, true_and, and_true, not_true_eq_false, not_false_eq_true, forall_const, gup_get, eq_self, reduceCtorEq, reduceIte, Trm.toD]
    refine kf _ (qWhen_i fun k kt kf => ?_)
    simp only [eOp, eUn, eVar, eC, eTest, eTru, rTru, eCa, aNil, aCons, eTup, eLst, rInt, rIxd, rAdd, rIntOf, rStrOf, rLen, rTupOf, rLstOf, rEq, rIsN, rNeg, rMin, rMax, eIf, bAnd, bOr, bNot, bYes, eMtL, eMtL0, rAppend, rPop, rExtend, rInsert, rReverse, rClear, eGet1, eGet2, rGet, isDic, gNm, gsNil, gsCons, gTp, gSb, rSet, eSl, rSl, oNone, oSome, iAny, iRg1, iRg2, eLc, eDc, dwipe, CT.put, setMany, sNext, sBreak, sCont, sRetN, sNever, keyD, kD, List.getElem?_cons_zero, List.getElem?_cons_succ, List.set_cons_zero, List.set_cons_succ, List.length_cons, List.length_nil, List.cons_append, List.nil_append, atI_0, atI_1, atI_2, atI_3, atI_4, ixN_0, ixN_1, ixN_2, ixN_3, ofString_inj, String.reduceEq, decide_true, decide_false, decide_not, beq_self_eq_true, Bool.not_true, Bool.not_false, Bool.false_eq_true, Bool.true_eq_false, if_true, if_false, ite_true, ite_false, beq_t, beq_f, true_and, and_true, not_true_eq_false, not_false_eq_true, forall_const, gup_get, eq_self, reduceCtorEq, reduceIte, Trm.toD]
    refine kt _ (sRet_i ?_)
    simp only [eOp, eUn, eVar, eC, eTest, eTru, rTru, eCa, aNil, aCons, eTup, eLst, rInt, rIxd, rAdd, rIntOf, rStrOf, rLen, rTupOf, rLstOf, rEq, rIsN, rNeg, rMin, rMax, eIf, bAnd, bOr, bNot, bYes, eMtL, eMtL0, rAppend, rPop, rExtend, rInsert, rReverse, rClear, eGet1, eGet2, rGet, isDic, gNm, gsNil, gsCons, gTp, gSb, rSet, eSl, rSl, oNone, oSome, iAny, iRg1, iRg2, eLc, eDc, dwipe, CT.put, setMany, sNext, sBreak, sCont, sRetN, sNever, keyD, kD, List.getElem?_cons_zero, List.getElem?_cons_succ, List.set_cons_zero, List.set_cons_succ, List.length_cons, List.length_nil, List.cons_append, List.nil_append, atI_0, atI_1, atI_2, atI_3, atI_4, ixN_0, ixN_1, ixN_2, ixN_3, ofString_inj, String.reduceEq, decide_true, decide_false, decide_not, beq_self_eq_true, Bool.not_true, Bool.not_false, Bool.false_eq_true, Bool.true_eq_false, if_true, if_false, ite_true, ite_false, beq_t, beq_f, true_and, and_true, not_true_eq_false, not_false_eq_true, forall_const, gup_get, eq_self, reduceCtorEq, reduceIte, Trm.toD]
    refine lcL_rule (I := fun xs acc G => ∃ es1 es2 : List (Str × Trm), es = es1 ++ es2 ∧ xs = Trm.esD es2 ∧ acc = Sy.esD (dueE T es1) ∧ Ext G0 G) ?_ ?_ _ _ _ ⟨[], es, rfl, rfl, rfl, .refl⟩
    · rintro x xs acc G k ⟨es1, es2, he, hxs, rfl, hE⟩ kk
      cases es2 with
      | nil => cases hxs
      | cons e es2 =>
      obtain ⟨w, t⟩ := e
      simp only [Trm.esD, List.cons.injEq] at hxs
      obtain ⟨rfl, rfl⟩ := hxs
      refine ⟨trivial, _, rfl, ?_⟩
      simp only [eOp, eUn, eVar, eC, eTest, eTru, rTru, eCa, aNil, aCons, eTup, eLst, rInt, rIxd, rAdd, rIntOf, rStrOf, rLen, rTupOf, rLstOf, rEq, rIsN, rNeg, rMin, rMax, eIf, bAnd, bOr, bNot, bYes, eMtL, eMtL0, rAppend, rPop, rExtend, rInsert, rReverse, rClear, eGet1, eGet2, rGet, isDic, gNm, gsNil, gsCons, gTp, gSb, rSet, eSl, rSl, oNone, oSome, iAny, iRg1, iRg2, eLc, eDc, dwipe, CT.put, setMany, sNext, sBreak, sCont, sRetN, sNever, keyD, kD, List.getElem?_cons_zero, List.getElem?_cons_succ, List.set_cons_zero, List.set_cons_succ, List.length_cons, List.length_nil, List.cons_append, List.nil_append, atI_0, atI_1, atI_2, atI_3, atI_4, ixN_0, ixN_1, ixN_2, ixN_3, ofString_inj, String.reduceEq, decide_true, decide_false, decide_not, beq_self_eq_true, Bool.not_true, Bool.not_false, Bool.false_eq_true, Bool.true_eq_false, if_true, if_false, ite_true, ite_false, beq_t, beq_f, true_and, and_true, not_true_eq_false, not_false_eq_true, forall_const, gup_get, eq_self, reduceCtorEq, reduceIte, dwipe]
      have hm : (w, t) ∈ es := by rw [he]; simp
      have hl : es.length = es1.length + (es2.length + 1) := by rw [he]; simp
      refine ⟨by decide, t, tb, T, p, rfl, (hf.2 _ hm).2, tab.ext hE, fun G' hE' => ?_⟩
      refine ⟨by decide, by simp [sE_map, dueE_map]; omega, kk _ _ ⟨es1 ++ [(w, t)], es2, by rw [he]; simp, rfl, by simp [sE_map, dueE_map], hE.trans hE'⟩⟩
    · rintro acc G ⟨es1, es2, he, hxs, rfl, hE⟩
      refine ⟨trivial, fun a ha => ?_⟩
      have h2 : es2 = [] := by cases es2 with
        | nil => rfl
        | cons e _ => obtain ⟨_, _⟩ := e; simp [Trm.esD] at hxs
      rw [h2, List.append_nil] at he
      subst he
      refine ⟨by decide, ?_⟩
      have := q (gup G a (.lst (Sy.esD (dueE T es)))) (hE.trans (Ext.new ha))
      simp only [due, Sy.toD] at this
      exact this
  | node c ts =>
    cases n with
    | zero => simp [Trm.fine] at hf
    | succ m =>
    obtain rfl := hsp m rfl
    simp only [Trm.fine] at hf
    simp only [eOp, eUn, eVar, eC, eTest, eTru, rTru, eCa, aNil, aCons, eTup, eLst, rInt, rIxd, rAdd, rIntOf, rStrOf, rLen, rTupOf, rLstOf, rEq, rIsN, rNeg, rMin, rMax, eIf, bAnd, bOr, bNot, bYes, eMtL, eMtL0, rAppend, rPop, rExtend, rInsert, rReverse, rClear, eGet1, eGet2, rGet, isDic, gNm, gsNil, gsCons, gTp, gSb, rSet, eSl, rSl, oNone, oSome, iAny, iRg1, iRg2, eLc, eDc, dwipe, CT.put, setMany, sNext, sBreak, sCont, sRetN, sNever, keyD, kD, List.getElem?_cons_zero, List.getElem?_cons_succ, List.set_cons_zero, List.set_cons_succ, List.length_cons, List.length_nil, List.cons_append, List.nil_append, atI_0, atI_1, atI_2, atI_3, atI_4, ixN_0, ixN_1, ixN_2, ixN_3, ofString_inj, String.reduceEq, decide_true, decide_false, decide_not, beq_self_eq_true, Bool.not_true, Bool.not_false, Bool.false_eq_true, Bool.true_eq_false, if_true, if_false, ite_true, ite_false, beq_t, beq_f, true_and, and_true, not_true_eq_false, not_false_eq_true, forall_const, gup_get, eq_self, reduceCtorEq, reduceIte, Trm.toD]
    refine kf _ (qWhen_i fun k kt kf => ?_)
    simp only [eOp, eUn, eVar, eC, eTest, eTru, rTru, eCa, aNil, aCons, eTup, eLst, rInt, rIxd, rAdd, rIntOf, rStrOf, rLen, rTupOf, rLstOf, rEq, rIsN, rNeg, rMin, rMax, eIf, bAnd, bOr, bNot, bYes, eMtL, eMtL0, rAppend, rPop, rExtend, rInsert, rReverse, rClear, eGet1, eGet2, rGet, isDic, gNm, gsNil, gsCons, gTp, gSb, rSet, eSl, rSl, oNone, oSome, iAny, iRg1, iRg2, eLc, eDc, dwipe, CT.put, setMany, sNext, sBreak, sCont, sRetN, sNever, keyD, kD, List.getElem?_cons_zero, List.getElem?_cons_succ, List.set_cons_zero, List.set_cons_succ, List.length_cons, List.length_nil, List.cons_append, List.nil_append, atI_0, atI_1, atI_2, atI_3, atI_4, ixN_0, ixN_1, ixN_2, ixN_3, ofString_inj, String.reduceEq, decide_true, decide_false, decide_not, beq_self_eq_true, Bool.not_true, Bool.not_false, Bool.false_eq_true, Bool.true_eq_false, if_true, if_false, ite_true, ite_false, beq_t, beq_f, true_and, and_true, not_true_eq_false, not_false_eq_true, forall_const, gup_get, eq_self, reduceCtorEq, reduceIte, Trm.toD]
    refine kf _ (qWhen_i fun k kt kf => ?_)
    simp only [eOp, eUn, eVar, eC, eTest, eTru, rTru, eCa, aNil, aCons, eTup, eLst, rInt, rIxd, rAdd, rIntOf, rStrOf, rLen, rTupOf, rLstOf, rEq, rIsN, rNeg, rMin, rMax, eIf, bAnd, bOr, bNot, bYes, eMtL, eMtL0, rAppend, rPop, rExtend, rInsert, rReverse, rClear, eGet1, eGet2, rGet, isDic, gNm, gsNil, gsCons, gTp, gSb, rSet, eSl, rSl, oNone, oSome, iAny, iRg1, iRg2, eLc, eDc, dwipe, CT.put, setMany, sNext, sBreak, sCont, sRetN, sNever, keyD, kD, List.getElem?_cons_zero, List.getElem?_cons_succ, List.set_cons_zero, List.set_cons_succ, List.length_cons, List.length_nil, List.cons_append, List.nil_append, atI_0, atI_1, atI_2, atI_3, atI_4, ixN_0, ixN_1, ixN_2, ixN_3, ofString_inj, String.reduceEq, decide_true, decide_false, decide_not, beq_self_eq_true, Bool.not_true, Bool.not_false, Bool.false_eq_true, Bool.true_eq_false, if_true, if_false, ite_true, ite_false, beq_t, beq_f, true_and, and_true, not_true_eq_false, not_false_eq_true, forall_const, gup_get, eq_self, reduceCtorEq, reduceIte, Trm.toD]
    refine kf _ (qWhen_i fun k kt kf => ?_)
    simp only [eOp, eUn, eVar, eC, eTest, eTru, rTru, eCa, aNil, aCons, eTup, eLst, rInt, rIxd, rAdd, rIntOf, rStrOf, rLen, rTupOf, rLstOf, rEq, rIsN, rNeg, rMin, rMax, eIf, bAnd, bOr, bNot, bYes, eMtL, eMtL0, rAppend, rPop, rExtend, rInsert, rReverse, rClear, eGet1, eGet2, rGet, isDic, gNm, gsNil, gsCons, gTp, gSb, rSet, eSl, rSl, oNone, oSome, iAny, iRg1, iRg2, eLc, eDc, dwipe, CT.put, setMany, sNext, sBreak, sCont, sRetN, sNever, keyD, kD, List.getElem?_cons_zero, List.getElem?_cons_succ, List.set_cons_zero, List.set_cons_succ, List.length_cons, List.length_nil, List.cons_append, List.nil_append, atI_0, atI_1, atI_2, atI_3, atI_4, ixN_0, ixN_1, ixN_2, ixN_3, ofString_inj, String.reduceEq, decide_true, decide_false, decide_not, beq_self_eq_true, Bool.not_true, Bool.not_false, Bool.false_eq_true, Bool.true_eq_false, if_true, if_false, ite_true, ite_false, beq_t, beq_f, true_and, and_true, not_true_eq_false, not_false_eq_true, forall_const, gup_get, eq_self, reduceCtorEq, reduceIte, Trm.toD]
    refine kt _ (sRet_i ?_)
    simp only [eOp, eUn, eVar, eC, eTest, eTru, rTru, eCa, aNil, aCons, eTup, eLst, rInt, rIxd, rAdd, rIntOf, rStrOf, rLen, rTupOf, rLstOf, rEq, rIsN, rNeg, rMin, rMax, eIf, bAnd, bOr, bNot, bYes, eMtL, eMtL0, rAppend, rPop, rExtend, rInsert, rReverse, rClear, eGet1, eGet2, rGet, isDic, gNm, gsNil, gsCons, gTp, gSb, rSet, eSl, rSl, oNone, oSome, iAny, iRg1, iRg2, eLc, eDc, dwipe, CT.put, setMany, sNext, sBreak, sCont, sRetN, sNever, keyD, kD, List.getElem?_cons_zero, List.getElem?_cons_succ, List.set_cons_zero, List.set_cons_succ, List.length_cons, List.length_nil, List.cons_append, List.nil_append, atI_0, atI_1, atI_2, atI_3, atI_4, ixN_0, ixN_1, ixN_2, ixN_3, ofString_inj, String.reduceEq, decide_true, decide_false, decide_not, beq_self_eq_true, Bool.not_true, Bool.not_false, Bool.false_eq_true, Bool.true_eq_false, if_true, if_false, ite_true, ite_false, beq_t, beq_f, true_and, and_true, not_true_eq_false, not_false_eq_true, forall_const, gup_get, eq_self, reduceCtorEq, reduceIte, Trm.toD]
    refine lcL_rule (I := fun xs acc G => ∃ es1 es2 : List Trm, ts = es1 ++ es2 ∧ xs = Trm.tsD es2 ∧ acc = Sy.tsD (dueS T es1) ∧ Ext G0 G) ?_ ?_ _ _ _ ⟨[], ts, rfl, rfl, rfl, .refl⟩
    · rintro x xs acc G k ⟨es1, es2, he, hxs, rfl, hE⟩ kk
      cases es2 with
      | nil => cases hxs
      | cons t es2 =>
      simp only [Trm.tsD, List.cons.injEq] at hxs
      obtain ⟨rfl, rfl⟩ := hxs
      refine ⟨trivial, _, rfl, ?_⟩
      simp only [eOp, eUn, eVar, eC, eTest, eTru, rTru, eCa, aNil, aCons, eTup, eLst, rInt, rIxd, rAdd, rIntOf, rStrOf, rLen, rTupOf, rLstOf, rEq, rIsN, rNeg, rMin, rMax, eIf, bAnd, bOr, bNot, bYes, eMtL, eMtL0, rAppend, rPop, rExtend, rInsert, rReverse, rClear, eGet1, eGet2, rGet, isDic, gNm, gsNil, gsCons, gTp, gSb, rSet, eSl, rSl, oNone, oSome, iAny, iRg1, iRg2, eLc, eDc, dwipe, CT.put, setMany, sNext, sBreak, sCont, sRetN, sNever, keyD, kD, List.getElem?_cons_zero, List.getElem?_cons_succ, List.set_cons_zero, List.set_cons_succ, List.length_cons, List.length_nil, List.cons_append, List.nil_append, atI_0, atI_1, atI_2, atI_3, atI_4, ixN_0, ixN_1, ixN_2, ixN_3, ofString_inj, String.reduceEq, decide_true, decide_false, decide_not, beq_self_eq_true, Bool.not_true, Bool.not_false, Bool.false_eq_true, Bool.true_eq_false, if_true, if_false, ite_true, ite_false, beq_t, beq_f, true_and, and_true, not_true_eq_false, not_false_eq_true, forall_const, gup_get, eq_self, reduceCtorEq, reduceIte, dwipe]
      have hm : t ∈ ts := by rw [he]; simp
      have hl : ts.length = es1.length + (es2.length + 1) := by rw [he]; simp
      refine ⟨t, tb, T, p, rfl, hf.2.2 _ hm, tab.ext hE, fun G' hE' => ?_⟩
      refine ⟨by simp [sD_map, dueS_map]; omega, kk _ _ ⟨es1 ++ [t], es2, by rw [he]; simp, rfl, by simp [sD_map, dueS_map], hE.trans hE'⟩⟩
    · rintro acc G ⟨es1, es2, he, hxs, rfl, hE⟩
      refine ⟨trivial, fun a ha => ?_⟩
      have h2 : es2 = [] := by cases es2 with
        | nil => rfl
        | cons e _ => simp [Trm.tsD] at hxs
      rw [h2, List.append_nil] at he
      subst he
      refine ⟨by decide, ?_⟩
      have := q (gup G a (.lst (Sy.tsD (dueS T ts)))) (hE.trans (Ext.new ha))
      simp only [due, Sy.toD] at this
      exact this

/-! ### size -/
def sp__law_size (n : Nat) : DSp := fun ds G Q => ∃ s : Sy, ds = [s.toD] ∧ s.fine n ∧ ∀ G', Ext G G' → Q (.int s.sz) G'
theorem szE_app : ∀ {a b : List (Str × Sy)}, Sy.szE (a ++ b) = Sy.szE a + Sy.szE b
  | [], b => by simp [Sy.szE]
  | (w, t) :: a, b => by rw [List.cons_append, Sy.szE, Sy.szE, szE_app]; omega
theorem szS_app : ∀ {a b : List Sy}, Sy.szS (a ++ b) = Sy.szS a + Sy.szS b
  | [], b => by simp [Sy.szS]
  | t :: a, b => by rw [List.cons_append, Sy.szS, Sy.szS, szS_app]; omega
theorem sem__law_size {n : Nat} {sp : DSp} (hsp : ∀ m, n = m + 1 → sp = sp__law_size m) {E : DEnds} {G0 : GP} {s : Sy} (hf : s.fine n) (q : ∀ G', Ext G0 G' → E.rt (.int s.sz) G') :
    rd__law_size sp E (dstart n__law_size [s.toD]) G0 := by
  show rd__law_size sp E [some s.toD, none, none] G0
  unfold rd__law_size
  have hsz := sizeLine_eq
  refine qWhen_i fun k kt kf => ?_
  have leaf : s.sz = 1 → E.rt (.int 1) G0 := fun e => by have := q G0 .refl; rw [e] at this; exact this
  cases s with
  | sum ps i =>
    simp only [eOp, eUn, eVar, eC, eTest, eTru, rTru, eCa, aNil, aCons, eTup, eLst, rInt, rIxd, rAdd, rIntOf, rStrOf, rLen, rTupOf, rLstOf, rEq, rIsN, rNeg, rMin, rMax, eIf, bAnd, bOr, bNot, bYes, eMtL, eMtL0, rAppend, rPop, rExtend, rInsert, rReverse, rClear, eGet1, eGet2, rGet, isDic, gNm, gsNil, gsCons, gTp, gSb, rSet, eSl, rSl, oNone, oSome, iAny, iRg1, iRg2, eLc, eDc, dwipe, CT.put, setMany, sNext, sBreak, sCont, sRetN, sNever, keyD, kD, List.getElem?_cons_zero, List.getElem?_cons_succ, List.set_cons_zero, List.set_cons_succ, List.length_cons, List.length_nil, List.cons_append, List.nil_append, atI_0, atI_1, atI_2, atI_3, atI_4, ixN_0, ixN_1, ixN_2, ixN_3, ofString_inj, String.reduceEq, decide_true, decide_false, decide_not, beq_self_eq_true, Bool.not_true, Bool.not_false, Bool.false_eq_true, Bool.true_eq_false, if_true, if_false, ite_true, ite_false, beq_t, beq_f, true_and, and_true, not_true_eq_false, not_false_eq_true, forall_const, gup_get, eq_self, reduceCtorEq, reduceIte, Sy.toD]
    refine kf _ (qWhen_i fun k kt kf => ?_)
    simp only [eOp, eUn, eVar, eC, eTest, eTru, rTru, eCa, aNil, aCons, eTup, eLst, rInt, rIxd, rAdd, rIntOf, rStrOf, rLen, rTupOf, rLstOf, rEq, rIsN, rNeg, rMin, rMax, eIf, bAnd, bOr, bNot, bYes, eMtL, eMtL0, rAppend, rPop, rExtend, rInsert, rReverse, rClear, eGet1, eGet2, rGet, isDic, gNm, gsNil, gsCons, gTp, gSb, rSet, eSl, rSl, oNone, oSome, iAny, iRg1, iRg2, eLc, eDc, dwipe, CT.put, setMany, sNext, sBreak, sCont, sRetN, sNever, keyD, kD, List.getElem?_cons_zero, List.getElem?_cons_succ, List.set_cons_zero, List.set_cons_succ, List.length_cons, List.length_nil, List.cons_append, List.nil_append, atI_0, atI_1, atI_2, atI_3, atI_4, ixN_0, ixN_1, ixN_2, ixN_3, ofString_inj, String.reduceEq, decide_true, decide_false, decide_not, beq_self_eq_true, Bool.not_true, Bool.not_false, Bool.false_eq_true, Bool.true_eq_false, if_true, if_false, ite_true, ite_false, beq_t, beq_f, true_and, and_true, not_true_eq_false, not_false_eq_true, forall_const, gup_get, eq_self, reduceCtorEq, reduceIte, Sy.toD]
    refine kf _ (sRet_i ?_)
    exact leaf rfl
  | name w =>
    simp only [eOp, eUn, eVar, eC, eTest, eTru, rTru, eCa, aNil, aCons, eTup, eLst, rInt, rIxd, rAdd, rIntOf, rStrOf, rLen, rTupOf, rLstOf, rEq, rIsN, rNeg, rMin, rMax, eIf, bAnd, bOr, bNot, bYes, eMtL, eMtL0, rAppend, rPop, rExtend, rInsert, rReverse, rClear, eGet1, eGet2, rGet, isDic, gNm, gsNil, gsCons, gTp, gSb, rSet, eSl, rSl, oNone, oSome, iAny, iRg1, iRg2, eLc, eDc, dwipe, CT.put, setMany, sNext, sBreak, sCont, sRetN, sNever, keyD, kD, List.getElem?_cons_zero, List.getElem?_cons_succ, List.set_cons_zero, List.set_cons_succ, List.length_cons, List.length_nil, List.cons_append, List.nil_append, atI_0, atI_1, atI_2, atI_3, atI_4, ixN_0, ixN_1, ixN_2, ixN_3, ofString_inj, String.reduceEq, decide_true, decide_false, decide_not, beq_self_eq_true, Bool.not_true, Bool.not_false, Bool.false_eq_true, Bool.true_eq_false, if_true, if_false, ite_true, ite_false, beq_t, beq_f, true_and, and_true, not_true_eq_false, not_false_eq_true, forall_const, gup_get, eq_self, reduceCtorEq, reduceIte, Sy.toD]
    refine kf _ (qWhen_i fun k kt kf => ?_)
    simp only [eOp, eUn, eVar, eC, eTest, eTru, rTru, eCa, aNil, aCons, eTup, eLst, rInt, rIxd, rAdd, rIntOf, rStrOf, rLen, rTupOf, rLstOf, rEq, rIsN, rNeg, rMin, rMax, eIf, bAnd, bOr, bNot, bYes, eMtL, eMtL0, rAppend, rPop, rExtend, rInsert, rReverse, rClear, eGet1, eGet2, rGet, isDic, gNm, gsNil, gsCons, gTp, gSb, rSet, eSl, rSl, oNone, oSome, iAny, iRg1, iRg2, eLc, eDc, dwipe, CT.put, setMany, sNext, sBreak, sCont, sRetN, sNever, keyD, kD, List.getElem?_cons_zero, List.getElem?_cons_succ, List.set_cons_zero, List.set_cons_succ, List.length_cons, List.length_nil, List.cons_append, List.nil_append, atI_0, atI_1, atI_2, atI_3, atI_4, ixN_0, ixN_1, ixN_2, ixN_3, ofString_inj, String.reduceEq, decide_true, decide_false, decide_not, beq_self_eq_true, Bool.not_true, Bool.not_false, Bool.false_eq_true, Bool.true_eq_false, if_true, if_false, ite_true, ite_false, beq_t, beq_f, true_and, and_true, not_true_eq_false, not_false_eq_true, forall_const, gup_get, eq_self, reduceCtorEq, reduceIte, Sy.toD]
    refine kf _ (sRet_i ?_)
    exact leaf rfl
  | addr w =>
    simp only [eOp, eUn, eVar, eC, eTest, eTru, rTru, eCa, aNil, aCons, eTup, eLst, rInt, rIxd, rAdd, rIntOf, rStrOf, rLen, rTupOf, rLstOf, rEq, rIsN, rNeg, rMin, rMax, eIf, bAnd, bOr, bNot, bYes, eMtL, eMtL0, rAppend, rPop, rExtend, rInsert, rReverse, rClear, eGet1, eGet2, rGet, isDic, gNm, gsNil, gsCons, gTp, gSb, rSet, eSl, rSl, oNone, oSome, iAny, iRg1, iRg2, eLc, eDc, dwipe, CT.put, setMany, sNext, sBreak, sCont, sRetN, sNever, keyD, kD, List.getElem?_cons_zero, List.getElem?_cons_succ, List.set_cons_zero, List.set_cons_succ, List.length_cons, List.length_nil, List.cons_append, List.nil_append, atI_0, atI_1, atI_2, atI_3, atI_4, ixN_0, ixN_1, ixN_2, ixN_3, ofString_inj, String.reduceEq, decide_true, decide_false, decide_not, beq_self_eq_true, Bool.not_true, Bool.not_false, Bool.false_eq_true, Bool.true_eq_false, if_true, if_false, ite_true, ite_false, beq_t, beq_f, true_and, and_true, not_true_eq_false, not_false_eq_true, forall_const, gup_get, eq_self, reduceCtorEq, reduceIte, Sy.toD]
    refine kf _ (qWhen_i fun k kt kf => ?_)
    simp only [eOp, eUn, eVar, eC, eTest, eTru, rTru, eCa, aNil, aCons, eTup, eLst, rInt, rIxd, rAdd, rIntOf, rStrOf, rLen, rTupOf, rLstOf, rEq, rIsN, rNeg, rMin, rMax, eIf, bAnd, bOr, bNot, bYes, eMtL, eMtL0, rAppend, rPop, rExtend, rInsert, rReverse, rClear, eGet1, eGet2, rGet, isDic, gNm, gsNil, gsCons, gTp, gSb, rSet, eSl, rSl, oNone, oSome, iAny, iRg1, iRg2, eLc, eDc, dwipe, CT.put, setMany, sNext, sBreak, sCont, sRetN, sNever, keyD, kD, List.getElem?_cons_zero, List.getElem?_cons_succ, List.set_cons_zero, List.set_cons_succ, List.length_cons, List.length_nil, List.cons_append, List.nil_append, atI_0, atI_1, atI_2, atI_3, atI_4, ixN_0, ixN_1, ixN_2, ixN_3, ofString_inj, String.reduceEq, decide_true, decide_false, decide_not, beq_self_eq_true, Bool.not_true, Bool.not_false, Bool.false_eq_true, Bool.true_eq_false, if_true, if_false, ite_true, ite_false, beq_t, beq_f, true_and, and_true, not_true_eq_false, not_false_eq_true, forall_const, gup_get, eq_self, reduceCtorEq, reduceIte, Sy.toD]
    refine kf _ (sRet_i ?_)
    exact leaf rfl
  | unk w =>
    simp only [eOp, eUn, eVar, eC, eTest, eTru, rTru, eCa, aNil, aCons, eTup, eLst, rInt, rIxd, rAdd, rIntOf, rStrOf, rLen, rTupOf, rLstOf, rEq, rIsN, rNeg, rMin, rMax, eIf, bAnd, bOr, bNot, bYes, eMtL, eMtL0, rAppend, rPop, rExtend, rInsert, rReverse, rClear, eGet1, eGet2, rGet, isDic, gNm, gsNil, gsCons, gTp, gSb, rSet, eSl, rSl, oNone, oSome, iAny, iRg1, iRg2, eLc, eDc, dwipe, CT.put, setMany, sNext, sBreak, sCont, sRetN, sNever, keyD, kD, List.getElem?_cons_zero, List.getElem?_cons_succ, List.set_cons_zero, List.set_cons_succ, List.length_cons, List.length_nil, List.cons_append, List.nil_append, atI_0, atI_1, atI_2, atI_3, atI_4, ixN_0, ixN_1, ixN_2, ixN_3, ofString_inj, String.reduceEq, decide_true, decide_false, decide_not, beq_self_eq_true, Bool.not_true, Bool.not_false, Bool.false_eq_true, Bool.true_eq_false, if_true, if_false, ite_true, ite_false, beq_t, beq_f, true_and, and_true, not_true_eq_false, not_false_eq_true, forall_const, gup_get, eq_self, reduceCtorEq, reduceIte, Sy.toD]
    refine kf _ (qWhen_i fun k kt kf => ?_)
    simp only [eOp, eUn, eVar, eC, eTest, eTru, rTru, eCa, aNil, aCons, eTup, eLst, rInt, rIxd, rAdd, rIntOf, rStrOf, rLen, rTupOf, rLstOf, rEq, rIsN, rNeg, rMin, rMax, eIf, bAnd, bOr, bNot, bYes, eMtL, eMtL0, rAppend, rPop, rExtend, rInsert, rReverse, rClear, eGet1, eGet2, rGet, isDic, gNm, gsNil, gsCons, gTp, gSb, rSet, eSl, rSl, oNone, oSome, iAny, iRg1, iRg2, eLc, eDc, dwipe, CT.put, setMany, sNext, sBreak, sCont, sRetN, sNever, keyD, kD, List.getElem?_cons_zero, List.getElem?_cons_succ, List.set_cons_zero, List.set_cons_succ, List.length_cons, List.length_nil, List.cons_append, List.nil_append, atI_0, atI_1, atI_2, atI_3, atI_4, ixN_0, ixN_1, ixN_2, ixN_3, ofString_inj, String.reduceEq, decide_true, decide_false, decide_not, beq_self_eq_true, Bool.not_true, Bool.not_false, Bool.false_eq_true, Bool.true_eq_false, if_true, if_false, ite_true, ite_false, beq_t, beq_f, true_and, and_true, not_true_eq_false, not_false_eq_true, forall_const, gup_get, eq_self, reduceCtorEq, reduceIte, Sy.toD]
    refine kf _ (sRet_i ?_)
    exact leaf rfl
  | map es =>
    cases n with
    | zero => simp [Sy.fine] at hf
    | succ m =>
    obtain rfl := hsp m rfl
    simp only [Sy.fine] at hf
    simp only [eOp, eUn, eVar, eC, eTest, eTru, rTru, eCa, aNil, aCons, eTup, eLst, rInt, rIxd, rAdd, rIntOf, rStrOf, rLen, rTupOf, rLstOf, rEq, rIsN, rNeg, rMin, rMax, eIf, bAnd, bOr, bNot, bYes, eMtL, eMtL0, rAppend, rPop, rExtend, rInsert, rReverse, rClear, eGet1, eGet2, rGet, isDic, gNm, gsNil, gsCons, gTp, gSb, rSet, eSl, rSl, oNone, oSome, iAny, iRg1, iRg2, eLc, eDc, dwipe, CT.put, setMany, sNext, sBreak, sCont, sRetN, sNever, keyD, kD, List.getElem?_cons_zero, List.getElem?_cons_succ, List.set_cons_zero, List.set_cons_succ, List.length_cons, List.length_nil, List.cons_append, List.nil_append, atI_0, atI_1, atI_2, atI_3, atI_4, ixN_0, ixN_1, ixN_2, ixN_3, ofString_inj, String.reduceEq, decide_true, decide_false, decide_not, beq_self_eq_true, Bool.not_true, Bool.not_false, Bool.false_eq_true, Bool.true_eq_false, if_true, if_false, ite_true, ite_false, beq_t, beq_f, true_and, and_true, not_true_eq_false, not_false_eq_true, forall_const, gup_get, eq_self, reduceCtorEq, reduceIte, Sy.toD]
    refine kt _ (sRet_i ?_)
    simp only [eOp, eUn, eVar, eC, eTest, eTru, rTru, eCa, aNil, aCons, eTup, eLst, rInt, rIxd, rAdd, rIntOf, rStrOf, rLen, rTupOf, rLstOf, rEq, rIsN, rNeg, rMin, rMax, eIf, bAnd, bOr, bNot, bYes, eMtL, eMtL0, rAppend, rPop, rExtend, rInsert, rReverse, rClear, eGet1, eGet2, rGet, isDic, gNm, gsNil, gsCons, gTp, gSb, rSet, eSl, rSl, oNone, oSome, iAny, iRg1, iRg2, eLc, eDc, dwipe, CT.put, setMany, sNext, sBreak, sCont, sRetN, sNever, keyD, kD, List.getElem?_cons_zero, List.getElem?_cons_succ, List.set_cons_zero, List.set_cons_succ, List.length_cons, List.length_nil, List.cons_append, List.nil_append, atI_0, atI_1, atI_2, atI_3, atI_4, ixN_0, ixN_1, ixN_2, ixN_3, ofString_inj, String.reduceEq, decide_true, decide_false, decide_not, beq_self_eq_true, Bool.not_true, Bool.not_false, Bool.false_eq_true, Bool.true_eq_false, if_true, if_false, ite_true, ite_false, beq_t, beq_f, true_and, and_true, not_true_eq_false, not_false_eq_true, forall_const, gup_get, eq_self, reduceCtorEq, reduceIte, Sy.toD]
    refine lcL_rule (I := fun xs acc G => ∃ (es1 es2 : List (Str × Sy)) (ns : List Int), es = es1 ++ es2 ∧ xs = Sy.esD es2 ∧ acc = ns.map D.int ∧ ns.length = es1.length ∧ ns.sum = (Sy.szE es1 : Nat) ∧ Ext G0 G) ?_ ?_ _ _ _ ⟨[], es, [], rfl, rfl, rfl, rfl, rfl, .refl⟩
    · rintro x xs acc G k ⟨es1, es2, ns, he, hxs, rfl, hln, hs, hE⟩ kk
      cases es2 with
      | nil => cases hxs
      | cons e es2 =>
      obtain ⟨w, t⟩ := e
      simp only [Sy.esD, List.cons.injEq] at hxs
      obtain ⟨rfl, rfl⟩ := hxs
      refine ⟨trivial, _, rfl, ?_⟩
      simp only [eOp, eUn, eVar, eC, eTest, eTru, rTru, eCa, aNil, aCons, eTup, eLst, rInt, rIxd, rAdd, rIntOf, rStrOf, rLen, rTupOf, rLstOf, rEq, rIsN, rNeg, rMin, rMax, eIf, bAnd, bOr, bNot, bYes, eMtL, eMtL0, rAppend, rPop, rExtend, rInsert, rReverse, rClear, eGet1, eGet2, rGet, isDic, gNm, gsNil, gsCons, gTp, gSb, rSet, eSl, rSl, oNone, oSome, iAny, iRg1, iRg2, eLc, eDc, dwipe, CT.put, setMany, sNext, sBreak, sCont, sRetN, sNever, keyD, kD, List.getElem?_cons_zero, List.getElem?_cons_succ, List.set_cons_zero, List.set_cons_succ, List.length_cons, List.length_nil, List.cons_append, List.nil_append, atI_0, atI_1, atI_2, atI_3, atI_4, ixN_0, ixN_1, ixN_2, ixN_3, ofString_inj, String.reduceEq, decide_true, decide_false, decide_not, beq_self_eq_true, Bool.not_true, Bool.not_false, Bool.false_eq_true, Bool.true_eq_false, if_true, if_false, ite_true, ite_false, beq_t, beq_f, true_and, and_true, not_true_eq_false, not_false_eq_true, forall_const, gup_get, eq_self, reduceCtorEq, reduceIte, dwipe]
      have hm : (w, t) ∈ es := by rw [he]; simp
      have hl : es.length = es1.length + (es2.length + 1) := by rw [he]; simp
      refine ⟨t, rfl, (hf.2 _ hm).2, fun G' hE' => ?_⟩
      refine ⟨by rw [List.length_map]; omega, kk _ _ ⟨es1 ++ [(w, t)], es2, ns ++ [1 + (t.sz : Int)], by rw [he]; simp, rfl, by simp, by simp [hln], ?_, hE.trans hE'⟩⟩
      rw [List.sum_append, hs, szE_app]
      simp [Sy.szE]
    · rintro acc G ⟨es1, es2, ns, he, hxs, rfl, hln, hs, hE⟩
      refine ⟨trivial, fun a ha => ?_⟩
      have h2 : es2 = [] := by cases es2 with
        | nil => rfl
        | cons e _ => obtain ⟨_, _⟩ := e; simp [Sy.esD] at hxs
      rw [h2, List.append_nil] at he
      subst he
      refine ⟨a, ns, rfl, .inl gup_same, ?_⟩
      have := q _ (hE.trans (Ext.new (o := .lst (ns.map D.int)) ha))
      simp only [Sy.sz] at this
      rw [hs]
      simpa using this
  | node c ts =>
    cases n with
    | zero => simp [Sy.fine] at hf
    | succ m =>
    obtain rfl := hsp m rfl
    simp only [Sy.fine] at hf
    simp only [eOp, eUn, eVar, eC, eTest, eTru, rTru, eCa, aNil, aCons, eTup, eLst, rInt, rIxd, rAdd, rIntOf, rStrOf, rLen, rTupOf, rLstOf, rEq, rIsN, rNeg, rMin, rMax, eIf, bAnd, bOr, bNot, bYes, eMtL, eMtL0, rAppend, rPop, rExtend, rInsert, rReverse, rClear, eGet1, eGet2, rGet, isDic, gNm, gsNil, gsCons, gTp, gSb, rSet, eSl, rSl, oNone, oSome, iAny, iRg1, iRg2, eLc, eDc, dwipe, CT.put, setMany, sNext, sBreak, sCont, sRetN, sNever, keyD, kD, List.getElem?_cons_zero, List.getElem?_cons_succ, List.set_cons_zero, List.set_cons_succ, List.length_cons, List.length_nil, List.cons_append, List.nil_append, atI_0, atI_1, atI_2, atI_3, atI_4, ixN_0, ixN_1, ixN_2, ixN_3, ofString_inj, String.reduceEq, decide_true, decide_false, decide_not, beq_self_eq_true, Bool.not_true, Bool.not_false, Bool.false_eq_true, Bool.true_eq_false, if_true, if_false, ite_true, ite_false, beq_t, beq_f, true_and, and_true, not_true_eq_false, not_false_eq_true, forall_const, gup_get, eq_self, reduceCtorEq, reduceIte, Sy.toD]
    refine kf _ (qWhen_i fun k kt kf => ?_)
    simp only [eOp, eUn, eVar, eC, eTest, eTru, rTru, eCa, aNil, aCons, eTup, eLst, rInt, rIxd, rAdd, rIntOf, rStrOf, rLen, rTupOf, rLstOf, rEq, rIsN, rNeg, rMin, rMax, eIf, bAnd, bOr, bNot, bYes, eMtL, eMtL0, rAppend, rPop, rExtend, rInsert, rReverse, rClear, eGet1, eGet2, rGet, isDic, gNm, gsNil, gsCons, gTp, gSb, rSet, eSl, rSl, oNone, oSome, iAny, iRg1, iRg2, eLc, eDc, dwipe, CT.put, setMany, sNext, sBreak, sCont, sRetN, sNever, keyD, kD, List.getElem?_cons_zero, List.getElem?_cons_succ, List.set_cons_zero, List.set_cons_succ, List.length_cons, List.length_nil, List.cons_append, List.nil_append, atI_0, atI_1, atI_2, atI_3, atI_4, ixN_0, ixN_1, ixN_2, ixN_3, ofString_inj, String.reduceEq, decide_true, decide_false, decide_not, beq_self_eq_true, Bool.not_true, Bool.not_false, Bool.false_eq_true, Bool.true_eq_false, if_true, if_false, ite_true, ite_false, beq_t, beq_f, true_and, and_true, not_true_eq_false, not_false_eq_true, forall_const, gup_get, eq_self, reduceCtorEq, reduceIte, Sy.toD]
    refine kt _ (sRet_i ?_)
    simp only [eOp, eUn, eVar, eC, eTest, eTru, rTru, eCa, aNil, aCons, eTup, eLst, rInt, rIxd, rAdd, rIntOf, rStrOf, rLen, rTupOf, rLstOf, rEq, rIsN, rNeg, rMin, rMax, eIf, bAnd, bOr, bNot, bYes, eMtL, eMtL0, rAppend, rPop, rExtend, rInsert, rReverse, rClear, eGet1, eGet2, rGet, isDic, gNm, gsNil, gsCons, gTp, gSb, rSet, eSl, rSl, oNone, oSome, iAny, iRg1, iRg2, eLc, eDc, dwipe, CT.put, setMany, sNext, sBreak, sCont, sRetN, sNever, keyD, kD, List.getElem?_cons_zero, List.getElem?_cons_succ, List.set_cons_zero, List.set_cons_succ, List.length_cons, List.length_nil, List.cons_append, List.nil_append, atI_0, atI_1, atI_2, atI_3, atI_4, ixN_0, ixN_1, ixN_2, ixN_3, ofString_inj, String.reduceEq, decide_true, decide_false, decide_not, beq_self_eq_true, Bool.not_true, Bool.not_false, Bool.false_eq_true, Bool.true_eq_false, if_true, if_false, ite_true, ite_false, beq_t, beq_f, true_and, and_true, not_true_eq_false, not_false_eq_true, forall_const, gup_get, eq_self, reduceCtorEq, reduceIte, Sy.toD]
    refine lcL_rule (I := fun xs acc G => ∃ (es1 es2 : List Sy) (ns : List Int), ts = es1 ++ es2 ∧ xs = Sy.tsD es2 ∧ acc = ns.map D.int ∧ ns.length = es1.length ∧ ns.sum = (Sy.szS es1 : Nat) ∧ Ext G0 G) ?_ ?_ _ _ _ ⟨[], ts, [], rfl, rfl, rfl, rfl, rfl, .refl⟩
    · rintro x xs acc G k ⟨es1, es2, ns, he, hxs, rfl, hln, hs, hE⟩ kk
      cases es2 with
      | nil => cases hxs
      | cons t es2 =>
      simp only [Sy.tsD, List.cons.injEq] at hxs
      obtain ⟨rfl, rfl⟩ := hxs
      refine ⟨trivial, _, rfl, ?_⟩
      simp only [eOp, eUn, eVar, eC, eTest, eTru, rTru, eCa, aNil, aCons, eTup, eLst, rInt, rIxd, rAdd, rIntOf, rStrOf, rLen, rTupOf, rLstOf, rEq, rIsN, rNeg, rMin, rMax, eIf, bAnd, bOr, bNot, bYes, eMtL, eMtL0, rAppend, rPop, rExtend, rInsert, rReverse, rClear, eGet1, eGet2, rGet, isDic, gNm, gsNil, gsCons, gTp, gSb, rSet, eSl, rSl, oNone, oSome, iAny, iRg1, iRg2, eLc, eDc, dwipe, CT.put, setMany, sNext, sBreak, sCont, sRetN, sNever, keyD, kD, List.getElem?_cons_zero, List.getElem?_cons_succ, List.set_cons_zero, List.set_cons_succ, List.length_cons, List.length_nil, List.cons_append, List.nil_append, atI_0, atI_1, atI_2, atI_3, atI_4, ixN_0, ixN_1, ixN_2, ixN_3, ofString_inj, String.reduceEq, decide_true, decide_false, decide_not, beq_self_eq_true, Bool.not_true, Bool.not_false, Bool.false_eq_true, Bool.true_eq_false, if_true, if_false, ite_true, ite_false, beq_t, beq_f, true_and, and_true, not_true_eq_false, not_false_eq_true, forall_const, gup_get, eq_self, reduceCtorEq, reduceIte, dwipe]
      have hm : t ∈ ts := by rw [he]; simp
      have hl : ts.length = es1.length + (es2.length + 1) := by rw [he]; simp
      refine ⟨t, rfl, hf.2.2 _ hm, fun G' hE' => ?_⟩
      refine ⟨by rw [List.length_map]; omega, kk _ _ ⟨es1 ++ [t], es2, ns ++ [(t.sz : Int)], by rw [he]; simp, rfl, by simp, by simp [hln], ?_, hE.trans hE'⟩⟩
      rw [List.sum_append, hs, szS_app]
      simp [Sy.szS]
    · rintro acc G ⟨es1, es2, ns, he, hxs, rfl, hln, hs, hE⟩
      refine ⟨trivial, fun a ha => ?_⟩
      have h2 : es2 = [] := by cases es2 with
        | nil => rfl
        | cons e _ => simp [Sy.tsD] at hxs
      rw [h2, List.append_nil] at he
      subst he
      refine ⟨a, ns, rfl, .inl gup_same, ?_⟩
      have := q _ (hE.trans (Ext.new (o := .lst (ns.map D.int)) ha))
      simp only [Sy.sz] at this
      rw [hs]
      simpa using this
end Dn.My

namespace Dn.My
open PySem PySem.Spec PyProof.Rows L2 Dn

/-! ### found -/
def sp__law_found (n : Nat) : DSp := fun ds G Q => ∃ s : Sy, ds = [s.toD] ∧ s.fine n ∧ s.sz < 1000000 ∧ ∀ a G', G' a = some (.lst (s.uk.map D.int)) → Ext G G' → Q (.ref a) G'
theorem fine_len : ∀ {n : Nat} {t : Sy}, t.fine n → t.uk.length ≤ 3 * t.sz
  | 0, .map _, h => by simp [Sy.fine] at h
  | 0, .node _ _, h => by simp [Sy.fine] at h
  | n, .sum ps _, h => by
    have h : ps.length ≤ 3 ∧ ∀ p ∈ ps, 0 ≤ p.1 ∧ p.1 < 41 := by cases n <;> simpa [Sy.fine] using h
    simp only [Sy.uk, Sy.sz, List.length_map]
    omega
  | n, .name w, h => by simp [Sy.uk]
  | n, .addr _, h => by simp [Sy.uk]
  | n, .unk w, h => by simp [Sy.uk, Sy.sz]
  | n + 1, .map es, h => by
    simp only [Sy.fine] at h
    rw [Sy.uk, Sy.sz]
    have go : ∀ es' : List (Str × Sy), (∀ e ∈ es', e.2.fine n) → (Sy.ukE es').length ≤ 3 * Sy.szE es' := by
      intro es'
      induction es' with
      | nil => intro _; simp [Sy.ukE]
      | cons e es' ih =>
        intro hh
        obtain ⟨w, t⟩ := e
        have h1 := fine_len (hh (w, t) List.mem_cons_self)
        have h2 := ih fun y hy => hh y (List.mem_cons_of_mem _ hy)
        rw [Sy.ukE, Sy.szE, List.length_append]
        simp only [] at h1
        omega
    have := go es fun e he => (h.2 e he).2
    omega
  | n + 1, .node c ts, h => by
    simp only [Sy.fine] at h
    rw [Sy.uk, Sy.sz]
    have go : ∀ es' : List Sy, (∀ e ∈ es', e.fine n) → (Sy.ukS es').length ≤ 3 * Sy.szS es' := by
      intro es'
      induction es' with
      | nil => intro _; simp [Sy.ukS]
      | cons t es' ih =>
        intro hh
        have h1 := fine_len (hh t List.mem_cons_self)
        have h2 := ih fun y hy => hh y (List.mem_cons_of_mem _ hy)
        rw [Sy.ukS, Sy.szS, List.length_append]
        omega
    have := go ts h.2.2
    omega
theorem ukE_app : ∀ {a b : List (Str × Sy)}, Sy.ukE (a ++ b) = Sy.ukE a ++ Sy.ukE b
  | [], b => by simp [Sy.ukE]
  | (w, t) :: a, b => by rw [List.cons_append, Sy.ukE, Sy.ukE, ukE_app, List.append_assoc]
theorem ukS_app : ∀ {a b : List Sy}, Sy.ukS (a ++ b) = Sy.ukS a ++ Sy.ukS b
  | [], b => by simp [Sy.ukS]
  | t :: a, b => by rw [List.cons_append, Sy.ukS, Sy.ukS, ukS_app, List.append_assoc]
theorem sem__law_found {n : Nat} {sp : DSp} (hsp : ∀ m, n = m + 1 → sp = sp__law_found m) {E : DEnds} {G0 : GP} {s : Sy} (hf : s.fine n) (hz : s.sz < 1000000) (q : ∀ a G', G' a = some (.lst (s.uk.map D.int)) → Ext G0 G' → E.rt (.ref a) G') :
    rd__law_found sp E (dstart n__law_found [s.toD]) G0 := by
  show rd__law_found sp E [some s.toD, none, none, none] G0
  unfold rd__law_found
  have hsz := sizeLine_eq
  have hlen := fine_len hf
  refine qWhen_i fun k kt kf => ?_
  cases s with
  | unk u =>
    simp only [eOp, eUn, eVar, eC, eTest, eTru, rTru, eCa, aNil, aCons, eTup, eLst, rInt, rIxd, rAdd, rIntOf, rStrOf, rLen, rTupOf, rLstOf, rEq, rIsN, rNeg, rMin, rMax, eIf, bAnd, bOr, bNot, bYes, eMtL, eMtL0, rAppend, rPop, rExtend, rInsert, rReverse, rClear, eGet1, eGet2, rGet, isDic, gNm, gsNil, gsCons, gTp, gSb, rSet, eSl, rSl, oNone, oSome, iAny, iRg1, iRg2, eLc, eDc, dwipe, CT.put, setMany, sNext, sBreak, sCont, sRetN, sNever, keyD, kD, List.getElem?_cons_zero, List.getElem?_cons_succ, List.set_cons_zero, List.set_cons_succ, List.length_cons, List.length_nil, List.cons_append, List.nil_append, atI_0, atI_1, atI_2, atI_3, atI_4, ixN_0, ixN_1, ixN_2, ixN_3, ofString_inj, String.reduceEq, decide_true, decide_false, decide_not, beq_self_eq_true, Bool.not_true, Bool.not_false, Bool.false_eq_true, Bool.true_eq_false, if_true, if_false, ite_true, ite_false, beq_t, beq_f, true_and, and_true, not_true_eq_false, not_false_eq_true, forall_const, gup_get, eq_self, reduceCtorEq, reduceIte, Sy.toD]
    refine kt _ (sRet_i ?_)
    simp only [eOp, eUn, eVar, eC, eTest, eTru, rTru, eCa, aNil, aCons, eTup, eLst, rInt, rIxd, rAdd, rIntOf, rStrOf, rLen, rTupOf, rLstOf, rEq, rIsN, rNeg, rMin, rMax, eIf, bAnd, bOr, bNot, bYes, eMtL, eMtL0, rAppend, rPop, rExtend, rInsert, rReverse, rClear, eGet1, eGet2, rGet, isDic, gNm, gsNil, gsCons, gTp, gSb, rSet, eSl, rSl, oNone, oSome, iAny, iRg1, iRg2, eLc, eDc, dwipe, CT.put, setMany, sNext, sBreak, sCont, sRetN, sNever, keyD, kD, List.getElem?_cons_zero, List.getElem?_cons_succ, List.set_cons_zero, List.set_cons_succ, List.length_cons, List.length_nil, List.cons_append, List.nil_append, atI_0, atI_1, atI_2, atI_3, atI_4, ixN_0, ixN_1, ixN_2, ixN_3, ofString_inj, String.reduceEq, decide_true, decide_false, decide_not, beq_self_eq_true, Bool.not_true, Bool.not_false, Bool.false_eq_true, Bool.true_eq_false, if_true, if_false, ite_true, ite_false, beq_t, beq_f, true_and, and_true, not_true_eq_false, not_false_eq_true, forall_const, gup_get, eq_self, reduceCtorEq, reduceIte, Sy.toD]
    exact ⟨by decide, fun a ha => q a _ gup_same (Ext.new ha)⟩
  | sum ps i =>
    simp only [eOp, eUn, eVar, eC, eTest, eTru, rTru, eCa, aNil, aCons, eTup, eLst, rInt, rIxd, rAdd, rIntOf, rStrOf, rLen, rTupOf, rLstOf, rEq, rIsN, rNeg, rMin, rMax, eIf, bAnd, bOr, bNot, bYes, eMtL, eMtL0, rAppend, rPop, rExtend, rInsert, rReverse, rClear, eGet1, eGet2, rGet, isDic, gNm, gsNil, gsCons, gTp, gSb, rSet, eSl, rSl, oNone, oSome, iAny, iRg1, iRg2, eLc, eDc, dwipe, CT.put, setMany, sNext, sBreak, sCont, sRetN, sNever, keyD, kD, List.getElem?_cons_zero, List.getElem?_cons_succ, List.set_cons_zero, List.set_cons_succ, List.length_cons, List.length_nil, List.cons_append, List.nil_append, atI_0, atI_1, atI_2, atI_3, atI_4, ixN_0, ixN_1, ixN_2, ixN_3, ofString_inj, String.reduceEq, decide_true, decide_false, decide_not, beq_self_eq_true, Bool.not_true, Bool.not_false, Bool.false_eq_true, Bool.true_eq_false, if_true, if_false, ite_true, ite_false, beq_t, beq_f, true_and, and_true, not_true_eq_false, not_false_eq_true, forall_const, gup_get, eq_self, reduceCtorEq, reduceIte, Sy.toD]
    refine kf _ (qWhen_i fun k kt kf => ?_)
    simp only [eOp, eUn, eVar, eC, eTest, eTru, rTru, eCa, aNil, aCons, eTup, eLst, rInt, rIxd, rAdd, rIntOf, rStrOf, rLen, rTupOf, rLstOf, rEq, rIsN, rNeg, rMin, rMax, eIf, bAnd, bOr, bNot, bYes, eMtL, eMtL0, rAppend, rPop, rExtend, rInsert, rReverse, rClear, eGet1, eGet2, rGet, isDic, gNm, gsNil, gsCons, gTp, gSb, rSet, eSl, rSl, oNone, oSome, iAny, iRg1, iRg2, eLc, eDc, dwipe, CT.put, setMany, sNext, sBreak, sCont, sRetN, sNever, keyD, kD, List.getElem?_cons_zero, List.getElem?_cons_succ, List.set_cons_zero, List.set_cons_succ, List.length_cons, List.length_nil, List.cons_append, List.nil_append, atI_0, atI_1, atI_2, atI_3, atI_4, ixN_0, ixN_1, ixN_2, ixN_3, ofString_inj, String.reduceEq, decide_true, decide_false, decide_not, beq_self_eq_true, Bool.not_true, Bool.not_false, Bool.false_eq_true, Bool.true_eq_false, if_true, if_false, ite_true, ite_false, beq_t, beq_f, true_and, and_true, not_true_eq_false, not_false_eq_true, forall_const, gup_get, eq_self, reduceCtorEq, reduceIte, Sy.toD]
    refine kt _ (sRet_i ?_)
    simp only [eOp, eUn, eVar, eC, eTest, eTru, rTru, eCa, aNil, aCons, eTup, eLst, rInt, rIxd, rAdd, rIntOf, rStrOf, rLen, rTupOf, rLstOf, rEq, rIsN, rNeg, rMin, rMax, eIf, bAnd, bOr, bNot, bYes, eMtL, eMtL0, rAppend, rPop, rExtend, rInsert, rReverse, rClear, eGet1, eGet2, rGet, isDic, gNm, gsNil, gsCons, gTp, gSb, rSet, eSl, rSl, oNone, oSome, iAny, iRg1, iRg2, eLc, eDc, dwipe, CT.put, setMany, sNext, sBreak, sCont, sRetN, sNever, keyD, kD, List.getElem?_cons_zero, List.getElem?_cons_succ, List.set_cons_zero, List.set_cons_succ, List.length_cons, List.length_nil, List.cons_append, List.nil_append, atI_0, atI_1, atI_2, atI_3, atI_4, ixN_0, ixN_1, ixN_2, ixN_3, ofString_inj, String.reduceEq, decide_true, decide_false, decide_not, beq_self_eq_true, Bool.not_true, Bool.not_false, Bool.false_eq_true, Bool.true_eq_false, if_true, if_false, ite_true, ite_false, beq_t, beq_f, true_and, and_true, not_true_eq_false, not_false_eq_true, forall_const, gup_get, eq_self, reduceCtorEq, reduceIte, Sy.toD]
    have hps : ps.length ≤ 3 := by cases n <;> (simp only [Sy.fine] at hf; exact hf.1)
    refine lcL_pure (f := fun d => match d with | .tup [.int u, _] => .int u | _ => .non) (fun x hx => ?_) trivial (by simp [psD]; omega) ?_
    · obtain ⟨e, he, rfl⟩ := List.mem_map.mp hx
      refine ⟨_, rfl, fun k hk => ?_⟩
      simp only [eOp, eUn, eVar, eC, eTest, eTru, rTru, eCa, aNil, aCons, eTup, eLst, rInt, rIxd, rAdd, rIntOf, rStrOf, rLen, rTupOf, rLstOf, rEq, rIsN, rNeg, rMin, rMax, eIf, bAnd, bOr, bNot, bYes, eMtL, eMtL0, rAppend, rPop, rExtend, rInsert, rReverse, rClear, eGet1, eGet2, rGet, isDic, gNm, gsNil, gsCons, gTp, gSb, rSet, eSl, rSl, oNone, oSome, iAny, iRg1, iRg2, eLc, eDc, dwipe, CT.put, setMany, sNext, sBreak, sCont, sRetN, sNever, keyD, kD, List.getElem?_cons_zero, List.getElem?_cons_succ, List.set_cons_zero, List.set_cons_succ, List.length_cons, List.length_nil, List.cons_append, List.nil_append, atI_0, atI_1, atI_2, atI_3, atI_4, ixN_0, ixN_1, ixN_2, ixN_3, ofString_inj, String.reduceEq, decide_true, decide_false, decide_not, beq_self_eq_true, Bool.not_true, Bool.not_false, Bool.false_eq_true, Bool.true_eq_false, if_true, if_false, ite_true, ite_false, beq_t, beq_f, true_and, and_true, not_true_eq_false, not_false_eq_true, forall_const, gup_get, eq_self, reduceCtorEq, reduceIte, dwipe]
      exact hk
    · intro a ha
      refine q a _ (gup_same.trans ?_) (Ext.new ha)
      rw [List.nil_append, psD, List.map_map, Sy.uk, List.map_map]
      rfl
  | name w =>
    simp only [eOp, eUn, eVar, eC, eTest, eTru, rTru, eCa, aNil, aCons, eTup, eLst, rInt, rIxd, rAdd, rIntOf, rStrOf, rLen, rTupOf, rLstOf, rEq, rIsN, rNeg, rMin, rMax, eIf, bAnd, bOr, bNot, bYes, eMtL, eMtL0, rAppend, rPop, rExtend, rInsert, rReverse, rClear, eGet1, eGet2, rGet, isDic, gNm, gsNil, gsCons, gTp, gSb, rSet, eSl, rSl, oNone, oSome, iAny, iRg1, iRg2, eLc, eDc, dwipe, CT.put, setMany, sNext, sBreak, sCont, sRetN, sNever, keyD, kD, List.getElem?_cons_zero, List.getElem?_cons_succ, List.set_cons_zero, List.set_cons_succ, List.length_cons, List.length_nil, List.cons_append, List.nil_append, atI_0, atI_1, atI_2, atI_3, atI_4, ixN_0, ixN_1, ixN_2, ixN_3, ofString_inj, String.reduceEq, decide_true, decide_false, decide_not, beq_self_eq_true, Bool.not_true, Bool.not_false, Bool.false_eq_true, Bool.true_eq_false, if_true, if_false, ite_true, ite_false, beq_t, beq_f, true_and, and_true, not_true_eq_false, not_false_eq_true, forall_const, gup_get, eq_self, reduceCtorEq, reduceIte, Sy.toD]
    refine kf _ (qWhen_i fun k kt kf => ?_)
    simp only [eOp, eUn, eVar, eC, eTest, eTru, rTru, eCa, aNil, aCons, eTup, eLst, rInt, rIxd, rAdd, rIntOf, rStrOf, rLen, rTupOf, rLstOf, rEq, rIsN, rNeg, rMin, rMax, eIf, bAnd, bOr, bNot, bYes, eMtL, eMtL0, rAppend, rPop, rExtend, rInsert, rReverse, rClear, eGet1, eGet2, rGet, isDic, gNm, gsNil, gsCons, gTp, gSb, rSet, eSl, rSl, oNone, oSome, iAny, iRg1, iRg2, eLc, eDc, dwipe, CT.put, setMany, sNext, sBreak, sCont, sRetN, sNever, keyD, kD, List.getElem?_cons_zero, List.getElem?_cons_succ, List.set_cons_zero, List.set_cons_succ, List.length_cons, List.length_nil, List.cons_append, List.nil_append, atI_0, atI_1, atI_2, atI_3, atI_4, ixN_0, ixN_1, ixN_2, ixN_3, ofString_inj, String.reduceEq, decide_true, decide_false, decide_not, beq_self_eq_true, Bool.not_true, Bool.not_false, Bool.false_eq_true, Bool.true_eq_false, if_true, if_false, ite_true, ite_false, beq_t, beq_f, true_and, and_true, not_true_eq_false, not_false_eq_true, forall_const, gup_get, eq_self, reduceCtorEq, reduceIte, Sy.toD]
    refine kf _ (qSet_i fun k kn => ?_)
    simp only [eOp, eUn, eVar, eC, eTest, eTru, rTru, eCa, aNil, aCons, eTup, eLst, rInt, rIxd, rAdd, rIntOf, rStrOf, rLen, rTupOf, rLstOf, rEq, rIsN, rNeg, rMin, rMax, eIf, bAnd, bOr, bNot, bYes, eMtL, eMtL0, rAppend, rPop, rExtend, rInsert, rReverse, rClear, eGet1, eGet2, rGet, isDic, gNm, gsNil, gsCons, gTp, gSb, rSet, eSl, rSl, oNone, oSome, iAny, iRg1, iRg2, eLc, eDc, dwipe, CT.put, setMany, sNext, sBreak, sCont, sRetN, sNever, keyD, kD, List.getElem?_cons_zero, List.getElem?_cons_succ, List.set_cons_zero, List.set_cons_succ, List.length_cons, List.length_nil, List.cons_append, List.nil_append, atI_0, atI_1, atI_2, atI_3, atI_4, ixN_0, ixN_1, ixN_2, ixN_3, ofString_inj, String.reduceEq, decide_true, decide_false, decide_not, beq_self_eq_true, Bool.not_true, Bool.not_false, Bool.false_eq_true, Bool.true_eq_false, if_true, if_false, ite_true, ite_false, beq_t, beq_f, true_and, and_true, not_true_eq_false, not_false_eq_true, forall_const, gup_get, eq_self, reduceCtorEq, reduceIte]
    refine ⟨Nat.zero_le _, fun a ha => kn _ _ ?_⟩
    try dsimp only [List.set_cons_zero, List.set_cons_succ]
    refine qWhen_i fun k kt kf => ?_
    simp only [eOp, eUn, eVar, eC, eTest, eTru, rTru, eCa, aNil, aCons, eTup, eLst, rInt, rIxd, rAdd, rIntOf, rStrOf, rLen, rTupOf, rLstOf, rEq, rIsN, rNeg, rMin, rMax, eIf, bAnd, bOr, bNot, bYes, eMtL, eMtL0, rAppend, rPop, rExtend, rInsert, rReverse, rClear, eGet1, eGet2, rGet, isDic, gNm, gsNil, gsCons, gTp, gSb, rSet, eSl, rSl, oNone, oSome, iAny, iRg1, iRg2, eLc, eDc, dwipe, CT.put, setMany, sNext, sBreak, sCont, sRetN, sNever, keyD, kD, List.getElem?_cons_zero, List.getElem?_cons_succ, List.set_cons_zero, List.set_cons_succ, List.length_cons, List.length_nil, List.cons_append, List.nil_append, atI_0, atI_1, atI_2, atI_3, atI_4, ixN_0, ixN_1, ixN_2, ixN_3, ofString_inj, String.reduceEq, decide_true, decide_false, decide_not, beq_self_eq_true, Bool.not_true, Bool.not_false, Bool.false_eq_true, Bool.true_eq_false, if_true, if_false, ite_true, ite_false, beq_t, beq_f, true_and, and_true, not_true_eq_false, not_false_eq_true, forall_const, gup_get, eq_self, reduceCtorEq, reduceIte, Sy.toD]
    refine kf _ (qWhen_i fun k kt kf => ?_)
    simp only [eOp, eUn, eVar, eC, eTest, eTru, rTru, eCa, aNil, aCons, eTup, eLst, rInt, rIxd, rAdd, rIntOf, rStrOf, rLen, rTupOf, rLstOf, rEq, rIsN, rNeg, rMin, rMax, eIf, bAnd, bOr, bNot, bYes, eMtL, eMtL0, rAppend, rPop, rExtend, rInsert, rReverse, rClear, eGet1, eGet2, rGet, isDic, gNm, gsNil, gsCons, gTp, gSb, rSet, eSl, rSl, oNone, oSome, iAny, iRg1, iRg2, eLc, eDc, dwipe, CT.put, setMany, sNext, sBreak, sCont, sRetN, sNever, keyD, kD, List.getElem?_cons_zero, List.getElem?_cons_succ, List.set_cons_zero, List.set_cons_succ, List.length_cons, List.length_nil, List.cons_append, List.nil_append, atI_0, atI_1, atI_2, atI_3, atI_4, ixN_0, ixN_1, ixN_2, ixN_3, ofString_inj, String.reduceEq, decide_true, decide_false, decide_not, beq_self_eq_true, Bool.not_true, Bool.not_false, Bool.false_eq_true, Bool.true_eq_false, if_true, if_false, ite_true, ite_false, beq_t, beq_f, true_and, and_true, not_true_eq_false, not_false_eq_true, forall_const, gup_get, eq_self, reduceCtorEq, reduceIte, Sy.toD]
    refine kf _ (sRet_i ?_)
    simp only [eOp, eUn, eVar, eC, eTest, eTru, rTru, eCa, aNil, aCons, eTup, eLst, rInt, rIxd, rAdd, rIntOf, rStrOf, rLen, rTupOf, rLstOf, rEq, rIsN, rNeg, rMin, rMax, eIf, bAnd, bOr, bNot, bYes, eMtL, eMtL0, rAppend, rPop, rExtend, rInsert, rReverse, rClear, eGet1, eGet2, rGet, isDic, gNm, gsNil, gsCons, gTp, gSb, rSet, eSl, rSl, oNone, oSome, iAny, iRg1, iRg2, eLc, eDc, dwipe, CT.put, setMany, sNext, sBreak, sCont, sRetN, sNever, keyD, kD, List.getElem?_cons_zero, List.getElem?_cons_succ, List.set_cons_zero, List.set_cons_succ, List.length_cons, List.length_nil, List.cons_append, List.nil_append, atI_0, atI_1, atI_2, atI_3, atI_4, ixN_0, ixN_1, ixN_2, ixN_3, ofString_inj, String.reduceEq, decide_true, decide_false, decide_not, beq_self_eq_true, Bool.not_true, Bool.not_false, Bool.false_eq_true, Bool.true_eq_false, if_true, if_false, ite_true, ite_false, beq_t, beq_f, true_and, and_true, not_true_eq_false, not_false_eq_true, forall_const, gup_get, eq_self, reduceCtorEq, reduceIte]
    exact q a _ gup_same (Ext.new ha)
  | addr w =>
    simp only [eOp, eUn, eVar, eC, eTest, eTru, rTru, eCa, aNil, aCons, eTup, eLst, rInt, rIxd, rAdd, rIntOf, rStrOf, rLen, rTupOf, rLstOf, rEq, rIsN, rNeg, rMin, rMax, eIf, bAnd, bOr, bNot, bYes, eMtL, eMtL0, rAppend, rPop, rExtend, rInsert, rReverse, rClear, eGet1, eGet2, rGet, isDic, gNm, gsNil, gsCons, gTp, gSb, rSet, eSl, rSl, oNone, oSome, iAny, iRg1, iRg2, eLc, eDc, dwipe, CT.put, setMany, sNext, sBreak, sCont, sRetN, sNever, keyD, kD, List.getElem?_cons_zero, List.getElem?_cons_succ, List.set_cons_zero, List.set_cons_succ, List.length_cons, List.length_nil, List.cons_append, List.nil_append, atI_0, atI_1, atI_2, atI_3, atI_4, ixN_0, ixN_1, ixN_2, ixN_3, ofString_inj, String.reduceEq, decide_true, decide_false, decide_not, beq_self_eq_true, Bool.not_true, Bool.not_false, Bool.false_eq_true, Bool.true_eq_false, if_true, if_false, ite_true, ite_false, beq_t, beq_f, true_and, and_true, not_true_eq_false, not_false_eq_true, forall_const, gup_get, eq_self, reduceCtorEq, reduceIte, Sy.toD]
    refine kf _ (qWhen_i fun k kt kf => ?_)
    simp only [eOp, eUn, eVar, eC, eTest, eTru, rTru, eCa, aNil, aCons, eTup, eLst, rInt, rIxd, rAdd, rIntOf, rStrOf, rLen, rTupOf, rLstOf, rEq, rIsN, rNeg, rMin, rMax, eIf, bAnd, bOr, bNot, bYes, eMtL, eMtL0, rAppend, rPop, rExtend, rInsert, rReverse, rClear, eGet1, eGet2, rGet, isDic, gNm, gsNil, gsCons, gTp, gSb, rSet, eSl, rSl, oNone, oSome, iAny, iRg1, iRg2, eLc, eDc, dwipe, CT.put, setMany, sNext, sBreak, sCont, sRetN, sNever, keyD, kD, List.getElem?_cons_zero, List.getElem?_cons_succ, List.set_cons_zero, List.set_cons_succ, List.length_cons, List.length_nil, List.cons_append, List.nil_append, atI_0, atI_1, atI_2, atI_3, atI_4, ixN_0, ixN_1, ixN_2, ixN_3, ofString_inj, String.reduceEq, decide_true, decide_false, decide_not, beq_self_eq_true, Bool.not_true, Bool.not_false, Bool.false_eq_true, Bool.true_eq_false, if_true, if_false, ite_true, ite_false, beq_t, beq_f, true_and, and_true, not_true_eq_false, not_false_eq_true, forall_const, gup_get, eq_self, reduceCtorEq, reduceIte, Sy.toD]
    refine kf _ (qSet_i fun k kn => ?_)
    simp only [eOp, eUn, eVar, eC, eTest, eTru, rTru, eCa, aNil, aCons, eTup, eLst, rInt, rIxd, rAdd, rIntOf, rStrOf, rLen, rTupOf, rLstOf, rEq, rIsN, rNeg, rMin, rMax, eIf, bAnd, bOr, bNot, bYes, eMtL, eMtL0, rAppend, rPop, rExtend, rInsert, rReverse, rClear, eGet1, eGet2, rGet, isDic, gNm, gsNil, gsCons, gTp, gSb, rSet, eSl, rSl, oNone, oSome, iAny, iRg1, iRg2, eLc, eDc, dwipe, CT.put, setMany, sNext, sBreak, sCont, sRetN, sNever, keyD, kD, List.getElem?_cons_zero, List.getElem?_cons_succ, List.set_cons_zero, List.set_cons_succ, List.length_cons, List.length_nil, List.cons_append, List.nil_append, atI_0, atI_1, atI_2, atI_3, atI_4, ixN_0, ixN_1, ixN_2, ixN_3, ofString_inj, String.reduceEq, decide_true, decide_false, decide_not, beq_self_eq_true, Bool.not_true, Bool.not_false, Bool.false_eq_true, Bool.true_eq_false, if_true, if_false, ite_true, ite_false, beq_t, beq_f, true_and, and_true, not_true_eq_false, not_false_eq_true, forall_const, gup_get, eq_self, reduceCtorEq, reduceIte]
    refine ⟨Nat.zero_le _, fun a ha => kn _ _ ?_⟩
    try dsimp only [List.set_cons_zero, List.set_cons_succ]
    refine qWhen_i fun k kt kf => ?_
    simp only [eOp, eUn, eVar, eC, eTest, eTru, rTru, eCa, aNil, aCons, eTup, eLst, rInt, rIxd, rAdd, rIntOf, rStrOf, rLen, rTupOf, rLstOf, rEq, rIsN, rNeg, rMin, rMax, eIf, bAnd, bOr, bNot, bYes, eMtL, eMtL0, rAppend, rPop, rExtend, rInsert, rReverse, rClear, eGet1, eGet2, rGet, isDic, gNm, gsNil, gsCons, gTp, gSb, rSet, eSl, rSl, oNone, oSome, iAny, iRg1, iRg2, eLc, eDc, dwipe, CT.put, setMany, sNext, sBreak, sCont, sRetN, sNever, keyD, kD, List.getElem?_cons_zero, List.getElem?_cons_succ, List.set_cons_zero, List.set_cons_succ, List.length_cons, List.length_nil, List.cons_append, List.nil_append, atI_0, atI_1, atI_2, atI_3, atI_4, ixN_0, ixN_1, ixN_2, ixN_3, ofString_inj, String.reduceEq, decide_true, decide_false, decide_not, beq_self_eq_true, Bool.not_true, Bool.not_false, Bool.false_eq_true, Bool.true_eq_false, if_true, if_false, ite_true, ite_false, beq_t, beq_f, true_and, and_true, not_true_eq_false, not_false_eq_true, forall_const, gup_get, eq_self, reduceCtorEq, reduceIte, Sy.toD]
    refine kf _ (qWhen_i fun k kt kf => ?_)
    simp only [eOp, eUn, eVar, eC, eTest, eTru, rTru, eCa, aNil, aCons, eTup, eLst, rInt, rIxd, rAdd, rIntOf, rStrOf, rLen, rTupOf, rLstOf, rEq, rIsN, rNeg, rMin, rMax, eIf, bAnd, bOr, bNot, bYes, eMtL, eMtL0, rAppend, rPop, rExtend, rInsert, rReverse, rClear, eGet1, eGet2, rGet, isDic, gNm, gsNil, gsCons, gTp, gSb, rSet, eSl, rSl, oNone, oSome, iAny, iRg1, iRg2, eLc, eDc, dwipe, CT.put, setMany, sNext, sBreak, sCont, sRetN, sNever, keyD, kD, List.getElem?_cons_zero, List.getElem?_cons_succ, List.set_cons_zero, List.set_cons_succ, List.length_cons, List.length_nil, List.cons_append, List.nil_append, atI_0, atI_1, atI_2, atI_3, atI_4, ixN_0, ixN_1, ixN_2, ixN_3, ofString_inj, String.reduceEq, decide_true, decide_false, decide_not, beq_self_eq_true, Bool.not_true, Bool.not_false, Bool.false_eq_true, Bool.true_eq_false, if_true, if_false, ite_true, ite_false, beq_t, beq_f, true_and, and_true, not_true_eq_false, not_false_eq_true, forall_const, gup_get, eq_self, reduceCtorEq, reduceIte, Sy.toD]
    refine kf _ (sRet_i ?_)
    simp only [eOp, eUn, eVar, eC, eTest, eTru, rTru, eCa, aNil, aCons, eTup, eLst, rInt, rIxd, rAdd, rIntOf, rStrOf, rLen, rTupOf, rLstOf, rEq, rIsN, rNeg, rMin, rMax, eIf, bAnd, bOr, bNot, bYes, eMtL, eMtL0, rAppend, rPop, rExtend, rInsert, rReverse, rClear, eGet1, eGet2, rGet, isDic, gNm, gsNil, gsCons, gTp, gSb, rSet, eSl, rSl, oNone, oSome, iAny, iRg1, iRg2, eLc, eDc, dwipe, CT.put, setMany, sNext, sBreak, sCont, sRetN, sNever, keyD, kD, List.getElem?_cons_zero, List.getElem?_cons_succ, List.set_cons_zero, List.set_cons_succ, List.length_cons, List.length_nil, List.cons_append, List.nil_append, atI_0, atI_1, atI_2, atI_3, atI_4, ixN_0, ixN_1, ixN_2, ixN_3, ofString_inj, String.reduceEq, decide_true, decide_false, decide_not, beq_self_eq_true, Bool.not_true, Bool.not_false, Bool.false_eq_true, Bool.true_eq_false, if_true, if_false, ite_true, ite_false, beq_t, beq_f, true_and, and_true, not_true_eq_false, not_false_eq_true, forall_const, gup_get, eq_self, reduceCtorEq, reduceIte]
    exact q a _ gup_same (Ext.new ha)
  | map es =>
    cases n with
    | zero => simp [Sy.fine] at hf
    | succ m =>
    obtain rfl := hsp m rfl
    simp only [Sy.fine] at hf
    simp only [Sy.uk] at hlen
    simp only [eOp, eUn, eVar, eC, eTest, eTru, rTru, eCa, aNil, aCons, eTup, eLst, rInt, rIxd, rAdd, rIntOf, rStrOf, rLen, rTupOf, rLstOf, rEq, rIsN, rNeg, rMin, rMax, eIf, bAnd, bOr, bNot, bYes, eMtL, eMtL0, rAppend, rPop, rExtend, rInsert, rReverse, rClear, eGet1, eGet2, rGet, isDic, gNm, gsNil, gsCons, gTp, gSb, rSet, eSl, rSl, oNone, oSome, iAny, iRg1, iRg2, eLc, eDc, dwipe, CT.put, setMany, sNext, sBreak, sCont, sRetN, sNever, keyD, kD, List.getElem?_cons_zero, List.getElem?_cons_succ, List.set_cons_zero, List.set_cons_succ, List.length_cons, List.length_nil, List.cons_append, List.nil_append, atI_0, atI_1, atI_2, atI_3, atI_4, ixN_0, ixN_1, ixN_2, ixN_3, ofString_inj, String.reduceEq, decide_true, decide_false, decide_not, beq_self_eq_true, Bool.not_true, Bool.not_false, Bool.false_eq_true, Bool.true_eq_false, if_true, if_false, ite_true, ite_false, beq_t, beq_f, true_and, and_true, not_true_eq_false, not_false_eq_true, forall_const, gup_get, eq_self, reduceCtorEq, reduceIte, Sy.toD]
    refine kf _ (qWhen_i fun k kt kf => ?_)
    simp only [eOp, eUn, eVar, eC, eTest, eTru, rTru, eCa, aNil, aCons, eTup, eLst, rInt, rIxd, rAdd, rIntOf, rStrOf, rLen, rTupOf, rLstOf, rEq, rIsN, rNeg, rMin, rMax, eIf, bAnd, bOr, bNot, bYes, eMtL, eMtL0, rAppend, rPop, rExtend, rInsert, rReverse, rClear, eGet1, eGet2, rGet, isDic, gNm, gsNil, gsCons, gTp, gSb, rSet, eSl, rSl, oNone, oSome, iAny, iRg1, iRg2, eLc, eDc, dwipe, CT.put, setMany, sNext, sBreak, sCont, sRetN, sNever, keyD, kD, List.getElem?_cons_zero, List.getElem?_cons_succ, List.set_cons_zero, List.set_cons_succ, List.length_cons, List.length_nil, List.cons_append, List.nil_append, atI_0, atI_1, atI_2, atI_3, atI_4, ixN_0, ixN_1, ixN_2, ixN_3, ofString_inj, String.reduceEq, decide_true, decide_false, decide_not, beq_self_eq_true, Bool.not_true, Bool.not_false, Bool.false_eq_true, Bool.true_eq_false, if_true, if_false, ite_true, ite_false, beq_t, beq_f, true_and, and_true, not_true_eq_false, not_false_eq_true, forall_const, gup_get, eq_self, reduceCtorEq, reduceIte, Sy.toD]
    refine kf _ (qSet_i fun k kn => ?_)
    simp only [eOp, eUn, eVar, eC, eTest, eTru, rTru, eCa, aNil, aCons, eTup, eLst, rInt, rIxd, rAdd, rIntOf, rStrOf, rLen, rTupOf, rLstOf, rEq, rIsN, rNeg, rMin, rMax, eIf, bAnd, bOr, bNot, bYes, eMtL, eMtL0, rAppend, rPop, rExtend, rInsert, rReverse, rClear, eGet1, eGet2, rGet, isDic, gNm, gsNil, gsCons, gTp, gSb, rSet, eSl, rSl, oNone, oSome, iAny, iRg1, iRg2, eLc, eDc, dwipe, CT.put, setMany, sNext, sBreak, sCont, sRetN, sNever, keyD, kD, List.getElem?_cons_zero, List.getElem?_cons_succ, List.set_cons_zero, List.set_cons_succ, List.length_cons, List.length_nil, List.cons_append, List.nil_append, atI_0, atI_1, atI_2, atI_3, atI_4, ixN_0, ixN_1, ixN_2, ixN_3, ofString_inj, String.reduceEq, decide_true, decide_false, decide_not, beq_self_eq_true, Bool.not_true, Bool.not_false, Bool.false_eq_true, Bool.true_eq_false, if_true, if_false, ite_true, ite_false, beq_t, beq_f, true_and, and_true, not_true_eq_false, not_false_eq_true, forall_const, gup_get, eq_self, reduceCtorEq, reduceIte]
    refine ⟨Nat.zero_le _, fun a ha => kn _ _ ?_⟩
    try dsimp only [List.set_cons_zero, List.set_cons_succ]
    refine qIf_i fun k kt kf => ?_
    simp only [eOp, eUn, eVar, eC, eTest, eTru, rTru, eCa, aNil, aCons, eTup, eLst, rInt, rIxd, rAdd, rIntOf, rStrOf, rLen, rTupOf, rLstOf, rEq, rIsN, rNeg, rMin, rMax, eIf, bAnd, bOr, bNot, bYes, eMtL, eMtL0, rAppend, rPop, rExtend, rInsert, rReverse, rClear, eGet1, eGet2, rGet, isDic, gNm, gsNil, gsCons, gTp, gSb, rSet, eSl, rSl, oNone, oSome, iAny, iRg1, iRg2, eLc, eDc, dwipe, CT.put, setMany, sNext, sBreak, sCont, sRetN, sNever, keyD, kD, List.getElem?_cons_zero, List.getElem?_cons_succ, List.set_cons_zero, List.set_cons_succ, List.length_cons, List.length_nil, List.cons_append, List.nil_append, atI_0, atI_1, atI_2, atI_3, atI_4, ixN_0, ixN_1, ixN_2, ixN_3, ofString_inj, String.reduceEq, decide_true, decide_false, decide_not, beq_self_eq_true, Bool.not_true, Bool.not_false, Bool.false_eq_true, Bool.true_eq_false, if_true, if_false, ite_true, ite_false, beq_t, beq_f, true_and, and_true, not_true_eq_false, not_false_eq_true, forall_const, gup_get, eq_self, reduceCtorEq, reduceIte, Sy.toD]
    refine kt _ (sFor_i fun k kn => ?_)
    simp only [eOp, eUn, eVar, eC, eTest, eTru, rTru, eCa, aNil, aCons, eTup, eLst, rInt, rIxd, rAdd, rIntOf, rStrOf, rLen, rTupOf, rLstOf, rEq, rIsN, rNeg, rMin, rMax, eIf, bAnd, bOr, bNot, bYes, eMtL, eMtL0, rAppend, rPop, rExtend, rInsert, rReverse, rClear, eGet1, eGet2, rGet, isDic, gNm, gsNil, gsCons, gTp, gSb, rSet, eSl, rSl, oNone, oSome, iAny, iRg1, iRg2, eLc, eDc, dwipe, CT.put, setMany, sNext, sBreak, sCont, sRetN, sNever, keyD, kD, List.getElem?_cons_zero, List.getElem?_cons_succ, List.set_cons_zero, List.set_cons_succ, List.length_cons, List.length_nil, List.cons_append, List.nil_append, atI_0, atI_1, atI_2, atI_3, atI_4, ixN_0, ixN_1, ixN_2, ixN_3, ofString_inj, String.reduceEq, decide_true, decide_false, decide_not, beq_self_eq_true, Bool.not_true, Bool.not_false, Bool.false_eq_true, Bool.true_eq_false, if_true, if_false, ite_true, ite_false, beq_t, beq_f, true_and, and_true, not_true_eq_false, not_false_eq_true, forall_const, gup_get, eq_self, reduceCtorEq, reduceIte, Sy.toD]
    refine kn _ _ _ ?_
    refine forL_rule (I := fun xs σ G => ∃ (es1 es2 : List (Str × Sy)) (b : Addr) (x2 x3 : Option D), σ = [some (Sy.map es).toD, some (.ref b), x2, x3] ∧ es = es1 ++ es2 ∧ xs = Sy.esD es2 ∧ G b = some (.lst ((Sy.ukE es1).map D.int)) ∧ Ext G0 G) ?_ ?_ _ _ _ ⟨[], es, a, _, _, rfl, rfl, rfl, gup_same, Ext.new ha⟩
    · rintro x xs σ G k ⟨es1, es2, b, x2, x3, rfl, he, hxs, hG, hE⟩ kk
      refine ⟨trivial, ?_⟩
      cases es2 with
      | nil => cases hxs
      | cons e es2 =>
      obtain ⟨w, t⟩ := e
      simp only [Sy.esD, List.cons.injEq] at hxs
      obtain ⟨rfl, rfl⟩ := hxs
      have hm : (w, t) ∈ es := by rw [he]; simp
      have hs1 : t.sz < 1000000 := by
        have : (Sy.map es).sz = 1 + Sy.szE es := by rw [Sy.sz]
        have h2 := congrArg Sy.szE he
        rw [szE_app, Sy.szE] at h2
        omega
      show sAsg _ _ _ ([some (Sy.map es).toD, some (.ref b), some (.tup [.tup [.str "name", .str w], t.toD]), x3]) G
      refine sSet_i fun k kn => ?_
      simp only [eOp, eUn, eVar, eC, eTest, eTru, rTru, eCa, aNil, aCons, eTup, eLst, rInt, rIxd, rAdd, rIntOf, rStrOf, rLen, rTupOf, rLstOf, rEq, rIsN, rNeg, rMin, rMax, eIf, bAnd, bOr, bNot, bYes, eMtL, eMtL0, rAppend, rPop, rExtend, rInsert, rReverse, rClear, eGet1, eGet2, rGet, isDic, gNm, gsNil, gsCons, gTp, gSb, rSet, eSl, rSl, oNone, oSome, iAny, iRg1, iRg2, eLc, eDc, dwipe, CT.put, setMany, sNext, sBreak, sCont, sRetN, sNever, keyD, kD, List.getElem?_cons_zero, List.getElem?_cons_succ, List.set_cons_zero, List.set_cons_succ, List.length_cons, List.length_nil, List.cons_append, List.nil_append, atI_0, atI_1, atI_2, atI_3, atI_4, ixN_0, ixN_1, ixN_2, ixN_3, ofString_inj, String.reduceEq, decide_true, decide_false, decide_not, beq_self_eq_true, Bool.not_true, Bool.not_false, Bool.false_eq_true, Bool.true_eq_false, if_true, if_false, ite_true, ite_false, beq_t, beq_f, true_and, and_true, not_true_eq_false, not_false_eq_true, forall_const, gup_get, eq_self, reduceCtorEq, reduceIte]
      refine ⟨t, rfl, (hf.2 _ hm).2, hs1, fun c G2 hc hE2 => ?_⟩
      have hb2 : G2 b = some (.lst ((Sy.ukE es1).map D.int)) := hE2 _ _ hG
      have hl2 : (Sy.ukE es1).length + t.uk.length ≤ (Sy.ukE es).length := by
        have := congrArg List.length (congrArg Sy.ukE he)
        rw [ukE_app, Sy.ukE, List.length_append, List.length_append] at this
        omega
      simp only [eOp, eUn, eVar, eC, eTest, eTru, rTru, eCa, aNil, aCons, eTup, eLst, rInt, rIxd, rAdd, rIntOf, rStrOf, rLen, rTupOf, rLstOf, rEq, rIsN, rNeg, rMin, rMax, eIf, bAnd, bOr, bNot, bYes, eMtL, eMtL0, rAppend, rPop, rExtend, rInsert, rReverse, rClear, eGet1, eGet2, rGet, isDic, gNm, gsNil, gsCons, gTp, gSb, rSet, eSl, rSl, oNone, oSome, iAny, iRg1, iRg2, eLc, eDc, dwipe, CT.put, setMany, sNext, sBreak, sCont, sRetN, sNever, keyD, kD, List.getElem?_cons_zero, List.getElem?_cons_succ, List.set_cons_zero, List.set_cons_succ, List.length_cons, List.length_nil, List.cons_append, List.nil_append, atI_0, atI_1, atI_2, atI_3, atI_4, ixN_0, ixN_1, ixN_2, ixN_3, ofString_inj, String.reduceEq, decide_true, decide_false, decide_not, beq_self_eq_true, Bool.not_true, Bool.not_false, Bool.false_eq_true, Bool.true_eq_false, if_true, if_false, ite_true, ite_false, beq_t, beq_f, true_and, and_true, not_true_eq_false, not_false_eq_true, forall_const, gup_get, eq_self, reduceCtorEq, reduceIte, hb2, hc]
      refine ⟨by rw [List.length_map, List.length_map]; omega, fun r hr => kn _ _ (kk _ _ ⟨es1 ++ [(w, t)], es2, r, _, _, rfl, by rw [he]; simp, rfl, gup_same.trans (by simp [ukE_app, Sy.ukE]), (hE.trans hE2).trans (Ext.new hr)⟩)⟩
    · rintro σ G ⟨es1, es2, b, x2, x3, rfl, he, hxs, hG, hE⟩
      refine ⟨trivial, ?_⟩
      have h2 : es2 = [] := by cases es2 with
        | nil => rfl
        | cons e _ => obtain ⟨_, _⟩ := e; simp [Sy.esD] at hxs
      rw [h2, List.append_nil] at he
      subst he
      dsimp only []
      refine qWhen_i fun k kt kf => ?_
      simp only [eOp, eUn, eVar, eC, eTest, eTru, rTru, eCa, aNil, aCons, eTup, eLst, rInt, rIxd, rAdd, rIntOf, rStrOf, rLen, rTupOf, rLstOf, rEq, rIsN, rNeg, rMin, rMax, eIf, bAnd, bOr, bNot, bYes, eMtL, eMtL0, rAppend, rPop, rExtend, rInsert, rReverse, rClear, eGet1, eGet2, rGet, isDic, gNm, gsNil, gsCons, gTp, gSb, rSet, eSl, rSl, oNone, oSome, iAny, iRg1, iRg2, eLc, eDc, dwipe, CT.put, setMany, sNext, sBreak, sCont, sRetN, sNever, keyD, kD, List.getElem?_cons_zero, List.getElem?_cons_succ, List.set_cons_zero, List.set_cons_succ, List.length_cons, List.length_nil, List.cons_append, List.nil_append, atI_0, atI_1, atI_2, atI_3, atI_4, ixN_0, ixN_1, ixN_2, ixN_3, ofString_inj, String.reduceEq, decide_true, decide_false, decide_not, beq_self_eq_true, Bool.not_true, Bool.not_false, Bool.false_eq_true, Bool.true_eq_false, if_true, if_false, ite_true, ite_false, beq_t, beq_f, true_and, and_true, not_true_eq_false, not_false_eq_true, forall_const, gup_get, eq_self, reduceCtorEq, reduceIte, Sy.toD]
      refine kf _ (sRet_i ?_)
      simp only [eOp, eUn, eVar, eC, eTest, eTru, rTru, eCa, aNil, aCons, eTup, eLst, rInt, rIxd, rAdd, rIntOf, rStrOf, rLen, rTupOf, rLstOf, rEq, rIsN, rNeg, rMin, rMax, eIf, bAnd, bOr, bNot, bYes, eMtL, eMtL0, rAppend, rPop, rExtend, rInsert, rReverse, rClear, eGet1, eGet2, rGet, isDic, gNm, gsNil, gsCons, gTp, gSb, rSet, eSl, rSl, oNone, oSome, iAny, iRg1, iRg2, eLc, eDc, dwipe, CT.put, setMany, sNext, sBreak, sCont, sRetN, sNever, keyD, kD, List.getElem?_cons_zero, List.getElem?_cons_succ, List.set_cons_zero, List.set_cons_succ, List.length_cons, List.length_nil, List.cons_append, List.nil_append, atI_0, atI_1, atI_2, atI_3, atI_4, ixN_0, ixN_1, ixN_2, ixN_3, ofString_inj, String.reduceEq, decide_true, decide_false, decide_not, beq_self_eq_true, Bool.not_true, Bool.not_false, Bool.false_eq_true, Bool.true_eq_false, if_true, if_false, ite_true, ite_false, beq_t, beq_f, true_and, and_true, not_true_eq_false, not_false_eq_true, forall_const, gup_get, eq_self, reduceCtorEq, reduceIte]
      exact q b _ (hG.trans (by rw [Sy.uk])) hE
  | node c ts =>
    cases n with
    | zero => simp [Sy.fine] at hf
    | succ m =>
    obtain rfl := hsp m rfl
    simp only [Sy.fine] at hf
    simp only [Sy.uk] at hlen
    simp only [eOp, eUn, eVar, eC, eTest, eTru, rTru, eCa, aNil, aCons, eTup, eLst, rInt, rIxd, rAdd, rIntOf, rStrOf, rLen, rTupOf, rLstOf, rEq, rIsN, rNeg, rMin, rMax, eIf, bAnd, bOr, bNot, bYes, eMtL, eMtL0, rAppend, rPop, rExtend, rInsert, rReverse, rClear, eGet1, eGet2, rGet, isDic, gNm, gsNil, gsCons, gTp, gSb, rSet, eSl, rSl, oNone, oSome, iAny, iRg1, iRg2, eLc, eDc, dwipe, CT.put, setMany, sNext, sBreak, sCont, sRetN, sNever, keyD, kD, List.getElem?_cons_zero, List.getElem?_cons_succ, List.set_cons_zero, List.set_cons_succ, List.length_cons, List.length_nil, List.cons_append, List.nil_append, atI_0, atI_1, atI_2, atI_3, atI_4, ixN_0, ixN_1, ixN_2, ixN_3, ofString_inj, String.reduceEq, decide_true, decide_false, decide_not, beq_self_eq_true, Bool.not_true, Bool.not_false, Bool.false_eq_true, Bool.true_eq_false, if_true, if_false, ite_true, ite_false, beq_t, beq_f, true_and, and_true, not_true_eq_false, not_false_eq_true, forall_const, gup_get, eq_self, reduceCtorEq, reduceIte, Sy.toD]
    refine kf _ (qWhen_i fun k kt kf => ?_)
    simp only [eOp, eUn, eVar, eC, eTest, eTru, rTru, eCa, aNil, aCons, eTup, eLst, rInt, rIxd, rAdd, rIntOf, rStrOf, rLen, rTupOf, rLstOf, rEq, rIsN, rNeg, rMin, rMax, eIf, bAnd, bOr, bNot, bYes, eMtL, eMtL0, rAppend, rPop, rExtend, rInsert, rReverse, rClear, eGet1, eGet2, rGet, isDic, gNm, gsNil, gsCons, gTp, gSb, rSet, eSl, rSl, oNone, oSome, iAny, iRg1, iRg2, eLc, eDc, dwipe, CT.put, setMany, sNext, sBreak, sCont, sRetN, sNever, keyD, kD, List.getElem?_cons_zero, List.getElem?_cons_succ, List.set_cons_zero, List.set_cons_succ, List.length_cons, List.length_nil, List.cons_append, List.nil_append, atI_0, atI_1, atI_2, atI_3, atI_4, ixN_0, ixN_1, ixN_2, ixN_3, ofString_inj, String.reduceEq, decide_true, decide_false, decide_not, beq_self_eq_true, Bool.not_true, Bool.not_false, Bool.false_eq_true, Bool.true_eq_false, if_true, if_false, ite_true, ite_false, beq_t, beq_f, true_and, and_true, not_true_eq_false, not_false_eq_true, forall_const, gup_get, eq_self, reduceCtorEq, reduceIte, Sy.toD]
    refine kf _ (qSet_i fun k kn => ?_)
    simp only [eOp, eUn, eVar, eC, eTest, eTru, rTru, eCa, aNil, aCons, eTup, eLst, rInt, rIxd, rAdd, rIntOf, rStrOf, rLen, rTupOf, rLstOf, rEq, rIsN, rNeg, rMin, rMax, eIf, bAnd, bOr, bNot, bYes, eMtL, eMtL0, rAppend, rPop, rExtend, rInsert, rReverse, rClear, eGet1, eGet2, rGet, isDic, gNm, gsNil, gsCons, gTp, gSb, rSet, eSl, rSl, oNone, oSome, iAny, iRg1, iRg2, eLc, eDc, dwipe, CT.put, setMany, sNext, sBreak, sCont, sRetN, sNever, keyD, kD, List.getElem?_cons_zero, List.getElem?_cons_succ, List.set_cons_zero, List.set_cons_succ, List.length_cons, List.length_nil, List.cons_append, List.nil_append, atI_0, atI_1, atI_2, atI_3, atI_4, ixN_0, ixN_1, ixN_2, ixN_3, ofString_inj, String.reduceEq, decide_true, decide_false, decide_not, beq_self_eq_true, Bool.not_true, Bool.not_false, Bool.false_eq_true, Bool.true_eq_false, if_true, if_false, ite_true, ite_false, beq_t, beq_f, true_and, and_true, not_true_eq_false, not_false_eq_true, forall_const, gup_get, eq_self, reduceCtorEq, reduceIte]
    refine ⟨Nat.zero_le _, fun a ha => kn _ _ ?_⟩
    try dsimp only [List.set_cons_zero, List.set_cons_succ]
    refine qWhen_i fun k kt kf => ?_
    simp only [eOp, eUn, eVar, eC, eTest, eTru, rTru, eCa, aNil, aCons, eTup, eLst, rInt, rIxd, rAdd, rIntOf, rStrOf, rLen, rTupOf, rLstOf, rEq, rIsN, rNeg, rMin, rMax, eIf, bAnd, bOr, bNot, bYes, eMtL, eMtL0, rAppend, rPop, rExtend, rInsert, rReverse, rClear, eGet1, eGet2, rGet, isDic, gNm, gsNil, gsCons, gTp, gSb, rSet, eSl, rSl, oNone, oSome, iAny, iRg1, iRg2, eLc, eDc, dwipe, CT.put, setMany, sNext, sBreak, sCont, sRetN, sNever, keyD, kD, List.getElem?_cons_zero, List.getElem?_cons_succ, List.set_cons_zero, List.set_cons_succ, List.length_cons, List.length_nil, List.cons_append, List.nil_append, atI_0, atI_1, atI_2, atI_3, atI_4, ixN_0, ixN_1, ixN_2, ixN_3, ofString_inj, String.reduceEq, decide_true, decide_false, decide_not, beq_self_eq_true, Bool.not_true, Bool.not_false, Bool.false_eq_true, Bool.true_eq_false, if_true, if_false, ite_true, ite_false, beq_t, beq_f, true_and, and_true, not_true_eq_false, not_false_eq_true, forall_const, gup_get, eq_self, reduceCtorEq, reduceIte, Sy.toD]
    refine kf _ (qIf_i fun k kt kf => ?_)
    simp only [eOp, eUn, eVar, eC, eTest, eTru, rTru, eCa, aNil, aCons, eTup, eLst, rInt, rIxd, rAdd, rIntOf, rStrOf, rLen, rTupOf, rLstOf, rEq, rIsN, rNeg, rMin, rMax, eIf, bAnd, bOr, bNot, bYes, eMtL, eMtL0, rAppend, rPop, rExtend, rInsert, rReverse, rClear, eGet1, eGet2, rGet, isDic, gNm, gsNil, gsCons, gTp, gSb, rSet, eSl, rSl, oNone, oSome, iAny, iRg1, iRg2, eLc, eDc, dwipe, CT.put, setMany, sNext, sBreak, sCont, sRetN, sNever, keyD, kD, List.getElem?_cons_zero, List.getElem?_cons_succ, List.set_cons_zero, List.set_cons_succ, List.length_cons, List.length_nil, List.cons_append, List.nil_append, atI_0, atI_1, atI_2, atI_3, atI_4, ixN_0, ixN_1, ixN_2, ixN_3, ofString_inj, String.reduceEq, decide_true, decide_false, decide_not, beq_self_eq_true, Bool.not_true, Bool.not_false, Bool.false_eq_true, Bool.true_eq_false, if_true, if_false, ite_true, ite_false, beq_t, beq_f, true_and, and_true, not_true_eq_false, not_false_eq_true, forall_const, gup_get, eq_self, reduceCtorEq, reduceIte, Sy.toD]
    refine kt _ (sFor_i fun k kn => ?_)
    simp only [eOp, eUn, eVar, eC, eTest, eTru, rTru, eCa, aNil, aCons, eTup, eLst, rInt, rIxd, rAdd, rIntOf, rStrOf, rLen, rTupOf, rLstOf, rEq, rIsN, rNeg, rMin, rMax, eIf, bAnd, bOr, bNot, bYes, eMtL, eMtL0, rAppend, rPop, rExtend, rInsert, rReverse, rClear, eGet1, eGet2, rGet, isDic, gNm, gsNil, gsCons, gTp, gSb, rSet, eSl, rSl, oNone, oSome, iAny, iRg1, iRg2, eLc, eDc, dwipe, CT.put, setMany, sNext, sBreak, sCont, sRetN, sNever, keyD, kD, List.getElem?_cons_zero, List.getElem?_cons_succ, List.set_cons_zero, List.set_cons_succ, List.length_cons, List.length_nil, List.cons_append, List.nil_append, atI_0, atI_1, atI_2, atI_3, atI_4, ixN_0, ixN_1, ixN_2, ixN_3, ofString_inj, String.reduceEq, decide_true, decide_false, decide_not, beq_self_eq_true, Bool.not_true, Bool.not_false, Bool.false_eq_true, Bool.true_eq_false, if_true, if_false, ite_true, ite_false, beq_t, beq_f, true_and, and_true, not_true_eq_false, not_false_eq_true, forall_const, gup_get, eq_self, reduceCtorEq, reduceIte, Sy.toD]
    refine kn _ _ _ ?_
    refine forL_rule (I := fun xs σ G => ∃ (es1 es2 : List Sy) (b : Addr) (x2 x3 : Option D), σ = [some (Sy.node c ts).toD, some (.ref b), x2, x3] ∧ ts = es1 ++ es2 ∧ xs = Sy.tsD es2 ∧ G b = some (.lst ((Sy.ukS es1).map D.int)) ∧ Ext G0 G) ?_ ?_ _ _ _ ⟨[], ts, a, _, _, rfl, rfl, rfl, gup_same, Ext.new ha⟩
    · rintro x xs σ G k ⟨es1, es2, b, x2, x3, rfl, he, hxs, hG, hE⟩ kk
      refine ⟨trivial, ?_⟩
      cases es2 with
      | nil => cases hxs
      | cons t es2 =>
      simp only [Sy.tsD, List.cons.injEq] at hxs
      obtain ⟨rfl, rfl⟩ := hxs
      have hm : t ∈ ts := by rw [he]; simp
      have hs1 : t.sz < 1000000 := by
        have : (Sy.node c ts).sz = 1 + Sy.szS ts := by rw [Sy.sz]
        have h2 := congrArg Sy.szS he
        rw [szS_app, Sy.szS] at h2
        omega
      show sAsg _ _ _ ([some (Sy.node c ts).toD, some (.ref b), x2, some t.toD]) G
      refine sSet_i fun k kn => ?_
      simp only [eOp, eUn, eVar, eC, eTest, eTru, rTru, eCa, aNil, aCons, eTup, eLst, rInt, rIxd, rAdd, rIntOf, rStrOf, rLen, rTupOf, rLstOf, rEq, rIsN, rNeg, rMin, rMax, eIf, bAnd, bOr, bNot, bYes, eMtL, eMtL0, rAppend, rPop, rExtend, rInsert, rReverse, rClear, eGet1, eGet2, rGet, isDic, gNm, gsNil, gsCons, gTp, gSb, rSet, eSl, rSl, oNone, oSome, iAny, iRg1, iRg2, eLc, eDc, dwipe, CT.put, setMany, sNext, sBreak, sCont, sRetN, sNever, keyD, kD, List.getElem?_cons_zero, List.getElem?_cons_succ, List.set_cons_zero, List.set_cons_succ, List.length_cons, List.length_nil, List.cons_append, List.nil_append, atI_0, atI_1, atI_2, atI_3, atI_4, ixN_0, ixN_1, ixN_2, ixN_3, ofString_inj, String.reduceEq, decide_true, decide_false, decide_not, beq_self_eq_true, Bool.not_true, Bool.not_false, Bool.false_eq_true, Bool.true_eq_false, if_true, if_false, ite_true, ite_false, beq_t, beq_f, true_and, and_true, not_true_eq_false, not_false_eq_true, forall_const, gup_get, eq_self, reduceCtorEq, reduceIte]
      refine ⟨t, rfl, hf.2.2 _ hm, hs1, fun c G2 hc hE2 => ?_⟩
      have hb2 : G2 b = some (.lst ((Sy.ukS es1).map D.int)) := hE2 _ _ hG
      have hl2 : (Sy.ukS es1).length + t.uk.length ≤ (Sy.ukS ts).length := by
        have := congrArg List.length (congrArg Sy.ukS he)
        rw [ukS_app, Sy.ukS, List.length_append, List.length_append] at this
        omega
      simp only [eOp, eUn, eVar, eC, eTest, eTru, rTru, eCa, aNil, aCons, eTup, eLst, rInt, rIxd, rAdd, rIntOf, rStrOf, rLen, rTupOf, rLstOf, rEq, rIsN, rNeg, rMin, rMax, eIf, bAnd, bOr, bNot, bYes, eMtL, eMtL0, rAppend, rPop, rExtend, rInsert, rReverse, rClear, eGet1, eGet2, rGet, isDic, gNm, gsNil, gsCons, gTp, gSb, rSet, eSl, rSl, oNone, oSome, iAny, iRg1, iRg2, eLc, eDc, dwipe, CT.put, setMany, sNext, sBreak, sCont, sRetN, sNever, keyD, kD, List.getElem?_cons_zero, List.getElem?_cons_succ, List.set_cons_zero, List.set_cons_succ, List.length_cons, List.length_nil, List.cons_append, List.nil_append, atI_0, atI_1, atI_2, atI_3, atI_4, ixN_0, ixN_1, ixN_2, ixN_3, ofString_inj, String.reduceEq, decide_true, decide_false, decide_not, beq_self_eq_true, Bool.not_true, Bool.not_false, Bool.false_eq_true, Bool.true_eq_false, if_true, if_false, ite_true, ite_false, beq_t, beq_f, true_and, and_true, not_true_eq_false, not_false_eq_true, forall_const, gup_get, eq_self, reduceCtorEq, reduceIte, hb2, hc]
      refine ⟨by rw [List.length_map, List.length_map]; omega, fun r hr => kn _ _ (kk _ _ ⟨es1 ++ [t], es2, r, _, _, rfl, by rw [he]; simp, rfl, gup_same.trans (by simp [ukS_app, Sy.ukS]), (hE.trans hE2).trans (Ext.new hr)⟩)⟩
    · rintro σ G ⟨es1, es2, b, x2, x3, rfl, he, hxs, hG, hE⟩
      refine ⟨trivial, ?_⟩
      have h2 : es2 = [] := by cases es2 with
        | nil => rfl
        | cons e _ => simp [Sy.tsD] at hxs
      rw [h2, List.append_nil] at he
      subst he
      dsimp only []
      refine sRet_i ?_
      simp only [eOp, eUn, eVar, eC, eTest, eTru, rTru, eCa, aNil, aCons, eTup, eLst, rInt, rIxd, rAdd, rIntOf, rStrOf, rLen, rTupOf, rLstOf, rEq, rIsN, rNeg, rMin, rMax, eIf, bAnd, bOr, bNot, bYes, eMtL, eMtL0, rAppend, rPop, rExtend, rInsert, rReverse, rClear, eGet1, eGet2, rGet, isDic, gNm, gsNil, gsCons, gTp, gSb, rSet, eSl, rSl, oNone, oSome, iAny, iRg1, iRg2, eLc, eDc, dwipe, CT.put, setMany, sNext, sBreak, sCont, sRetN, sNever, keyD, kD, List.getElem?_cons_zero, List.getElem?_cons_succ, List.set_cons_zero, List.set_cons_succ, List.length_cons, List.length_nil, List.cons_append, List.nil_append, atI_0, atI_1, atI_2, atI_3, atI_4, ixN_0, ixN_1, ixN_2, ixN_3, ofString_inj, String.reduceEq, decide_true, decide_false, decide_not, beq_self_eq_true, Bool.not_true, Bool.not_false, Bool.false_eq_true, Bool.true_eq_false, if_true, if_false, ite_true, ite_false, beq_t, beq_f, true_and, and_true, not_true_eq_false, not_false_eq_true, forall_const, gup_get, eq_self, reduceCtorEq, reduceIte]
      exact q b _ (hG.trans (by rw [Sy.uk])) hE
/-! ### once -/
def sp__law_once : DSp := fun ds G Q => ∃ (a : Addr) (us : List Int), ds = [.ref a] ∧ G a = some (.lst (us.map D.int)) ∧ us.length < sizeLine ∧ ∀ us' b G', Asc us' (· ∈ us) → G' b = some (.lst (us'.map D.int)) → Ext G G' → Q (.ref b) G'
theorem inD_ints {u : Int} {us : List Int} : inD (.int u) (us.map D.int) = decide (u ∈ us) := by
  unfold inD
  rw [List.any_map]
  apply Bool.eq_iff_iff.mpr
  rw [List.any_eq_true, decide_eq_true_iff]
  constructor
  · rintro ⟨x, hx, h⟩
    simp only [Function.comp, eqFl, beq_iff_eq] at h
    exact h ▸ hx
  · intro h
    exact ⟨u, h, by simp [eqFl]⟩
theorem flat_ints {us : List Int} : (us.map D.int).all flatD = true := by
  rw [List.all_map, List.all_eq_true]
  intro x hx
  rfl
theorem sem__law_once {E : DEnds} {G0 : GP} {a : Addr} {us : List Int} (h : G0 a = some (.lst (us.map D.int))) (hl : us.length < sizeLine) (q : ∀ us' b G', Asc us' (· ∈ us) → G' b = some (.lst (us'.map D.int)) → Ext G0 G' → E.rt (.ref b) G') :
    rd__law_once E (dstart n__law_once [.ref a]) G0 := by
  show rd__law_once E [some (.ref a), none, none] G0
  unfold rd__law_once
  have hsz := sizeLine_eq
  refine qSet_i fun k kn => ?_
  simp only [eOp, eUn, eVar, eC, eTest, eTru, rTru, eCa, aNil, aCons, eTup, eLst, rInt, rIxd, rAdd, rIntOf, rStrOf, rLen, rTupOf, rLstOf, rEq, rIsN, rNeg, rMin, rMax, eIf, bAnd, bOr, bNot, bYes, eMtL, eMtL0, rAppend, rPop, rExtend, rInsert, rReverse, rClear, eGet1, eGet2, rGet, isDic, gNm, gsNil, gsCons, gTp, gSb, rSet, eSl, rSl, oNone, oSome, iAny, iRg1, iRg2, eLc, eDc, dwipe, CT.put, setMany, sNext, sBreak, sCont, sRetN, sNever, keyD, kD, List.getElem?_cons_zero, List.getElem?_cons_succ, List.set_cons_zero, List.set_cons_succ, List.length_cons, List.length_nil, List.cons_append, List.nil_append, atI_0, atI_1, atI_2, atI_3, atI_4, ixN_0, ixN_1, ixN_2, ixN_3, ofString_inj, String.reduceEq, decide_true, decide_false, decide_not, beq_self_eq_true, Bool.not_true, Bool.not_false, Bool.false_eq_true, Bool.true_eq_false, if_true, if_false, ite_true, ite_false, beq_t, beq_f, true_and, and_true, not_true_eq_false, not_false_eq_true, forall_const, gup_get, eq_self, reduceCtorEq, reduceIte]
  refine ⟨Nat.zero_le _, fun f hf => kn _ _ ?_⟩
  try dsimp only [List.set_cons_zero, List.set_cons_succ]
  refine qFor_i fun k kn => ?_
  have naf : a ≠ f := ne_none h hf
  simp only [eOp, eUn, eVar, eC, eTest, eTru, rTru, eCa, aNil, aCons, eTup, eLst, rInt, rIxd, rAdd, rIntOf, rStrOf, rLen, rTupOf, rLstOf, rEq, rIsN, rNeg, rMin, rMax, eIf, bAnd, bOr, bNot, bYes, eMtL, eMtL0, rAppend, rPop, rExtend, rInsert, rReverse, rClear, eGet1, eGet2, rGet, isDic, gNm, gsNil, gsCons, gTp, gSb, rSet, eSl, rSl, oNone, oSome, iAny, iRg1, iRg2, eLc, eDc, dwipe, CT.put, setMany, sNext, sBreak, sCont, sRetN, sNever, keyD, kD, List.getElem?_cons_zero, List.getElem?_cons_succ, List.set_cons_zero, List.set_cons_succ, List.length_cons, List.length_nil, List.cons_append, List.nil_append, atI_0, atI_1, atI_2, atI_3, atI_4, ixN_0, ixN_1, ixN_2, ixN_3, ofString_inj, String.reduceEq, decide_true, decide_false, decide_not, beq_self_eq_true, Bool.not_true, Bool.not_false, Bool.false_eq_true, Bool.true_eq_false, if_true, if_false, ite_true, ite_false, beq_t, beq_f, true_and, and_true, not_true_eq_false, not_false_eq_true, forall_const, gup_get, eq_self, reduceCtorEq, reduceIte]
  refine .inl ⟨a, us, rfl, .inl ((gup_ne naf).trans h), fun ns b hp hs hb => ?_⟩
  have nfb : f ≠ b := ne_none gup_same hb
  simp only [gup_same]
  refine kn _ _ _ ?_
  have hnl : ns.length < sizeLine := by rw [hp.length_eq]; exact hl
  refine forL_rule (I := fun xs σ G => ∃ (n1 n2 fs : List Int) (x2 : Option D), σ = [some (.ref a), some (.ref f), x2] ∧ ns = n1 ++ n2 ∧ xs = n2.map D.int ∧ G f = some (.lst (fs.map D.int)) ∧ fs.length ≤ n1.length ∧ Asc fs (· ∈ n1) ∧ G b = some (.lst (ns.map D.int)) ∧ Ext G0 G) ?_ ?_ _ _ _ ⟨[], ns, [], _, rfl, rfl, rfl, (gup_ne nfb).trans gup_same, by simp, ⟨by simp, by simp⟩, gup_same, (Ext.new hf).trans (Ext.new hb)⟩
  · rintro x xs σ G k ⟨n1, n2, fs, x2, rfl, hn, hxs, hG, hfl, hA, hB, hE⟩ kk
    refine ⟨.inl hB, ?_⟩
    cases n2 with
    | nil => cases hxs
    | cons u n2 =>
    simp only [List.map_cons, List.cons.injEq] at hxs
    obtain ⟨rfl, rfl⟩ := hxs
    have hn' : ns.length = n1.length + (n2.length + 1) := by rw [hn]; simp
    show sIf _ _ _ _ ([some (.ref a), some (.ref f), some (.int u)]) G
    refine sIf_i fun k kt kf => ?_
    simp only [eOp, eUn, eVar, eC, eTest, eTru, rTru, eCa, aNil, aCons, eTup, eLst, rInt, rIxd, rAdd, rIntOf, rStrOf, rLen, rTupOf, rLstOf, rEq, rIsN, rNeg, rMin, rMax, eIf, bAnd, bOr, bNot, bYes, eMtL, eMtL0, rAppend, rPop, rExtend, rInsert, rReverse, rClear, eGet1, eGet2, rGet, isDic, gNm, gsNil, gsCons, gTp, gSb, rSet, eSl, rSl, oNone, oSome, iAny, iRg1, iRg2, eLc, eDc, dwipe, CT.put, setMany, sNext, sBreak, sCont, sRetN, sNever, keyD, kD, List.getElem?_cons_zero, List.getElem?_cons_succ, List.set_cons_zero, List.set_cons_succ, List.length_cons, List.length_nil, List.cons_append, List.nil_append, atI_0, atI_1, atI_2, atI_3, atI_4, ixN_0, ixN_1, ixN_2, ixN_3, ofString_inj, String.reduceEq, decide_true, decide_false, decide_not, beq_self_eq_true, Bool.not_true, Bool.not_false, Bool.false_eq_true, Bool.true_eq_false, if_true, if_false, ite_true, ite_false, beq_t, beq_f, true_and, and_true, not_true_eq_false, not_false_eq_true, forall_const, gup_get, eq_self, reduceCtorEq, reduceIte, rIn, hG]
    refine ⟨rfl, flat_ints, ?_⟩
    rw [inD_ints]
    by_cases hu : u ∈ fs
    · rw [decide_eq_true hu]
      refine kf _ (kk _ _ ⟨n1 ++ [u], n2, fs, _, rfl, by rw [hn]; simp, rfl, hG, by simp; omega, ⟨hA.1, fun v => ?_⟩, hB, hE⟩)
      show v ∈ fs ↔ v ∈ n1 ++ [u]
      rw [List.mem_append, List.mem_singleton]
      refine (hA.2 v).trans ?_
      exact ⟨.inl, fun h => h.elim id fun e => e ▸ (hA.2 u).mp hu⟩
    · rw [decide_eq_false hu]
      refine kt _ (sDrop_i fun k kn => ?_)
      simp only [eOp, eUn, eVar, eC, eTest, eTru, rTru, eCa, aNil, aCons, eTup, eLst, rInt, rIxd, rAdd, rIntOf, rStrOf, rLen, rTupOf, rLstOf, rEq, rIsN, rNeg, rMin, rMax, eIf, bAnd, bOr, bNot, bYes, eMtL, eMtL0, rAppend, rPop, rExtend, rInsert, rReverse, rClear, eGet1, eGet2, rGet, isDic, gNm, gsNil, gsCons, gTp, gSb, rSet, eSl, rSl, oNone, oSome, iAny, iRg1, iRg2, eLc, eDc, dwipe, CT.put, setMany, sNext, sBreak, sCont, sRetN, sNever, keyD, kD, List.getElem?_cons_zero, List.getElem?_cons_succ, List.set_cons_zero, List.set_cons_succ, List.length_cons, List.length_nil, List.cons_append, List.nil_append, atI_0, atI_1, atI_2, atI_3, atI_4, ixN_0, ixN_1, ixN_2, ixN_3, ofString_inj, String.reduceEq, decide_true, decide_false, decide_not, beq_self_eq_true, Bool.not_true, Bool.not_false, Bool.false_eq_true, Bool.true_eq_false, if_true, if_false, ite_true, ite_false, beq_t, beq_f, true_and, and_true, not_true_eq_false, not_false_eq_true, forall_const, gup_get, eq_self, reduceCtorEq, reduceIte, hG]
      refine ⟨by rw [List.length_map]; omega, kn _ _ (kk _ _ ⟨n1 ++ [u], n2, fs ++ [u], _, rfl, by rw [hn]; simp, rfl, gup_same.trans (by simp), by simp; omega, ⟨?_, fun v => ?_⟩, (gup_ne (Ne.symm nfb)).trans hB, hE.put hf⟩)⟩
      · rw [List.pairwise_append]
        refine ⟨hA.1, by simp, fun x hx y hy => ?_⟩
        rw [List.mem_singleton.mp hy]
        have h1 := (hA.2 x).mp hx
        have h2 : x ≤ u := by
          rw [hn, List.pairwise_append] at hs
          exact hs.2.2 x h1 u List.mem_cons_self
        have h3 : x ≠ u := fun e => hu (e ▸ hx)
        omega
      · show v ∈ fs ++ [u] ↔ v ∈ n1 ++ [u]
        rw [List.mem_append, List.mem_append]
        exact or_congr (hA.2 v) Iff.rfl
  · rintro σ G ⟨n1, n2, fs, x2, rfl, hn, hxs, hG, hfl, hA, hB, hE⟩
    refine ⟨.inl hB, ?_⟩
    have h2 : n2 = [] := by cases n2 with
      | nil => rfl
      | cons e _ => simp at hxs
    rw [h2, List.append_nil] at hn
    subst hn
    dsimp only []
    refine sRet_i ?_
    simp only [eOp, eUn, eVar, eC, eTest, eTru, rTru, eCa, aNil, aCons, eTup, eLst, rInt, rIxd, rAdd, rIntOf, rStrOf, rLen, rTupOf, rLstOf, rEq, rIsN, rNeg, rMin, rMax, eIf, bAnd, bOr, bNot, bYes, eMtL, eMtL0, rAppend, rPop, rExtend, rInsert, rReverse, rClear, eGet1, eGet2, rGet, isDic, gNm, gsNil, gsCons, gTp, gSb, rSet, eSl, rSl, oNone, oSome, iAny, iRg1, iRg2, eLc, eDc, dwipe, CT.put, setMany, sNext, sBreak, sCont, sRetN, sNever, keyD, kD, List.getElem?_cons_zero, List.getElem?_cons_succ, List.set_cons_zero, List.set_cons_succ, List.length_cons, List.length_nil, List.cons_append, List.nil_append, atI_0, atI_1, atI_2, atI_3, atI_4, ixN_0, ixN_1, ixN_2, ixN_3, ofString_inj, String.reduceEq, decide_true, decide_false, decide_not, beq_self_eq_true, Bool.not_true, Bool.not_false, Bool.false_eq_true, Bool.true_eq_false, if_true, if_false, ite_true, ite_false, beq_t, beq_f, true_and, and_true, not_true_eq_false, not_false_eq_true, forall_const, gup_get, eq_self, reduceCtorEq, reduceIte]
    exact q fs f G ⟨hA.1, fun u => (hA.2 u).trans hp.mem_iff⟩ hG hE

/-! ### ways -/
def sp__law_ways (n : Nat) : DSp := fun ds G Q => ∃ s : Sy, ds = [s.toD] ∧ s.fine n ∧ s.sz < 1000000 ∧ ∀ (ws : List (List Nat)) a G', G' a = some (.lst (ws.map fun w => .tup (wayD w))) → ws ≠ [] → ws.length ≤ s.sz → (∀ w ∈ ws, Way s w ∧ w.length ≤ n) → Ext G G' → Q (.ref a) G'
theorem sem__law_ways {n : Nat} {sp : DSp} (hn : n < 60) (hsp : ∀ m, n = m + 1 → sp = sp__law_ways m) {E : DEnds} {G0 : GP} {s : Sy} (hf : s.fine n) (hz : s.sz < 1000000) (q : ∀ (ws : List (List Nat)) a G', G' a = some (.lst (ws.map fun w => .tup (wayD w))) → ws ≠ [] → ws.length ≤ s.sz → (∀ w ∈ ws, Way s w ∧ w.length ≤ n) → Ext G0 G' → E.rt (.ref a) G') :
    rd__law_ways sp E (dstart n__law_ways [s.toD]) G0 := by
  show rd__law_ways sp E [some s.toD, none, none, none] G0
  unfold rd__law_ways
  have hsz := sizeLine_eq
  refine qSet_i fun k kn => ?_
  simp only [eOp, eUn, eVar, eC, eTest, eTru, rTru, eCa, aNil, aCons, eTup, eLst, rInt, rIxd, rAdd, rIntOf, rStrOf, rLen, rTupOf, rLstOf, rEq, rIsN, rNeg, rMin, rMax, eIf, bAnd, bOr, bNot, bYes, eMtL, eMtL0, rAppend, rPop, rExtend, rInsert, rReverse, rClear, eGet1, eGet2, rGet, isDic, gNm, gsNil, gsCons, gTp, gSb, rSet, eSl, rSl, oNone, oSome, iAny, iRg1, iRg2, eLc, eDc, dwipe, CT.put, setMany, sNext, sBreak, sCont, sRetN, sNever, keyD, kD, List.getElem?_cons_zero, List.getElem?_cons_succ, List.set_cons_zero, List.set_cons_succ, List.length_cons, List.length_nil, List.cons_append, List.nil_append, atI_0, atI_1, atI_2, atI_3, atI_4, ixN_0, ixN_1, ixN_2, ixN_3, ofString_inj, String.reduceEq, decide_true, decide_false, decide_not, beq_self_eq_true, Bool.not_true, Bool.not_false, Bool.false_eq_true, Bool.true_eq_false, if_true, if_false, ite_true, ite_false, beq_t, beq_f, true_and, and_true, not_true_eq_false, not_false_eq_true, forall_const, gup_get, eq_self, reduceCtorEq, reduceIte]
  refine ⟨by decide, by decide, fun a ha => kn _ _ ?_⟩
  try dsimp only [List.set_cons_zero, List.set_cons_succ]
  have leaf : E.rt (.ref a) (gup G0 a (.lst [.tup []])) := q [[]] a _ gup_same (by simp) (by simpa using s.sz_pos) (fun w hw => by rw [List.mem_singleton.mp hw]; exact ⟨.nil, Nat.zero_le _⟩) (Ext.new ha)
  refine qIf_i fun k kt kf => ?_
  cases s with
  | sum ps i =>
    simp only [eOp, eUn, eVar, eC, eTest, eTru, rTru, eCa, aNil, aCons, eTup, eLst, rInt, rIxd, rAdd, rIntOf, rStrOf, rLen, rTupOf, rLstOf, rEq, rIsN, rNeg, rMin, rMax, eIf, bAnd, bOr, bNot, bYes, eMtL, eMtL0, rAppend, rPop, rExtend, rInsert, rReverse, rClear, eGet1, eGet2, rGet, isDic, gNm, gsNil, gsCons, gTp, gSb, rSet, eSl, rSl, oNone, oSome, iAny, iRg1, iRg2, eLc, eDc, dwipe, CT.put, setMany, sNext, sBreak, sCont, sRetN, sNever, keyD, kD, List.getElem?_cons_zero, List.getElem?_cons_succ, List.set_cons_zero, List.set_cons_succ, List.length_cons, List.length_nil, List.cons_append, List.nil_append, atI_0, atI_1, atI_2, atI_3, atI_4, ixN_0, ixN_1, ixN_2, ixN_3, ofString_inj, String.reduceEq, decide_true, decide_false, decide_not, beq_self_eq_true, Bool.not_true, Bool.not_false, Bool.false_eq_true, Bool.true_eq_false, if_true, if_false, ite_true, ite_false, beq_t, beq_f, true_and, and_true, not_true_eq_false, not_false_eq_true, forall_const, gup_get, eq_self, reduceCtorEq, reduceIte, Sy.toD]
    exact kf _ leaf
  | name w =>
    simp only [eOp, eUn, eVar, eC, eTest, eTru, rTru, eCa, aNil, aCons, eTup, eLst, rInt, rIxd, rAdd, rIntOf, rStrOf, rLen, rTupOf, rLstOf, rEq, rIsN, rNeg, rMin, rMax, eIf, bAnd, bOr, bNot, bYes, eMtL, eMtL0, rAppend, rPop, rExtend, rInsert, rReverse, rClear, eGet1, eGet2, rGet, isDic, gNm, gsNil, gsCons, gTp, gSb, rSet, eSl, rSl, oNone, oSome, iAny, iRg1, iRg2, eLc, eDc, dwipe, CT.put, setMany, sNext, sBreak, sCont, sRetN, sNever, keyD, kD, List.getElem?_cons_zero, List.getElem?_cons_succ, List.set_cons_zero, List.set_cons_succ, List.length_cons, List.length_nil, List.cons_append, List.nil_append, atI_0, atI_1, atI_2, atI_3, atI_4, ixN_0, ixN_1, ixN_2, ixN_3, ofString_inj, String.reduceEq, decide_true, decide_false, decide_not, beq_self_eq_true, Bool.not_true, Bool.not_false, Bool.false_eq_true, Bool.true_eq_false, if_true, if_false, ite_true, ite_false, beq_t, beq_f, true_and, and_true, not_true_eq_false, not_false_eq_true, forall_const, gup_get, eq_self, reduceCtorEq, reduceIte, Sy.toD]
    exact kf _ leaf
  | addr w =>
    simp only [eOp, eUn, eVar, eC, eTest, eTru, rTru, eCa, aNil, aCons, eTup, eLst, rInt, rIxd, rAdd, rIntOf, rStrOf, rLen, rTupOf, rLstOf, rEq, rIsN, rNeg, rMin, rMax, eIf, bAnd, bOr, bNot, bYes, eMtL, eMtL0, rAppend, rPop, rExtend, rInsert, rReverse, rClear, eGet1, eGet2, rGet, isDic, gNm, gsNil, gsCons, gTp, gSb, rSet, eSl, rSl, oNone, oSome, iAny, iRg1, iRg2, eLc, eDc, dwipe, CT.put, setMany, sNext, sBreak, sCont, sRetN, sNever, keyD, kD, List.getElem?_cons_zero, List.getElem?_cons_succ, List.set_cons_zero, List.set_cons_succ, List.length_cons, List.length_nil, List.cons_append, List.nil_append, atI_0, atI_1, atI_2, atI_3, atI_4, ixN_0, ixN_1, ixN_2, ixN_3, ofString_inj, String.reduceEq, decide_true, decide_false, decide_not, beq_self_eq_true, Bool.not_true, Bool.not_false, Bool.false_eq_true, Bool.true_eq_false, if_true, if_false, ite_true, ite_false, beq_t, beq_f, true_and, and_true, not_true_eq_false, not_false_eq_true, forall_const, gup_get, eq_self, reduceCtorEq, reduceIte, Sy.toD]
    exact kf _ leaf
  | unk w =>
    simp only [eOp, eUn, eVar, eC, eTest, eTru, rTru, eCa, aNil, aCons, eTup, eLst, rInt, rIxd, rAdd, rIntOf, rStrOf, rLen, rTupOf, rLstOf, rEq, rIsN, rNeg, rMin, rMax, eIf, bAnd, bOr, bNot, bYes, eMtL, eMtL0, rAppend, rPop, rExtend, rInsert, rReverse, rClear, eGet1, eGet2, rGet, isDic, gNm, gsNil, gsCons, gTp, gSb, rSet, eSl, rSl, oNone, oSome, iAny, iRg1, iRg2, eLc, eDc, dwipe, CT.put, setMany, sNext, sBreak, sCont, sRetN, sNever, keyD, kD, List.getElem?_cons_zero, List.getElem?_cons_succ, List.set_cons_zero, List.set_cons_succ, List.length_cons, List.length_nil, List.cons_append, List.nil_append, atI_0, atI_1, atI_2, atI_3, atI_4, ixN_0, ixN_1, ixN_2, ixN_3, ofString_inj, String.reduceEq, decide_true, decide_false, decide_not, beq_self_eq_true, Bool.not_true, Bool.not_false, Bool.false_eq_true, Bool.true_eq_false, if_true, if_false, ite_true, ite_false, beq_t, beq_f, true_and, and_true, not_true_eq_false, not_false_eq_true, forall_const, gup_get, eq_self, reduceCtorEq, reduceIte, Sy.toD]
    exact kf _ leaf
  | map es =>
    simp only [eOp, eUn, eVar, eC, eTest, eTru, rTru, eCa, aNil, aCons, eTup, eLst, rInt, rIxd, rAdd, rIntOf, rStrOf, rLen, rTupOf, rLstOf, rEq, rIsN, rNeg, rMin, rMax, eIf, bAnd, bOr, bNot, bYes, eMtL, eMtL0, rAppend, rPop, rExtend, rInsert, rReverse, rClear, eGet1, eGet2, rGet, isDic, gNm, gsNil, gsCons, gTp, gSb, rSet, eSl, rSl, oNone, oSome, iAny, iRg1, iRg2, eLc, eDc, dwipe, CT.put, setMany, sNext, sBreak, sCont, sRetN, sNever, keyD, kD, List.getElem?_cons_zero, List.getElem?_cons_succ, List.set_cons_zero, List.set_cons_succ, List.length_cons, List.length_nil, List.cons_append, List.nil_append, atI_0, atI_1, atI_2, atI_3, atI_4, ixN_0, ixN_1, ixN_2, ixN_3, ofString_inj, String.reduceEq, decide_true, decide_false, decide_not, beq_self_eq_true, Bool.not_true, Bool.not_false, Bool.false_eq_true, Bool.true_eq_false, if_true, if_false, ite_true, ite_false, beq_t, beq_f, true_and, and_true, not_true_eq_false, not_false_eq_true, forall_const, gup_get, eq_self, reduceCtorEq, reduceIte, Sy.toD]
    exact kf _ leaf
  | node c ts =>
    cases n with
    | zero => simp [Sy.fine] at hf
    | succ m =>
    obtain rfl := hsp m rfl
    simp only [Sy.fine] at hf
    have hszn : (Sy.node c ts).sz = 1 + Sy.szS ts := by rw [Sy.sz]
    simp only [eOp, eUn, eVar, eC, eTest, eTru, rTru, eCa, aNil, aCons, eTup, eLst, rInt, rIxd, rAdd, rIntOf, rStrOf, rLen, rTupOf, rLstOf, rEq, rIsN, rNeg, rMin, rMax, eIf, bAnd, bOr, bNot, bYes, eMtL, eMtL0, rAppend, rPop, rExtend, rInsert, rReverse, rClear, eGet1, eGet2, rGet, isDic, gNm, gsNil, gsCons, gTp, gSb, rSet, eSl, rSl, oNone, oSome, iAny, iRg1, iRg2, eLc, eDc, dwipe, CT.put, setMany, sNext, sBreak, sCont, sRetN, sNever, keyD, kD, List.getElem?_cons_zero, List.getElem?_cons_succ, List.set_cons_zero, List.set_cons_succ, List.length_cons, List.length_nil, List.cons_append, List.nil_append, atI_0, atI_1, atI_2, atI_3, atI_4, ixN_0, ixN_1, ixN_2, ixN_3, ofString_inj, String.reduceEq, decide_true, decide_false, decide_not, beq_self_eq_true, Bool.not_true, Bool.not_false, Bool.false_eq_true, Bool.true_eq_false, if_true, if_false, ite_true, ite_false, beq_t, beq_f, true_and, and_true, not_true_eq_false, not_false_eq_true, forall_const, gup_get, eq_self, reduceCtorEq, reduceIte, Sy.toD]
    refine kt _ (sFor_i fun k kn => ?_)
    have lts : (Sy.tsD ts).length = ts.length := by rw [sD_map, List.length_map]
    simp only [eOp, eUn, eVar, eC, eTest, eTru, rTru, eCa, aNil, aCons, eTup, eLst, rInt, rIxd, rAdd, rIntOf, rStrOf, rLen, rTupOf, rLstOf, rEq, rIsN, rNeg, rMin, rMax, eIf, bAnd, bOr, bNot, bYes, eMtL, eMtL0, rAppend, rPop, rExtend, rInsert, rReverse, rClear, eGet1, eGet2, rGet, isDic, gNm, gsNil, gsCons, gTp, gSb, rSet, eSl, rSl, oNone, oSome, iAny, iRg1, iRg2, eLc, eDc, dwipe, CT.put, setMany, sNext, sBreak, sCont, sRetN, sNever, keyD, kD, List.getElem?_cons_zero, List.getElem?_cons_succ, List.set_cons_zero, List.set_cons_succ, List.length_cons, List.length_nil, List.cons_append, List.nil_append, atI_0, atI_1, atI_2, atI_3, atI_4, ixN_0, ixN_1, ixN_2, ixN_3, ofString_inj, String.reduceEq, decide_true, decide_false, decide_not, beq_self_eq_true, Bool.not_true, Bool.not_false, Bool.false_eq_true, Bool.true_eq_false, if_true, if_false, ite_true, ite_false, beq_t, beq_f, true_and, and_true, not_true_eq_false, not_false_eq_true, forall_const, gup_get, eq_self, reduceCtorEq, reduceIte, Sy.toD, lts]
    refine ⟨⟨by omega, by omega⟩, kn _ _ _ ?_⟩
    rw [Int.toNat_natCast]
    refine forL_rule (I := fun xs σ G => ∃ (j : Nat) (ws : List (List Nat)) (b : Addr) (x2 x3 : Option D), σ = [some (Sy.node c ts).toD, some (.ref b), x2, x3] ∧ j + xs.length = ts.length ∧ (∀ i : Nat, i < xs.length → xs[i]? = some (.int ((j + i : Nat) : Int))) ∧ G b = some (.lst (ws.map fun w => .tup (wayD w))) ∧ ws ≠ [] ∧ ws.length ≤ 1 + Sy.szS (ts.take j) ∧ (∀ w ∈ ws, Way (.node c ts) w ∧ w.length ≤ m + 1) ∧ Ext G0 G) ?_ ?_ _ _ _ ⟨0, [[]], a, _, _, rfl, by rw [len_rngDs]; omega, fun i hi => ?_, gup_same, by simp, by simp, fun w hw => by rw [List.mem_singleton.mp hw]; exact ⟨.nil, Nat.zero_le _⟩, Ext.new ha⟩
    · rintro x xs σ G k ⟨j, ws, b, x2, x3, rfl, hj, hx, hG, hne, hwl, hws, hE⟩ kk
      refine ⟨trivial, ?_⟩
      have hx0 := hx 0 (by simp)
      simp only [List.getElem?_cons_zero, Nat.add_zero, Option.some.injEq] at hx0
      subst hx0
      simp only [List.length_cons] at hj
      have hjt : j < ts.length := by omega
      show sAsg _ _ _ ([some (Sy.node c ts).toD, some (.ref b), some (.int j), x3]) G
      refine sSet_i fun k kn => ?_
      have e1 : atI (Sy.tsD ts) (j : Int) = some ts[j].toD := by rw [atI_of_nat, sD_map, List.getElem?_map, List.getElem?_eq_getElem hjt]; rfl
      have hmem : ts[j] ∈ ts := List.getElem_mem hjt
      have htk : Sy.szS (ts.take (j + 1)) = Sy.szS (ts.take j) + ts[j].sz := by
        rw [List.take_add_one, List.getElem?_eq_getElem hjt, szS_app]
        simp [Sy.szS]
      have htk2 : Sy.szS (ts.take (j + 1)) ≤ Sy.szS ts := by
        have := congrArg Sy.szS (List.take_append_drop (j + 1) ts)
        rw [szS_app] at this
        omega
      simp only [eOp, eUn, eVar, eC, eTest, eTru, rTru, eCa, aNil, aCons, eTup, eLst, rInt, rIxd, rAdd, rIntOf, rStrOf, rLen, rTupOf, rLstOf, rEq, rIsN, rNeg, rMin, rMax, eIf, bAnd, bOr, bNot, bYes, eMtL, eMtL0, rAppend, rPop, rExtend, rInsert, rReverse, rClear, eGet1, eGet2, rGet, isDic, gNm, gsNil, gsCons, gTp, gSb, rSet, eSl, rSl, oNone, oSome, iAny, iRg1, iRg2, eLc, eDc, dwipe, CT.put, setMany, sNext, sBreak, sCont, sRetN, sNever, keyD, kD, List.getElem?_cons_zero, List.getElem?_cons_succ, List.set_cons_zero, List.set_cons_succ, List.length_cons, List.length_nil, List.cons_append, List.nil_append, atI_0, atI_1, atI_2, atI_3, atI_4, ixN_0, ixN_1, ixN_2, ixN_3, ofString_inj, String.reduceEq, decide_true, decide_false, decide_not, beq_self_eq_true, Bool.not_true, Bool.not_false, Bool.false_eq_true, Bool.true_eq_false, if_true, if_false, ite_true, ite_false, beq_t, beq_f, true_and, and_true, not_true_eq_false, not_false_eq_true, forall_const, gup_get, eq_self, reduceCtorEq, reduceIte, Sy.toD, e1]
      refine ⟨ts[j], rfl, hf.2.2 _ hmem, by omega, fun ws2 a2 G2 h2 hne2 hwl2 hws2 hE2 => ?_⟩
      simp only [eOp, eUn, eVar, eC, eTest, eTru, rTru, eCa, aNil, aCons, eTup, eLst, rInt, rIxd, rAdd, rIntOf, rStrOf, rLen, rTupOf, rLstOf, rEq, rIsN, rNeg, rMin, rMax, eIf, bAnd, bOr, bNot, bYes, eMtL, eMtL0, rAppend, rPop, rExtend, rInsert, rReverse, rClear, eGet1, eGet2, rGet, isDic, gNm, gsNil, gsCons, gTp, gSb, rSet, eSl, rSl, oNone, oSome, iAny, iRg1, iRg2, eLc, eDc, dwipe, CT.put, setMany, sNext, sBreak, sCont, sRetN, sNever, keyD, kD, List.getElem?_cons_zero, List.getElem?_cons_succ, List.set_cons_zero, List.set_cons_succ, List.length_cons, List.length_nil, List.cons_append, List.nil_append, atI_0, atI_1, atI_2, atI_3, atI_4, ixN_0, ixN_1, ixN_2, ixN_3, ofString_inj, String.reduceEq, decide_true, decide_false, decide_not, beq_self_eq_true, Bool.not_true, Bool.not_false, Bool.false_eq_true, Bool.true_eq_false, if_true, if_false, ite_true, ite_false, beq_t, beq_f, true_and, and_true, not_true_eq_false, not_false_eq_true, forall_const, gup_get, eq_self, reduceCtorEq, reduceIte, h2]
      refine lcL_pure (f := fun d => match d with | .tup xs => .tup (.int j :: xs) | _ => .non) (fun x hx => ?_) (.inl h2) (by simp; omega) ?_
      · obtain ⟨w, hw, rfl⟩ := List.mem_map.mp hx
        refine ⟨_, rfl, fun k hk => ?_⟩
        have hwlen := (hws2 w hw).2
        simp only [eOp, eUn, eVar, eC, eTest, eTru, rTru, eCa, aNil, aCons, eTup, eLst, rInt, rIxd, rAdd, rIntOf, rStrOf, rLen, rTupOf, rLstOf, rEq, rIsN, rNeg, rMin, rMax, eIf, bAnd, bOr, bNot, bYes, eMtL, eMtL0, rAppend, rPop, rExtend, rInsert, rReverse, rClear, eGet1, eGet2, rGet, isDic, gNm, gsNil, gsCons, gTp, gSb, rSet, eSl, rSl, oNone, oSome, iAny, iRg1, iRg2, eLc, eDc, dwipe, CT.put, setMany, sNext, sBreak, sCont, sRetN, sNever, keyD, kD, List.getElem?_cons_zero, List.getElem?_cons_succ, List.set_cons_zero, List.set_cons_succ, List.length_cons, List.length_nil, List.cons_append, List.nil_append, atI_0, atI_1, atI_2, atI_3, atI_4, ixN_0, ixN_1, ixN_2, ixN_3, ofString_inj, String.reduceEq, decide_true, decide_false, decide_not, beq_self_eq_true, Bool.not_true, Bool.not_false, Bool.false_eq_true, Bool.true_eq_false, if_true, if_false, ite_true, ite_false, beq_t, beq_f, true_and, and_true, not_true_eq_false, not_false_eq_true, forall_const, gup_get, eq_self, reduceCtorEq, reduceIte, dwipe]
        refine ⟨by decide, by simp [wayD]; omega, ?_⟩
        exact hk
      · rw [List.nil_append]
        intro r hr
        have hb2 : G2 b = some (.lst (ws.map fun w => .tup (wayD w))) := hE2 _ _ hG
        have nbr : b ≠ r := ne_none hb2 hr
        simp only [eOp, eUn, eVar, eC, eTest, eTru, rTru, eCa, aNil, aCons, eTup, eLst, rInt, rIxd, rAdd, rIntOf, rStrOf, rLen, rTupOf, rLstOf, rEq, rIsN, rNeg, rMin, rMax, eIf, bAnd, bOr, bNot, bYes, eMtL, eMtL0, rAppend, rPop, rExtend, rInsert, rReverse, rClear, eGet1, eGet2, rGet, isDic, gNm, gsNil, gsCons, gTp, gSb, rSet, eSl, rSl, oNone, oSome, iAny, iRg1, iRg2, eLc, eDc, dwipe, CT.put, setMany, sNext, sBreak, sCont, sRetN, sNever, keyD, kD, List.getElem?_cons_zero, List.getElem?_cons_succ, List.set_cons_zero, List.set_cons_succ, List.length_cons, List.length_nil, List.cons_append, List.nil_append, atI_0, atI_1, atI_2, atI_3, atI_4, ixN_0, ixN_1, ixN_2, ixN_3, ofString_inj, String.reduceEq, decide_true, decide_false, decide_not, beq_self_eq_true, Bool.not_true, Bool.not_false, Bool.false_eq_true, Bool.true_eq_false, if_true, if_false, ite_true, ite_false, beq_t, beq_f, true_and, and_true, not_true_eq_false, not_false_eq_true, forall_const, gup_get, eq_self, reduceCtorEq, reduceIte, nbr, hb2]
        refine ⟨by simp; omega, fun r2 hr2 => kn _ _ (kk _ _ ⟨j + 1, ws ++ ws2.map (j :: ·), r2, _, _, rfl, by omega, fun i hi => ?_, gup_same.trans ?_, by simp [hne], by simp; omega, ?_, ?_⟩)⟩
        · have := hx (i + 1) (by simp; omega)
          rw [List.getElem?_cons_succ] at this
          rw [this, show j + (i + 1) = j + 1 + i by omega]
        · rw [List.map_append, List.map_map, List.map_map]
          rfl
        · intro w hw
          rcases List.mem_append.mp hw with h' | h'
          · exact hws w h'
          · obtain ⟨w2, hw2, rfl⟩ := List.mem_map.mp h'
            have := hws2 w2 hw2
            exact ⟨.cons (List.getElem?_eq_getElem hjt) this.1, by simp only [List.length_cons]; omega⟩
        · exact ((hE.trans hE2).trans (Ext.new hr)).trans (Ext.new hr2)
    · rintro σ G ⟨j, ws, b, x2, x3, rfl, hj, hx, hG, hne, hwl, hws, hE⟩
      refine ⟨trivial, ?_⟩
      dsimp only []
      refine sRet_i ?_
      simp only [List.length_nil] at hj
      rw [List.take_of_length_le (by omega)] at hwl
      simp only [eOp, eUn, eVar, eC, eTest, eTru, rTru, eCa, aNil, aCons, eTup, eLst, rInt, rIxd, rAdd, rIntOf, rStrOf, rLen, rTupOf, rLstOf, rEq, rIsN, rNeg, rMin, rMax, eIf, bAnd, bOr, bNot, bYes, eMtL, eMtL0, rAppend, rPop, rExtend, rInsert, rReverse, rClear, eGet1, eGet2, rGet, isDic, gNm, gsNil, gsCons, gTp, gSb, rSet, eSl, rSl, oNone, oSome, iAny, iRg1, iRg2, eLc, eDc, dwipe, CT.put, setMany, sNext, sBreak, sCont, sRetN, sNever, keyD, kD, List.getElem?_cons_zero, List.getElem?_cons_succ, List.set_cons_zero, List.set_cons_succ, List.length_cons, List.length_nil, List.cons_append, List.nil_append, atI_0, atI_1, atI_2, atI_3, atI_4, ixN_0, ixN_1, ixN_2, ixN_3, ofString_inj, String.reduceEq, decide_true, decide_false, decide_not, beq_self_eq_true, Bool.not_true, Bool.not_false, Bool.false_eq_true, Bool.true_eq_false, if_true, if_false, ite_true, ite_false, beq_t, beq_f, true_and, and_true, not_true_eq_false, not_false_eq_true, forall_const, gup_get, eq_self, reduceCtorEq, reduceIte]
      exact q ws b G hG hne (by omega) hws hE
    · rw [len_rngDs] at hi
      unfold rngDs
      rw [List.getElem?_map, List.getElem?_range hi]
      simp

/-! ### put -/
def sp__law_put (n : Nat) : DSp := fun ds G Q => ∃ (s : Sy) (w : List Nat) (p : Sy), ds = [s.toD, .tup (wayD w), p.toD] ∧ Way s w ∧ w.length ≤ n ∧ ∀ G', Ext G G' → Q (put s w p).toD G'
theorem sem__law_put {n : Nat} {sp : DSp} (hn : n < 60) (hsp : ∀ m, n = m + 1 → sp = sp__law_put m) {E : DEnds} {G0 : GP} {s : Sy} {w : List Nat} {p : Sy} (hw : Way s w) (hl : w.length ≤ n) (q : ∀ G', Ext G0 G' → E.rt (put s w p).toD G') :
    rd__law_put sp E (dstart n__law_put [s.toD, .tup (wayD w), p.toD]) G0 := by
  show rd__law_put sp E [some s.toD, some (.tup (wayD w)), some p.toD, none] G0
  unfold rd__law_put
  have hsz := sizeLine_eq
  refine qWhen_i fun k kt kf => ?_
  cases hw with
  | nil =>
    simp only [eOp, eUn, eVar, eC, eTest, eTru, rTru, eCa, aNil, aCons, eTup, eLst, rInt, rIxd, rAdd, rIntOf, rStrOf, rLen, rTupOf, rLstOf, rEq, rIsN, rNeg, rMin, rMax, eIf, bAnd, bOr, bNot, bYes, eMtL, eMtL0, rAppend, rPop, rExtend, rInsert, rReverse, rClear, eGet1, eGet2, rGet, isDic, gNm, gsNil, gsCons, gTp, gSb, rSet, eSl, rSl, oNone, oSome, iAny, iRg1, iRg2, eLc, eDc, dwipe, CT.put, setMany, sNext, sBreak, sCont, sRetN, sNever, keyD, kD, List.getElem?_cons_zero, List.getElem?_cons_succ, List.set_cons_zero, List.set_cons_succ, List.length_cons, List.length_nil, List.cons_append, List.nil_append, atI_0, atI_1, atI_2, atI_3, atI_4, ixN_0, ixN_1, ixN_2, ixN_3, ofString_inj, String.reduceEq, decide_true, decide_false, decide_not, beq_self_eq_true, Bool.not_true, Bool.not_false, Bool.false_eq_true, Bool.true_eq_false, if_true, if_false, ite_true, ite_false, beq_t, beq_f, true_and, and_true, not_true_eq_false, not_false_eq_true, forall_const, gup_get, eq_self, reduceCtorEq, reduceIte]
    refine kt _ (sRet_i ?_)
    simp only [eOp, eUn, eVar, eC, eTest, eTru, rTru, eCa, aNil, aCons, eTup, eLst, rInt, rIxd, rAdd, rIntOf, rStrOf, rLen, rTupOf, rLstOf, rEq, rIsN, rNeg, rMin, rMax, eIf, bAnd, bOr, bNot, bYes, eMtL, eMtL0, rAppend, rPop, rExtend, rInsert, rReverse, rClear, eGet1, eGet2, rGet, isDic, gNm, gsNil, gsCons, gTp, gSb, rSet, eSl, rSl, oNone, oSome, iAny, iRg1, iRg2, eLc, eDc, dwipe, CT.put, setMany, sNext, sBreak, sCont, sRetN, sNever, keyD, kD, List.getElem?_cons_zero, List.getElem?_cons_succ, List.set_cons_zero, List.set_cons_succ, List.length_cons, List.length_nil, List.cons_append, List.nil_append, atI_0, atI_1, atI_2, atI_3, atI_4, ixN_0, ixN_1, ixN_2, ixN_3, ofString_inj, String.reduceEq, decide_true, decide_false, decide_not, beq_self_eq_true, Bool.not_true, Bool.not_false, Bool.false_eq_true, Bool.true_eq_false, if_true, if_false, ite_true, ite_false, beq_t, beq_f, true_and, and_true, not_true_eq_false, not_false_eq_true, forall_const, gup_get, eq_self, reduceCtorEq, reduceIte]
    have := q G0 .refl
    rw [show put s [] p = p by cases s <;> rfl] at this
    exact this
  | @cons c ts j t w2 e hwy2 =>
    simp only [List.length_cons] at hl
    obtain ⟨m, rfl⟩ : ∃ m, n = m + 1 := ⟨n - 1, by omega⟩
    obtain rfl := hsp m rfl
    have hjt : j < ts.length := (List.getElem?_eq_some_iff.mp e).1
    have e1 : atI (Sy.tsD ts) (j : Int) = some t.toD := by rw [atI_of_nat, sD_map, List.getElem?_map, e]; rfl
    have lts : (Sy.tsD ts).length = ts.length := by rw [sD_map, List.length_map]
    have ew : wayD (j :: w2) = .int j :: wayD w2 := rfl
    simp only [eOp, eUn, eVar, eC, eTest, eTru, rTru, eCa, aNil, aCons, eTup, eLst, rInt, rIxd, rAdd, rIntOf, rStrOf, rLen, rTupOf, rLstOf, rEq, rIsN, rNeg, rMin, rMax, eIf, bAnd, bOr, bNot, bYes, eMtL, eMtL0, rAppend, rPop, rExtend, rInsert, rReverse, rClear, eGet1, eGet2, rGet, isDic, gNm, gsNil, gsCons, gTp, gSb, rSet, eSl, rSl, oNone, oSome, iAny, iRg1, iRg2, eLc, eDc, dwipe, CT.put, setMany, sNext, sBreak, sCont, sRetN, sNever, keyD, kD, List.getElem?_cons_zero, List.getElem?_cons_succ, List.set_cons_zero, List.set_cons_succ, List.length_cons, List.length_nil, List.cons_append, List.nil_append, atI_0, atI_1, atI_2, atI_3, atI_4, ixN_0, ixN_1, ixN_2, ixN_3, ofString_inj, String.reduceEq, decide_true, decide_false, decide_not, beq_self_eq_true, Bool.not_true, Bool.not_false, Bool.false_eq_true, Bool.true_eq_false, if_true, if_false, ite_true, ite_false, beq_t, beq_f, true_and, and_true, not_true_eq_false, not_false_eq_true, forall_const, gup_get, eq_self, reduceCtorEq, reduceIte, ew]
    refine kf _ (qSet_i fun k kn => ?_)
    simp only [eOp, eUn, eVar, eC, eTest, eTru, rTru, eCa, aNil, aCons, eTup, eLst, rInt, rIxd, rAdd, rIntOf, rStrOf, rLen, rTupOf, rLstOf, rEq, rIsN, rNeg, rMin, rMax, eIf, bAnd, bOr, bNot, bYes, eMtL, eMtL0, rAppend, rPop, rExtend, rInsert, rReverse, rClear, eGet1, eGet2, rGet, isDic, gNm, gsNil, gsCons, gTp, gSb, rSet, eSl, rSl, oNone, oSome, iAny, iRg1, iRg2, eLc, eDc, dwipe, CT.put, setMany, sNext, sBreak, sCont, sRetN, sNever, keyD, kD, List.getElem?_cons_zero, List.getElem?_cons_succ, List.set_cons_zero, List.set_cons_succ, List.length_cons, List.length_nil, List.cons_append, List.nil_append, atI_0, atI_1, atI_2, atI_3, atI_4, ixN_0, ixN_1, ixN_2, ixN_3, ofString_inj, String.reduceEq, decide_true, decide_false, decide_not, beq_self_eq_true, Bool.not_true, Bool.not_false, Bool.false_eq_true, Bool.true_eq_false, if_true, if_false, ite_true, ite_false, beq_t, beq_f, true_and, and_true, not_true_eq_false, not_false_eq_true, forall_const, gup_get, eq_self, reduceCtorEq, reduceIte, Sy.toD]
    intro r hr
    refine kn _ _ ?_
    try dsimp only [List.set_cons_zero, List.set_cons_succ]
    refine qAsg_i fun k kn => ?_
    have hcut : dcut (.int j :: wayD w2) (some 1) none = wayD w2 := by
      have := dcut_from (xs := D.int j :: wayD w2) (k := 1) (by simp)
      simpa using this
    have hr2 : gup G0 r (.lst (Sy.tsD ts)) r = some (.lst (Sy.tsD ts)) := gup_same
    simp only [eCa, aCons, aNil, eOp, eVar, eC, rIxd, List.getElem?_cons_zero, List.getElem?_cons_succ, atI_0, hr2, e1, eSl, rSl, oSome, oNone, ew, hcut, List.set_cons_zero, List.set_cons_succ]
    refine ⟨t, w2, p, rfl, hwy2, by omega, fun G2 hE2 => kn _ _ ?_⟩
    have hr3 : G2 r = some (.lst (Sy.tsD ts)) := hE2 _ _ gup_same
    have ei : ixN (Sy.tsD ts).length (j : Int) = some j := ixN_nat (by omega)
    simp only [eOp, eUn, eVar, eC, eTest, eTru, rTru, eCa, aNil, aCons, eTup, eLst, rInt, rIxd, rAdd, rIntOf, rStrOf, rLen, rTupOf, rLstOf, rEq, rIsN, rNeg, rMin, rMax, eIf, bAnd, bOr, bNot, bYes, eMtL, eMtL0, rAppend, rPop, rExtend, rInsert, rReverse, rClear, eGet1, eGet2, rGet, isDic, gNm, gsNil, gsCons, gTp, gSb, rSet, eSl, rSl, oNone, oSome, iAny, iRg1, iRg2, eLc, eDc, dwipe, CT.put, setMany, sNext, sBreak, sCont, sRetN, sNever, keyD, kD, List.getElem?_cons_zero, List.getElem?_cons_succ, List.set_cons_zero, List.set_cons_succ, List.length_cons, List.length_nil, List.cons_append, List.nil_append, atI_0, atI_1, atI_2, atI_3, atI_4, ixN_0, ixN_1, ixN_2, ixN_3, ofString_inj, String.reduceEq, decide_true, decide_false, decide_not, beq_self_eq_true, Bool.not_true, Bool.not_false, Bool.false_eq_true, Bool.true_eq_false, if_true, if_false, ite_true, ite_false, beq_t, beq_f, true_and, and_true, not_true_eq_false, not_false_eq_true, forall_const, gup_get, eq_self, reduceCtorEq, reduceIte, ew, hr3, ei]
    refine sRet_i ?_
    simp only [eOp, eUn, eVar, eC, eTest, eTru, rTru, eCa, aNil, aCons, eTup, eLst, rInt, rIxd, rAdd, rIntOf, rStrOf, rLen, rTupOf, rLstOf, rEq, rIsN, rNeg, rMin, rMax, eIf, bAnd, bOr, bNot, bYes, eMtL, eMtL0, rAppend, rPop, rExtend, rInsert, rReverse, rClear, eGet1, eGet2, rGet, isDic, gNm, gsNil, gsCons, gTp, gSb, rSet, eSl, rSl, oNone, oSome, iAny, iRg1, iRg2, eLc, eDc, dwipe, CT.put, setMany, sNext, sBreak, sCont, sRetN, sNever, keyD, kD, List.getElem?_cons_zero, List.getElem?_cons_succ, List.set_cons_zero, List.set_cons_succ, List.length_cons, List.length_nil, List.cons_append, List.nil_append, atI_0, atI_1, atI_2, atI_3, atI_4, ixN_0, ixN_1, ixN_2, ixN_3, ofString_inj, String.reduceEq, decide_true, decide_false, decide_not, beq_self_eq_true, Bool.not_true, Bool.not_false, Bool.false_eq_true, Bool.true_eq_false, if_true, if_false, ite_true, ite_false, beq_t, beq_f, true_and, and_true, not_true_eq_false, not_false_eq_true, forall_const, gup_get, eq_self, reduceCtorEq, reduceIte, Sy.toD]
    refine ⟨by decide, ?_⟩
    have := q (gup G2 r (.lst ((Sy.tsD ts).set j (put t w2 p).toD))) (((Ext.new hr).trans hE2).put hr)
    simp only [put, e, Sy.toD] at this
    have e8 : Sy.tsD (ts.set j (put t w2 p)) = (Sy.tsD ts).set j (put t w2 p).toD := by rw [sD_map, sD_map, List.map_set]
    rw [e8] at this
    exact this
end Dn.My

namespace Dn.My
open PySem PySem.Spec PyProof.Rows L2 Dn

theorem dval_dput {κ : Type} [DecidableEq κ] {kvs : List (κ × D)} {k k' : κ} {v : D} : dval (dput kvs k v) k' = if k' = k then some v else dval kvs k' := by
  unfold dval dput
  by_cases h : (kvs.any fun kv => decide (kv.1 = k)) = true
  · rw [if_pos h]
    have e1 : (kvs.map fun kv => if kv.1 = k then (kv.1, v) else kv).find? (fun kv => decide (kv.1 = k')) = (kvs.find? fun kv => decide (kv.1 = k')).map fun kv => if kv.1 = k then (kv.1, v) else kv := by
      rw [List.find?_map]
      congr 1
      congr 1
      funext x
      simp only [Function.comp]
      split <;> rfl
    rw [e1, Option.map_map]
    by_cases hk : k' = k
    · subst hk
      rw [if_pos rfl]
      cases q : kvs.find? fun kv => decide (kv.1 = k') with
      | none =>
        rw [List.any_eq_true] at h
        obtain ⟨x, hx, h2⟩ := h
        exact absurd h2 (List.find?_eq_none.mp q x hx)
      | some y =>
        have e2 := List.find?_some q
        simp only [decide_eq_true_eq] at e2
        simp [e2]
    · rw [if_neg hk]
      cases q : kvs.find? fun kv => decide (kv.1 = k') with
      | none => rfl
      | some y =>
        have e2 := List.find?_some q
        simp only [decide_eq_true_eq] at e2
        simp [e2, hk]
  · rw [if_neg h, List.find?_append]
    by_cases hk : k' = k
    · subst hk
      rw [if_pos rfl]
      have : kvs.find? (fun kv => decide (kv.1 = k')) = none := by
        rw [List.find?_eq_none]
        intro x hx h2
        exact h (List.any_eq_true.mpr ⟨x, hx, h2⟩)
      rw [this]
      simp
    · rw [if_neg hk]
      have : [(k, v)].find? (fun kv => decide (kv.1 = k')) = none := by simp [Ne.symm hk]
      rw [this, Option.or_none]
theorem dput_len {κ : Type} [DecidableEq κ] {kvs : List (κ × D)} {k : κ} {v : D} : (dput kvs k v).length ≤ kvs.length + 1 := by
  unfold dput
  split <;> simp
theorem Sy.fine_mono : ∀ {n : Nat} {t : Sy}, t.fine n → t.fine (n + 1)
  | 0, t, h => Sy.fine_leaf h
  | n + 1, .sum ps _, h => by simpa [Sy.fine] using h
  | n + 1, .name w, h => by simpa [Sy.fine] using h
  | n + 1, .addr _, h => by simp [Sy.fine]
  | n + 1, .unk w, h => by simpa [Sy.fine] using h
  | n + 1, .map es, h => by
    simp only [Sy.fine] at h ⊢
    exact ⟨h.1, fun e he => ⟨(h.2 e he).1, Sy.fine_mono (h.2 e he).2⟩⟩
  | n + 1, .node c ts, h => by
    simp only [Sy.fine] at h ⊢
    exact ⟨h.1, h.2.1, fun e he => Sy.fine_mono (h.2.2 e he)⟩
theorem Sy.fine_add {n : Nat} {t : Sy} (h : t.fine n) : ∀ m, t.fine (n + m)
  | 0 => h
  | m + 1 => Sy.fine_mono (Sy.fine_add h m)
theorem put_fine {m : Nat} {p : Sy} (hp : p.fine m) : ∀ {n : Nat} {s : Sy} {w : List Nat}, Way s w → s.fine n → (put s w p).fine (n + m)
  | n, s, _, .nil, h => by
    have : put s [] p = p := by cases s <;> rfl
    rw [this, Nat.add_comm]
    exact Sy.fine_add hp n
  | 0, _, _, .cons e hw, h => by simp [Sy.fine] at h
  | n + 1, _, _, .cons (c := c) (ts := ts) (k := k) (t := t) (w := w) e hw, h => by
    simp only [put, e]
    rw [show n + 1 + m = (n + m) + 1 by omega]
    simp only [Sy.fine] at h ⊢
    refine ⟨h.1, by rw [List.length_set]; exact h.2.1, fun x hx => ?_⟩
    rcases List.mem_or_eq_of_mem_set hx with h1 | h1
    · exact Sy.fine_add (h.2.2 x h1) m
    · rw [h1]
      exact put_fine hp hw (h.2.2 t (List.mem_of_getElem? e))
theorem rEq_sy {n : Nat} {k : Bool} {s : Sy} {G : GP} {Q : DVK} (h : s.fine n) (hn : n ≤ 15) (q : Q (.bl k) G) : rEq k s.toD s.toD G Q := by
  have ⟨h1, h2⟩ := fine_ok h
  cases s <;> (simp only [Sy.toD, okD, dep] at h1 h2 ⊢; exact rEq_tup h1 (by omega) q)
theorem rEq_sum {k : Bool} {ps : List (Int × Int)} {n : Int} {G : GP} {Q : DVK} (q : Q (.bl k) G) : rEq k (Sy.sum ps n).toD (Sy.sum ps n).toD G Q := by
  have h := okD_psD (ps := ps)
  simp only [Sy.toD]
  refine rEq_tup ?_ ?_ q
  · simp only [okDs, okD]
    exact ⟨okS_of _, h.1, trivial, trivial⟩
  · simp only [deps, dep]
    omega

/-! ### the law -/
theorem sem_law {K : PySem.W.Frag} {E : DEnds} {G0 : GP} {sc : Addr} {xs : List Int} (hs : LstAt G0 sc (xs.map D.int) ∨ KLst K sc xs) (hl : xs.length ≤ 63) (q : ∀ G', E.rt (.bl true) G') :
    rd_law (sp__law_pool K) sp_take sp__law_given (sp__law_term 5) (sp__law_due 5) sp_size (sp__law_size 5) sp_symbolic sp_unknowns_in sp__law_once (sp__law_found 5) (sp__law_ways 5) sp_replaced (sp__law_put 5) sp__law_sum sp__law_whole sp_integer sp_added sp__law_added E (dstart n_law [.ref sc]) G0 := by
  show rd_law (sp__law_pool K) sp_take sp__law_given (sp__law_term 5) (sp__law_due 5) sp_size (sp__law_size 5) sp_symbolic sp_unknowns_in sp__law_once (sp__law_found 5) (sp__law_ways 5) sp_replaced (sp__law_put 5) sp__law_sum sp__law_whole sp_integer sp_added sp__law_added E [some (.ref sc), none, none, none, none, none, none, none, none, none, none, none, none, none, none] G0
  unfold rd_law
  have hsz := sizeLine_eq
  have hszB : szB 5 = 222221 := by decide
  have hwtB : wtB 5 = 122222 := by decide
  -- the pool
  refine qSet_i fun k kn => ?_
  simp only [eOp, eUn, eVar, eC, eTest, eTru, rTru, eCa, aNil, aCons, eTup, eLst, rInt, rIxd, rAdd, rIntOf, rStrOf, rLen, rTupOf, rLstOf, rEq, rIsN, rNeg, rMin, rMax, eIf, bAnd, bOr, bNot, bYes, eMtL, eMtL0, rAppend, rPop, rExtend, rInsert, rReverse, rClear, eGet1, eGet2, rGet, isDic, gNm, gsNil, gsCons, gTp, gSb, rSet, eSl, rSl, oNone, oSome, iAny, iRg1, iRg2, eLc, eDc, dwipe, CT.put, setMany, sNext, sBreak, sCont, sRetN, sNever, keyD, kD, List.getElem?_cons_zero, List.getElem?_cons_succ, List.set_cons_zero, List.set_cons_succ, List.length_cons, List.length_nil, List.cons_append, List.nil_append, atI_0, atI_1, atI_2, atI_3, atI_4, ixN_0, ixN_1, ixN_2, ixN_3, ofString_inj, String.reduceEq, decide_true, decide_false, decide_not, beq_self_eq_true, Bool.not_true, Bool.not_false, Bool.false_eq_true, Bool.true_eq_false, if_true, if_false, ite_true, ite_false, beq_t, beq_f, true_and, and_true, not_true_eq_false, not_false_eq_true, forall_const, gup_get, eq_self, reduceCtorEq, reduceIte]
  refine ⟨sc, xs, rfl, hs, hl, fun p c G1 hp1 hE1 => kn _ _ ?_⟩
  try dsimp only [List.set_cons_zero, List.set_cons_succ]
  -- the words
  refine qSet_i fun k kn => ?_
  simp only [eOp, eUn, eVar, eC, eTest, eTru, rTru, eCa, aNil, aCons, eTup, eLst, rInt, rIxd, rAdd, rIntOf, rStrOf, rLen, rTupOf, rLstOf, rEq, rIsN, rNeg, rMin, rMax, eIf, bAnd, bOr, bNot, bYes, eMtL, eMtL0, rAppend, rPop, rExtend, rInsert, rReverse, rClear, eGet1, eGet2, rGet, isDic, gNm, gsNil, gsCons, gTp, gSb, rSet, eSl, rSl, oNone, oSome, iAny, iRg1, iRg2, eLc, eDc, dwipe, CT.put, setMany, sNext, sBreak, sCont, sRetN, sNever, keyD, kD, List.getElem?_cons_zero, List.getElem?_cons_succ, List.set_cons_zero, List.set_cons_succ, List.length_cons, List.length_nil, List.cons_append, List.nil_append, atI_0, atI_1, atI_2, atI_3, atI_4, ixN_0, ixN_1, ixN_2, ixN_3, ofString_inj, String.reduceEq, decide_true, decide_false, decide_not, beq_self_eq_true, Bool.not_true, Bool.not_false, Bool.false_eq_true, Bool.true_eq_false, if_true, if_false, ite_true, ite_false, beq_t, beq_f, true_and, and_true, not_true_eq_false, not_false_eq_true, forall_const, gup_get, eq_self, reduceCtorEq, reduceIte]
  refine take_i hp1 (by decide) (by decide) fun v G2 v0 v1 d2 => ?_
  simp only [eOp, eUn, eVar, eC, eTest, eTru, rTru, eCa, aNil, aCons, eTup, eLst, rInt, rIxd, rAdd, rIntOf, rStrOf, rLen, rTupOf, rLstOf, rEq, rIsN, rNeg, rMin, rMax, eIf, bAnd, bOr, bNot, bYes, eMtL, eMtL0, rAppend, rPop, rExtend, rInsert, rReverse, rClear, eGet1, eGet2, rGet, isDic, gNm, gsNil, gsCons, gTp, gSb, rSet, eSl, rSl, oNone, oSome, iAny, iRg1, iRg2, eLc, eDc, dwipe, CT.put, setMany, sNext, sBreak, sCont, sRetN, sNever, keyD, kD, List.getElem?_cons_zero, List.getElem?_cons_succ, List.set_cons_zero, List.set_cons_succ, List.length_cons, List.length_nil, List.cons_append, List.nil_append, atI_0, atI_1, atI_2, atI_3, atI_4, ixN_0, ixN_1, ixN_2, ixN_3, ofString_inj, String.reduceEq, decide_true, decide_false, decide_not, beq_self_eq_true, Bool.not_true, Bool.not_false, Bool.false_eq_true, Bool.true_eq_false, if_true, if_false, ite_true, ite_false, beq_t, beq_f, true_and, and_true, not_true_eq_false, not_false_eq_true, forall_const, gup_get, eq_self, reduceCtorEq, reduceIte]
  refine ⟨⟨by omega, by omega⟩, ?_⟩
  refine lcL_rule (I := fun xs acc G => ∃ ws : List Str, acc = ws.map D.str ∧ (∀ x ∈ xs, ∃ j : Nat, j < 4 ∧ x = .int j) ∧ ws.length + xs.length = (1 + v).toNat ∧ PoolAt G p c) ?_ ?_ _ _ _ ⟨[], rfl, fun x hx => ?_, by rw [len_rngDs]; simp, d2.1⟩
  · rintro x xs acc G k ⟨ws, rfl, hx, hln, hP⟩ kk
    obtain ⟨j, hj, rfl⟩ := hx x List.mem_cons_self
    simp only [List.length_cons] at hln
    refine ⟨trivial, _, rfl, ?_⟩
    simp only [eOp, eUn, eVar, eC, eTest, eTru, rTru, eCa, aNil, aCons, eTup, eLst, rInt, rIxd, rAdd, rIntOf, rStrOf, rLen, rTupOf, rLstOf, rEq, rIsN, rNeg, rMin, rMax, eIf, bAnd, bOr, bNot, bYes, eMtL, eMtL0, rAppend, rPop, rExtend, rInsert, rReverse, rClear, eGet1, eGet2, rGet, isDic, gNm, gsNil, gsCons, gTp, gSb, rSet, eSl, rSl, oNone, oSome, iAny, iRg1, iRg2, eLc, eDc, dwipe, CT.put, setMany, sNext, sBreak, sCont, sRetN, sNever, keyD, kD, List.getElem?_cons_zero, List.getElem?_cons_succ, List.set_cons_zero, List.set_cons_succ, List.length_cons, List.length_nil, List.cons_append, List.nil_append, atI_0, atI_1, atI_2, atI_3, atI_4, ixN_0, ixN_1, ixN_2, ixN_3, ofString_inj, String.reduceEq, decide_true, decide_false, decide_not, beq_self_eq_true, Bool.not_true, Bool.not_false, Bool.false_eq_true, Bool.true_eq_false, if_true, if_false, ite_true, ite_false, beq_t, beq_f, true_and, and_true, not_true_eq_false, not_false_eq_true, forall_const, gup_get, eq_self, reduceCtorEq, reduceIte, dwipe]
    refine take_i hP (by decide) (by decide) fun u G3 u0 u1 d3 => ?_
    simp only [eOp, eUn, eVar, eC, eTest, eTru, rTru, eCa, aNil, aCons, eTup, eLst, rInt, rIxd, rAdd, rIntOf, rStrOf, rLen, rTupOf, rLstOf, rEq, rIsN, rNeg, rMin, rMax, eIf, bAnd, bOr, bNot, bYes, eMtL, eMtL0, rAppend, rPop, rExtend, rInsert, rReverse, rClear, eGet1, eGet2, rGet, isDic, gNm, gsNil, gsCons, gTp, gSb, rSet, eSl, rSl, oNone, oSome, iAny, iRg1, iRg2, eLc, eDc, dwipe, CT.put, setMany, sNext, sBreak, sCont, sRetN, sNever, keyD, kD, List.getElem?_cons_zero, List.getElem?_cons_succ, List.set_cons_zero, List.set_cons_succ, List.length_cons, List.length_nil, List.cons_append, List.nil_append, atI_0, atI_1, atI_2, atI_3, atI_4, ixN_0, ixN_1, ixN_2, ixN_3, ofString_inj, String.reduceEq, decide_true, decide_false, decide_not, beq_self_eq_true, Bool.not_true, Bool.not_false, Bool.false_eq_true, Bool.true_eq_false, if_true, if_false, ite_true, ite_false, beq_t, beq_f, true_and, and_true, not_true_eq_false, not_false_eq_true, forall_const, gup_get, eq_self, reduceCtorEq, reduceIte]
    have l1 := len_int u0 (by omega)
    have l2 := len_int (i := (j : Int)) (by omega) (by omega)
    have l3 : (Str.ofString "x").length = 1 := by decide +kernel
    have l4 : (Str.ofString "_").length = 1 := by decide +kernel
    refine ⟨log2_small u0 (by omega), by omega, by rw [len_app]; omega, log2_small (by omega) (by omega), by rw [len_app, len_app]; omega, by simp; omega, kk _ _ ⟨ws ++ [_], by rw [List.map_append]; rfl, fun y hy => hx y (List.mem_cons_of_mem _ hy), by simp; omega, d3.1⟩⟩
  · rintro acc G ⟨ws, rfl, hx, hln, hP⟩
    refine ⟨trivial, fun wd hwd => kn _ _ ?_⟩
    try dsimp only [List.set_cons_zero, List.set_cons_succ]
    simp only [List.length_nil] at hln
    have hw0 : 0 < ws.length := by omega
    have hw1 : ws.length < 1000 := by omega
    have hwp : wd ≠ p := fun e => (hP.nep hwd).1 e.symm
    have hP2 : PoolAt (gup G wd (.lst (ws.map D.str))) p c := hP.ext (Ext.new hwd)
    have hW : gup G wd (.lst (ws.map D.str)) wd = some (.lst (ws.map D.str)) := gup_same
    generalize gup G wd (.lst (ws.map D.str)) = G3 at hP2 hW ⊢
    clear hE1 hp1 d2 hx
    -- the table
    refine qSet_i fun k kn tb htb => kn _ _ ?_
    try dsimp only [List.set_cons_zero, List.set_cons_succ]
    have hP3 : PoolAt (gup G3 tb (.dic [])) p c := hP2.ext (Ext.new htb)
    have hnp := hP2.nep htb
    have hwt : wd ≠ tb := ne_none hW htb
    refine qFor_i fun k kn => ?_
    have hW3 : gup G3 tb (.dic []) wd = some (.lst (ws.map D.str)) := (gup_ne hwt).trans hW
    simp only [iAny, eVar, List.getElem?_cons_zero, List.getElem?_cons_succ, hW3]
    refine kn _ _ _ ?_
    refine forL_rule (I := fun xs σ G => ∃ (w1 w2 : List Str) (kvs : List (Key × D)) (T : Str → Sy) (x4 : Option D), σ = [some (.ref sc), some (.ref p), some (.ref wd), some (.ref tb), x4, none, none, none, none, none, none, none, none, none, none] ∧ ws = w1 ++ w2 ∧ xs = w2.map D.str ∧ PoolAt G p c ∧ G wd = some (.lst (ws.map D.str)) ∧ G tb = some (.dic kvs) ∧ kvs.length ≤ w1.length ∧ ∀ w ∈ w1, dval kvs (Sum.inr w) = some (T w).toD ∧ (T w).fine 0) ?_ ?_ _ _ _ ⟨[], ws, [], fun _ => .unk 0, _, rfl, rfl, rfl, hP3, hW3, gup_same, by simp, by simp⟩
    · rintro x xs σ G k ⟨w1, w2, kvs, T, x4, rfl, hws, hxs, hP, hW, hT, hkl, hall⟩ kk
      refine ⟨.inl hW, ?_⟩
      cases w2 with
      | nil => cases hxs
      | cons w w2 =>
      simp only [List.map_cons, List.cons.injEq] at hxs
      obtain ⟨rfl, rfl⟩ := hxs
      have hln : ws.length = w1.length + (w2.length + 1) := by rw [hws]; simp
      show sAsg _ _ _ ([some (.ref sc), some (.ref p), some (.ref wd), some (.ref tb), some (.str w), none, none, none, none, none, none, none, none, none, none]) G
      refine sAsg_i fun k kn => ?_
      simp only [eOp, eUn, eVar, eC, eTest, eTru, rTru, eCa, aNil, aCons, eTup, eLst, rInt, rIxd, rAdd, rIntOf, rStrOf, rLen, rTupOf, rLstOf, rEq, rIsN, rNeg, rMin, rMax, eIf, bAnd, bOr, bNot, bYes, eMtL, eMtL0, rAppend, rPop, rExtend, rInsert, rReverse, rClear, eGet1, eGet2, rGet, isDic, gNm, gsNil, gsCons, gTp, gSb, rSet, eSl, rSl, oNone, oSome, iAny, iRg1, iRg2, eLc, eDc, dwipe, CT.put, setMany, sNext, sBreak, sCont, sRetN, sNever, keyD, kD, List.getElem?_cons_zero, List.getElem?_cons_succ, List.set_cons_zero, List.set_cons_succ, List.length_cons, List.length_nil, List.cons_append, List.nil_append, atI_0, atI_1, atI_2, atI_3, atI_4, ixN_0, ixN_1, ixN_2, ixN_3, ofString_inj, String.reduceEq, decide_true, decide_false, decide_not, beq_self_eq_true, Bool.not_true, Bool.not_false, Bool.false_eq_true, Bool.true_eq_false, if_true, if_false, ite_true, ite_false, beq_t, beq_f, true_and, and_true, not_true_eq_false, not_false_eq_true, forall_const, gup_get, eq_self, reduceCtorEq, reduceIte]
      refine ⟨p, c, rfl, hP, fun s G4 hs d4 => kn _ _ ?_⟩
      have hT4 : G4 tb = some (.dic kvs) := d4.2 _ _ (Ne.symm hnp.1) hT
      simp only [eOp, eUn, eVar, eC, eTest, eTru, rTru, eCa, aNil, aCons, eTup, eLst, rInt, rIxd, rAdd, rIntOf, rStrOf, rLen, rTupOf, rLstOf, rEq, rIsN, rNeg, rMin, rMax, eIf, bAnd, bOr, bNot, bYes, eMtL, eMtL0, rAppend, rPop, rExtend, rInsert, rReverse, rClear, eGet1, eGet2, rGet, isDic, gNm, gsNil, gsCons, gTp, gSb, rSet, eSl, rSl, oNone, oSome, iAny, iRg1, iRg2, eLc, eDc, dwipe, CT.put, setMany, sNext, sBreak, sCont, sRetN, sNever, keyD, kD, List.getElem?_cons_zero, List.getElem?_cons_succ, List.set_cons_zero, List.set_cons_succ, List.length_cons, List.length_nil, List.cons_append, List.nil_append, atI_0, atI_1, atI_2, atI_3, atI_4, ixN_0, ixN_1, ixN_2, ixN_3, ofString_inj, String.reduceEq, decide_true, decide_false, decide_not, beq_self_eq_true, Bool.not_true, Bool.not_false, Bool.false_eq_true, Bool.true_eq_false, if_true, if_false, ite_true, ite_false, beq_t, beq_f, true_and, and_true, not_true_eq_false, not_false_eq_true, forall_const, gup_get, eq_self, reduceCtorEq, reduceIte, hT4]
      refine ⟨by omega, kk _ _ ⟨w1 ++ [w], w2, dput kvs (Sum.inr w) s.toD, fun z => if z = w then s else T z, _, rfl, by rw [hws]; simp, rfl, d4.1.put hnp, (gup_ne hwt).trans (d4.2 _ _ hwp hW), gup_same, ?_, ?_⟩⟩
      · have := dput_len (kvs := kvs) (k := (Sum.inr w : Key)) (v := s.toD)
        simp
        omega
      · intro z hz
        rw [dval_dput]
        by_cases e : z = w
        · subst e
          simp only [if_true]
          exact ⟨trivial, hs⟩
        · have e2 : ¬ ((Sum.inr z : Key) = Sum.inr w) := fun h => e (Sum.inr.inj h)
          rw [if_neg e2]
          simp only [e, if_false]
          rcases List.mem_append.mp hz with h1 | h1
          · exact hall z h1
          · exact absurd (List.mem_singleton.mp h1) e
    · rintro σ G ⟨w1, w2, kvs, T, x4, rfl, hws, hxs, hP, hW, hT, hkl, hall⟩
      refine ⟨.inl hW, ?_⟩
      have h2 : w2 = [] := by cases w2 with
        | nil => rfl
        | cons e _ => simp at hxs
      rw [h2, List.append_nil] at hws
      subst hws
      dsimp only []
      have tab : Tab G tb T (· ∈ ws) := ⟨kvs, hT, fun w hw => (hall w hw).1⟩
      have hTf : ∀ w, w ∈ ws → (T w).fine 0 := fun w hw => (hall w hw).2
      have htp : tb ≠ p := Ne.symm hnp.1
      -- the term
      refine qSet_i fun k kn => ?_
      simp only [eOp, eUn, eVar, eC, eTest, eTru, rTru, eCa, aNil, aCons, eTup, eLst, rInt, rIxd, rAdd, rIntOf, rStrOf, rLen, rTupOf, rLstOf, rEq, rIsN, rNeg, rMin, rMax, eIf, bAnd, bOr, bNot, bYes, eMtL, eMtL0, rAppend, rPop, rExtend, rInsert, rReverse, rClear, eGet1, eGet2, rGet, isDic, gNm, gsNil, gsCons, gTp, gSb, rSet, eSl, rSl, oNone, oSome, iAny, iRg1, iRg2, eLc, eDc, dwipe, CT.put, setMany, sNext, sBreak, sCont, sRetN, sNever, keyD, kD, List.getElem?_cons_zero, List.getElem?_cons_succ, List.set_cons_zero, List.set_cons_succ, List.length_cons, List.length_nil, List.cons_append, List.nil_append, atI_0, atI_1, atI_2, atI_3, atI_4, ixN_0, ixN_1, ixN_2, ixN_3, ofString_inj, String.reduceEq, decide_true, decide_false, decide_not, beq_self_eq_true, Bool.not_true, Bool.not_false, Bool.false_eq_true, Bool.true_eq_false, if_true, if_false, ite_true, ite_false, beq_t, beq_f, true_and, and_true, not_true_eq_false, not_false_eq_true, forall_const, gup_get, eq_self, reduceCtorEq, reduceIte]
      refine take_i hP (by decide) (by decide) fun dp G4 dp0 dp1 d4 => ?_
      simp only [eOp, eUn, eVar, eC, eTest, eTru, rTru, eCa, aNil, aCons, eTup, eLst, rInt, rIxd, rAdd, rIntOf, rStrOf, rLen, rTupOf, rLstOf, rEq, rIsN, rNeg, rMin, rMax, eIf, bAnd, bOr, bNot, bYes, eMtL, eMtL0, rAppend, rPop, rExtend, rInsert, rReverse, rClear, eGet1, eGet2, rGet, isDic, gNm, gsNil, gsCons, gTp, gSb, rSet, eSl, rSl, oNone, oSome, iAny, iRg1, iRg2, eLc, eDc, dwipe, CT.put, setMany, sNext, sBreak, sCont, sRetN, sNever, keyD, kD, List.getElem?_cons_zero, List.getElem?_cons_succ, List.set_cons_zero, List.set_cons_succ, List.length_cons, List.length_nil, List.cons_append, List.nil_append, atI_0, atI_1, atI_2, atI_3, atI_4, ixN_0, ixN_1, ixN_2, ixN_3, ofString_inj, String.reduceEq, decide_true, decide_false, decide_not, beq_self_eq_true, Bool.not_true, Bool.not_false, Bool.false_eq_true, Bool.true_eq_false, if_true, if_false, ite_true, ite_false, beq_t, beq_f, true_and, and_true, not_true_eq_false, not_false_eq_true, forall_const, gup_get, eq_self, reduceCtorEq, reduceIte]
      refine ⟨p, c, wd, ws, _, rfl, d4.1, d4.2 _ _ hwp hW, hw0, hw1, hwp, by omega, fun t G5 ht d5 => kn _ _ ?_⟩
      try dsimp only [List.set_cons_zero, List.set_cons_succ]
      have hdr := d4.trans d5
      have tab5 : Tab G5 tb T (· ∈ ws) := let ⟨k, a, b⟩ := tab; ⟨k, hdr.2 _ _ htp a, b⟩
      have hW5 : G5 wd = some (.lst (ws.map D.str)) := hdr.2 _ _ hwp hW
      have hP5 : PoolAt G5 p c := hdr.1
      clear hdr d4 d5 tab hT hP hW
      -- due
      have hdf := due_fine hTf ht
      have hds : (due T t).sz ≤ 222221 := by have := fine_sz hdf; omega
      refine qSet_i fun k kn => ?_
      simp only [eOp, eUn, eVar, eC, eTest, eTru, rTru, eCa, aNil, aCons, eTup, eLst, rInt, rIxd, rAdd, rIntOf, rStrOf, rLen, rTupOf, rLstOf, rEq, rIsN, rNeg, rMin, rMax, eIf, bAnd, bOr, bNot, bYes, eMtL, eMtL0, rAppend, rPop, rExtend, rInsert, rReverse, rClear, eGet1, eGet2, rGet, isDic, gNm, gsNil, gsCons, gTp, gSb, rSet, eSl, rSl, oNone, oSome, iAny, iRg1, iRg2, eLc, eDc, dwipe, CT.put, setMany, sNext, sBreak, sCont, sRetN, sNever, keyD, kD, List.getElem?_cons_zero, List.getElem?_cons_succ, List.set_cons_zero, List.set_cons_succ, List.length_cons, List.length_nil, List.cons_append, List.nil_append, atI_0, atI_1, atI_2, atI_3, atI_4, ixN_0, ixN_1, ixN_2, ixN_3, ofString_inj, String.reduceEq, decide_true, decide_false, decide_not, beq_self_eq_true, Bool.not_true, Bool.not_false, Bool.false_eq_true, Bool.true_eq_false, if_true, if_false, ite_true, ite_false, beq_t, beq_f, true_and, and_true, not_true_eq_false, not_false_eq_true, forall_const, gup_get, eq_self, reduceCtorEq, reduceIte]
      refine ⟨t, tb, T, _, rfl, ht, tab5, fun G6 hE6 => kn _ _ ?_⟩
      try dsimp only [List.set_cons_zero, List.set_cons_succ]
      have tab6 := tab5.ext hE6
      have hW6 := hE6 _ _ hW5
      have hP6 := hP5.ext hE6
      generalize hdue : due T t = du at hdf hds ⊢
      refine qWhen_i fun k kt kf => ?_
      simp only [eTest, eOp, eCa, aCons, aNil, eVar, eC, bOr, bAnd, bNot, eUn, List.getElem?_cons_zero, List.getElem?_cons_succ]
      refine ⟨t, tb, T, _, rfl, tab6, fine_all ht, by have := fine_wt ht; omega, fun G7 hE7 => ?_⟩
      rw [hdue]
      refine rEq_sy hdf (by decide) ?_
      simp only [eOp, eUn, eVar, eC, eTest, eTru, rTru, eCa, aNil, aCons, eTup, eLst, rInt, rIxd, rAdd, rIntOf, rStrOf, rLen, rTupOf, rLstOf, rEq, rIsN, rNeg, rMin, rMax, eIf, bAnd, bOr, bNot, bYes, eMtL, eMtL0, rAppend, rPop, rExtend, rInsert, rReverse, rClear, eGet1, eGet2, rGet, isDic, gNm, gsNil, gsCons, gTp, gSb, rSet, eSl, rSl, oNone, oSome, iAny, iRg1, iRg2, eLc, eDc, dwipe, CT.put, setMany, sNext, sBreak, sCont, sRetN, sNever, keyD, kD, List.getElem?_cons_zero, List.getElem?_cons_succ, List.set_cons_zero, List.set_cons_succ, List.length_cons, List.length_nil, List.cons_append, List.nil_append, atI_0, atI_1, atI_2, atI_3, atI_4, ixN_0, ixN_1, ixN_2, ixN_3, ofString_inj, String.reduceEq, decide_true, decide_false, decide_not, beq_self_eq_true, Bool.not_true, Bool.not_false, Bool.false_eq_true, Bool.true_eq_false, if_true, if_false, ite_true, ite_false, beq_t, beq_f, true_and, and_true, not_true_eq_false, not_false_eq_true, forall_const, gup_get, eq_self, reduceCtorEq, reduceIte]
      refine ⟨du, rfl, by omega, fun G8 hE8 => ?_⟩
      refine ⟨du, rfl, hdf, fun G9 hE9 => ?_⟩
      simp only [eOp, eUn, eVar, eC, eTest, eTru, rTru, eCa, aNil, aCons, eTup, eLst, rInt, rIxd, rAdd, rIntOf, rStrOf, rLen, rTupOf, rLstOf, rEq, rIsN, rNeg, rMin, rMax, eIf, bAnd, bOr, bNot, bYes, eMtL, eMtL0, rAppend, rPop, rExtend, rInsert, rReverse, rClear, eGet1, eGet2, rGet, isDic, gNm, gsNil, gsCons, gTp, gSb, rSet, eSl, rSl, oNone, oSome, iAny, iRg1, iRg2, eLc, eDc, dwipe, CT.put, setMany, sNext, sBreak, sCont, sRetN, sNever, keyD, kD, List.getElem?_cons_zero, List.getElem?_cons_succ, List.set_cons_zero, List.set_cons_succ, List.length_cons, List.length_nil, List.cons_append, List.nil_append, atI_0, atI_1, atI_2, atI_3, atI_4, ixN_0, ixN_1, ixN_2, ixN_3, ofString_inj, String.reduceEq, decide_true, decide_false, decide_not, beq_self_eq_true, Bool.not_true, Bool.not_false, Bool.false_eq_true, Bool.true_eq_false, if_true, if_false, ite_true, ite_false, beq_t, beq_f, true_and, and_true, not_true_eq_false, not_false_eq_true, forall_const, gup_get, eq_self, reduceCtorEq, reduceIte]
      refine kf _ ?_
      -- unknowns_in
      refine qWhen_i fun k kt kf => ?_
      simp only [eTest, eOp, eCa, aCons, aNil, eVar, List.getElem?_cons_zero, List.getElem?_cons_succ]
      refine ⟨du, rfl, by omega, fine_uk hdf, fun us G10 r hus hE10 hr => ?_⟩
      have hlen := fine_len hdf
      refine ⟨du, rfl, hdf, by omega, fun a G11 ha hE11 => ?_⟩
      refine ⟨a, du.uk, rfl, ha, by omega, fun us' b G12 hus' hb hE12 => ?_⟩
      obtain rfl : us = us' := asc_eq hus.1 hus'.1 fun u => (hus.2 u).trans (hus'.2 u).symm
      have hr12 : G12 r = some (.lst (us.map D.int)) := hE12 _ _ (hE11 _ _ gup_same)
      refine rEq_lst hr12 hb ?_ ?_ ?_
      · exact okDs_iff.mpr fun x hx => by obtain ⟨i, _, rfl⟩ := List.mem_map.mp hx; simp [okD]
      · have := deps_le (n := 0) (xs := us.map D.int) fun x hx => by obtain ⟨i, _, rfl⟩ := List.mem_map.mp hx; simp [dep]
        omega
      simp only [eOp, eUn, eVar, eC, eTest, eTru, rTru, eCa, aNil, aCons, eTup, eLst, rInt, rIxd, rAdd, rIntOf, rStrOf, rLen, rTupOf, rLstOf, rEq, rIsN, rNeg, rMin, rMax, eIf, bAnd, bOr, bNot, bYes, eMtL, eMtL0, rAppend, rPop, rExtend, rInsert, rReverse, rClear, eGet1, eGet2, rGet, isDic, gNm, gsNil, gsCons, gTp, gSb, rSet, eSl, rSl, oNone, oSome, iAny, iRg1, iRg2, eLc, eDc, dwipe, CT.put, setMany, sNext, sBreak, sCont, sRetN, sNever, keyD, kD, List.getElem?_cons_zero, List.getElem?_cons_succ, List.set_cons_zero, List.set_cons_succ, List.length_cons, List.length_nil, List.cons_append, List.nil_append, atI_0, atI_1, atI_2, atI_3, atI_4, ixN_0, ixN_1, ixN_2, ixN_3, ofString_inj, String.reduceEq, decide_true, decide_false, decide_not, beq_self_eq_true, Bool.not_true, Bool.not_false, Bool.false_eq_true, Bool.true_eq_false, if_true, if_false, ite_true, ite_false, beq_t, beq_f, true_and, and_true, not_true_eq_false, not_false_eq_true, forall_const, gup_get, eq_self, reduceCtorEq, reduceIte]
      refine kf _ ?_
      have hE : Ext G6 G12 := ((((hE7.trans hE8).trans hE9).trans hE10).trans (Ext.new hr)).trans (hE11.trans hE12)
      have tab12 := tab6.ext hE
      have hW12 := hE _ _ hW6
      have hP12 := hP6.ext hE
      clear tab6 hW6 hP6 tab5 hW5 hP5 hE hr12 hb ha hus hus' hr hE7 hE8 hE9 hE10 hE11 hE12
      -- a way
      refine qSet_i fun k kn => ?_
      simp only [eOp, eUn, eVar, eC, eTest, eTru, rTru, eCa, aNil, aCons, eTup, eLst, rInt, rIxd, rAdd, rIntOf, rStrOf, rLen, rTupOf, rLstOf, rEq, rIsN, rNeg, rMin, rMax, eIf, bAnd, bOr, bNot, bYes, eMtL, eMtL0, rAppend, rPop, rExtend, rInsert, rReverse, rClear, eGet1, eGet2, rGet, isDic, gNm, gsNil, gsCons, gTp, gSb, rSet, eSl, rSl, oNone, oSome, iAny, iRg1, iRg2, eLc, eDc, dwipe, CT.put, setMany, sNext, sBreak, sCont, sRetN, sNever, keyD, kD, List.getElem?_cons_zero, List.getElem?_cons_succ, List.set_cons_zero, List.set_cons_succ, List.length_cons, List.length_nil, List.cons_append, List.nil_append, atI_0, atI_1, atI_2, atI_3, atI_4, ixN_0, ixN_1, ixN_2, ixN_3, ofString_inj, String.reduceEq, decide_true, decide_false, decide_not, beq_self_eq_true, Bool.not_true, Bool.not_false, Bool.false_eq_true, Bool.true_eq_false, if_true, if_false, ite_true, ite_false, beq_t, beq_f, true_and, and_true, not_true_eq_false, not_false_eq_true, forall_const, gup_get, eq_self, reduceCtorEq, reduceIte]
      refine ⟨du, rfl, hdf, by omega, fun wys a G13 ha hne hwl hwy hE13 => kn _ _ ?_⟩
      try dsimp only [List.set_cons_zero, List.set_cons_succ]
      have hwn : 0 < wys.length := List.length_pos_iff.mpr hne
      have hP13 := hP12.ext hE13
      have hap : a ≠ p := by
        rintro rfl
        obtain ⟨_, _, _, _, h1, _⟩ := hP13
        rw [ha] at h1
        cases wys with
        | nil => exact hne rfl
        | cons w _ => simp at h1
      refine qSet_i fun k kn => ?_
      simp only [eOp, eUn, eVar, eC, eTest, eTru, rTru, eCa, aNil, aCons, eTup, eLst, rInt, rIxd, rAdd, rIntOf, rStrOf, rLen, rTupOf, rLstOf, rEq, rIsN, rNeg, rMin, rMax, eIf, bAnd, bOr, bNot, bYes, eMtL, eMtL0, rAppend, rPop, rExtend, rInsert, rReverse, rClear, eGet1, eGet2, rGet, isDic, gNm, gsNil, gsCons, gTp, gSb, rSet, eSl, rSl, oNone, oSome, iAny, iRg1, iRg2, eLc, eDc, dwipe, CT.put, setMany, sNext, sBreak, sCont, sRetN, sNever, keyD, kD, List.getElem?_cons_zero, List.getElem?_cons_succ, List.set_cons_zero, List.set_cons_succ, List.length_cons, List.length_nil, List.cons_append, List.nil_append, atI_0, atI_1, atI_2, atI_3, atI_4, ixN_0, ixN_1, ixN_2, ixN_3, ofString_inj, String.reduceEq, decide_true, decide_false, decide_not, beq_self_eq_true, Bool.not_true, Bool.not_false, Bool.false_eq_true, Bool.true_eq_false, if_true, if_false, ite_true, ite_false, beq_t, beq_f, true_and, and_true, not_true_eq_false, not_false_eq_true, forall_const, gup_get, eq_self, reduceCtorEq, reduceIte, ha]
      refine take_i hP13 (by simp; omega) (by simp; omega) fun wi G14 wi0 wi1 d14 => ?_
      simp only [List.length_map] at wi1
      obtain ⟨j, rfl⟩ : ∃ j : Nat, wi = j := ⟨wi.toNat, by omega⟩
      have hj : j < wys.length := by omega
      have ha14 := d14.2 _ _ hap ha
      have e1 : atI (wys.map fun w => D.tup (wayD w)) (j : Int) = some (.tup (wayD wys[j])) := by rw [atI_of_nat, List.getElem?_map, List.getElem?_eq_getElem hj]; rfl
      simp only [eOp, eUn, eVar, eC, eTest, eTru, rTru, eCa, aNil, aCons, eTup, eLst, rInt, rIxd, rAdd, rIntOf, rStrOf, rLen, rTupOf, rLstOf, rEq, rIsN, rNeg, rMin, rMax, eIf, bAnd, bOr, bNot, bYes, eMtL, eMtL0, rAppend, rPop, rExtend, rInsert, rReverse, rClear, eGet1, eGet2, rGet, isDic, gNm, gsNil, gsCons, gTp, gSb, rSet, eSl, rSl, oNone, oSome, iAny, iRg1, iRg2, eLc, eDc, dwipe, CT.put, setMany, sNext, sBreak, sCont, sRetN, sNever, keyD, kD, List.getElem?_cons_zero, List.getElem?_cons_succ, List.set_cons_zero, List.set_cons_succ, List.length_cons, List.length_nil, List.cons_append, List.nil_append, atI_0, atI_1, atI_2, atI_3, atI_4, ixN_0, ixN_1, ixN_2, ixN_3, ofString_inj, String.reduceEq, decide_true, decide_false, decide_not, beq_self_eq_true, Bool.not_true, Bool.not_false, Bool.false_eq_true, Bool.true_eq_false, if_true, if_false, ite_true, ite_false, beq_t, beq_f, true_and, and_true, not_true_eq_false, not_false_eq_true, forall_const, gup_get, eq_self, reduceCtorEq, reduceIte, ha14, e1]
      refine kn _ _ ?_
      try dsimp only [List.set_cons_zero, List.set_cons_succ]
      have hway := hwy wys[j] (List.getElem_mem hj)
      generalize wys[j] = way at hway ⊢
      have tab14 : Tab G14 tb T (· ∈ ws) := let ⟨k, a, b⟩ := tab12.ext hE13; ⟨k, d14.2 _ _ htp a, b⟩
      have hW14 := d14.2 _ _ hwp (hE13 _ _ hW12)
      have hP14 := d14.1
      clear tab12 hW12 hP12 hP13 d14 hE13 e1 ha14 ha hwy
      -- the part
      refine qSet_i fun k kn => ?_
      simp only [eOp, eUn, eVar, eC, eTest, eTru, rTru, eCa, aNil, aCons, eTup, eLst, rInt, rIxd, rAdd, rIntOf, rStrOf, rLen, rTupOf, rLstOf, rEq, rIsN, rNeg, rMin, rMax, eIf, bAnd, bOr, bNot, bYes, eMtL, eMtL0, rAppend, rPop, rExtend, rInsert, rReverse, rClear, eGet1, eGet2, rGet, isDic, gNm, gsNil, gsCons, gTp, gSb, rSet, eSl, rSl, oNone, oSome, iAny, iRg1, iRg2, eLc, eDc, dwipe, CT.put, setMany, sNext, sBreak, sCont, sRetN, sNever, keyD, kD, List.getElem?_cons_zero, List.getElem?_cons_succ, List.set_cons_zero, List.set_cons_succ, List.length_cons, List.length_nil, List.cons_append, List.nil_append, atI_0, atI_1, atI_2, atI_3, atI_4, ixN_0, ixN_1, ixN_2, ixN_3, ofString_inj, String.reduceEq, decide_true, decide_false, decide_not, beq_self_eq_true, Bool.not_true, Bool.not_false, Bool.false_eq_true, Bool.true_eq_false, if_true, if_false, ite_true, ite_false, beq_t, beq_f, true_and, and_true, not_true_eq_false, not_false_eq_true, forall_const, gup_get, eq_self, reduceCtorEq, reduceIte]
      refine ⟨p, c, wd, ws, _, rfl, hP14, hW14, hw0, hw1, hwp, by omega, fun t2 G15 ht2 d15 => ?_⟩
      have tab15 : Tab G15 tb T (· ∈ ws) := let ⟨k, a, b⟩ := tab14; ⟨k, d15.2 _ _ htp a, b⟩
      refine ⟨t2, tb, T, _, rfl, ht2, tab15, fun G16 hE16 => kn _ _ ?_⟩
      try dsimp only [List.set_cons_zero, List.set_cons_succ]
      have hpf := due_fine hTf ht2
      have hP16 := d15.1.ext hE16
      generalize due T t2 = pt at hpf ⊢
      clear tab14 tab15 hW14 hP14 d15
      refine qWhen_i fun k kt kf => ?_
      simp only [eTest, eOp, eCa, aCons, aNil, eVar, eC, bOr, bAnd, bNot, eUn, List.getElem?_cons_zero, List.getElem?_cons_succ]
      refine ⟨du, way, pt, rfl, hway.1, by omega, by omega, fun G17 hE17 => ?_⟩
      refine ⟨du, way, pt, rfl, hway.1, hway.2, fun G18 hE18 => ?_⟩
      refine rEq_sy (put_fine hpf hway.1 hdf) (by decide) ?_
      simp only [eOp, eUn, eVar, eC, eTest, eTru, rTru, eCa, aNil, aCons, eTup, eLst, rInt, rIxd, rAdd, rIntOf, rStrOf, rLen, rTupOf, rLstOf, rEq, rIsN, rNeg, rMin, rMax, eIf, bAnd, bOr, bNot, bYes, eMtL, eMtL0, rAppend, rPop, rExtend, rInsert, rReverse, rClear, eGet1, eGet2, rGet, isDic, gNm, gsNil, gsCons, gTp, gSb, rSet, eSl, rSl, oNone, oSome, iAny, iRg1, iRg2, eLc, eDc, dwipe, CT.put, setMany, sNext, sBreak, sCont, sRetN, sNever, keyD, kD, List.getElem?_cons_zero, List.getElem?_cons_succ, List.set_cons_zero, List.set_cons_succ, List.length_cons, List.length_nil, List.cons_append, List.nil_append, atI_0, atI_1, atI_2, atI_3, atI_4, ixN_0, ixN_1, ixN_2, ixN_3, ofString_inj, String.reduceEq, decide_true, decide_false, decide_not, beq_self_eq_true, Bool.not_true, Bool.not_false, Bool.false_eq_true, Bool.true_eq_false, if_true, if_false, ite_true, ite_false, beq_t, beq_f, true_and, and_true, not_true_eq_false, not_false_eq_true, forall_const, gup_get, eq_self, reduceCtorEq, reduceIte]
      refine kf _ ?_
      have hP18 := (hP16.ext hE17).ext hE18
      clear hE16 hE17 hE18 hP16
      -- the sums
      refine qSet_i fun k kn => ?_
      simp only [eOp, eUn, eVar, eC, eTest, eTru, rTru, eCa, aNil, aCons, eTup, eLst, rInt, rIxd, rAdd, rIntOf, rStrOf, rLen, rTupOf, rLstOf, rEq, rIsN, rNeg, rMin, rMax, eIf, bAnd, bOr, bNot, bYes, eMtL, eMtL0, rAppend, rPop, rExtend, rInsert, rReverse, rClear, eGet1, eGet2, rGet, isDic, gNm, gsNil, gsCons, gTp, gSb, rSet, eSl, rSl, oNone, oSome, iAny, iRg1, iRg2, eLc, eDc, dwipe, CT.put, setMany, sNext, sBreak, sCont, sRetN, sNever, keyD, kD, List.getElem?_cons_zero, List.getElem?_cons_succ, List.set_cons_zero, List.set_cons_succ, List.length_cons, List.length_nil, List.cons_append, List.nil_append, atI_0, atI_1, atI_2, atI_3, atI_4, ixN_0, ixN_1, ixN_2, ixN_3, ofString_inj, String.reduceEq, decide_true, decide_false, decide_not, beq_self_eq_true, Bool.not_true, Bool.not_false, Bool.false_eq_true, Bool.true_eq_false, if_true, if_false, ite_true, ite_false, beq_t, beq_f, true_and, and_true, not_true_eq_false, not_false_eq_true, forall_const, gup_get, eq_self, reduceCtorEq, reduceIte]
      refine ⟨p, c, rfl, hP18, fun ps m G19 l19 _ d19 => kn _ _ ?_⟩
      try dsimp only [List.set_cons_zero, List.set_cons_succ]
      refine qSet_i fun k kn => ?_
      simp only [eOp, eUn, eVar, eC, eTest, eTru, rTru, eCa, aNil, aCons, eTup, eLst, rInt, rIxd, rAdd, rIntOf, rStrOf, rLen, rTupOf, rLstOf, rEq, rIsN, rNeg, rMin, rMax, eIf, bAnd, bOr, bNot, bYes, eMtL, eMtL0, rAppend, rPop, rExtend, rInsert, rReverse, rClear, eGet1, eGet2, rGet, isDic, gNm, gsNil, gsCons, gTp, gSb, rSet, eSl, rSl, oNone, oSome, iAny, iRg1, iRg2, eLc, eDc, dwipe, CT.put, setMany, sNext, sBreak, sCont, sRetN, sNever, keyD, kD, List.getElem?_cons_zero, List.getElem?_cons_succ, List.set_cons_zero, List.set_cons_succ, List.length_cons, List.length_nil, List.cons_append, List.nil_append, atI_0, atI_1, atI_2, atI_3, atI_4, ixN_0, ixN_1, ixN_2, ixN_3, ofString_inj, String.reduceEq, decide_true, decide_false, decide_not, beq_self_eq_true, Bool.not_true, Bool.not_false, Bool.false_eq_true, Bool.true_eq_false, if_true, if_false, ite_true, ite_false, beq_t, beq_f, true_and, and_true, not_true_eq_false, not_false_eq_true, forall_const, gup_get, eq_self, reduceCtorEq, reduceIte]
      refine ⟨p, c, rfl, d19.1, fun qs m2 G20 l20 _ d20 => kn _ _ ?_⟩
      try dsimp only [List.set_cons_zero, List.set_cons_succ]
      refine qSet_i fun k kn => ?_
      simp only [eOp, eUn, eVar, eC, eTest, eTru, rTru, eCa, aNil, aCons, eTup, eLst, rInt, rIxd, rAdd, rIntOf, rStrOf, rLen, rTupOf, rLstOf, rEq, rIsN, rNeg, rMin, rMax, eIf, bAnd, bOr, bNot, bYes, eMtL, eMtL0, rAppend, rPop, rExtend, rInsert, rReverse, rClear, eGet1, eGet2, rGet, isDic, gNm, gsNil, gsCons, gTp, gSb, rSet, eSl, rSl, oNone, oSome, iAny, iRg1, iRg2, eLc, eDc, dwipe, CT.put, setMany, sNext, sBreak, sCont, sRetN, sNever, keyD, kD, List.getElem?_cons_zero, List.getElem?_cons_succ, List.set_cons_zero, List.set_cons_succ, List.length_cons, List.length_nil, List.cons_append, List.nil_append, atI_0, atI_1, atI_2, atI_3, atI_4, ixN_0, ixN_1, ixN_2, ixN_3, ofString_inj, String.reduceEq, decide_true, decide_false, decide_not, beq_self_eq_true, Bool.not_true, Bool.not_false, Bool.false_eq_true, Bool.true_eq_false, if_true, if_false, ite_true, ite_false, beq_t, beq_f, true_and, and_true, not_true_eq_false, not_false_eq_true, forall_const, gup_get, eq_self, reduceCtorEq, reduceIte]
      refine ⟨by decide, take_i d20.1 (by decide) (by decide) fun sg G21 sg0 sg1 d21 => ?_⟩
      obtain ⟨sgn, hsg, esg⟩ : ∃ sgn : Int, (sgn = 1 ∨ sgn = -1) ∧ atI [D.int 1, D.int (-1)] sg = some (.int sgn) := by
        have : sg = 0 ∨ sg = 1 := by omega
        rcases this with rfl | rfl
        · exact ⟨1, .inl rfl, rfl⟩
        · exact ⟨-1, .inr rfl, rfl⟩
      simp only [eOp, eUn, eVar, eC, eTest, eTru, rTru, eCa, aNil, aCons, eTup, eLst, rInt, rIxd, rAdd, rIntOf, rStrOf, rLen, rTupOf, rLstOf, rEq, rIsN, rNeg, rMin, rMax, eIf, bAnd, bOr, bNot, bYes, eMtL, eMtL0, rAppend, rPop, rExtend, rInsert, rReverse, rClear, eGet1, eGet2, rGet, isDic, gNm, gsNil, gsCons, gTp, gSb, rSet, eSl, rSl, oNone, oSome, iAny, iRg1, iRg2, eLc, eDc, dwipe, CT.put, setMany, sNext, sBreak, sCont, sRetN, sNever, keyD, kD, List.getElem?_cons_zero, List.getElem?_cons_succ, List.set_cons_zero, List.set_cons_succ, List.length_cons, List.length_nil, List.cons_append, List.nil_append, atI_0, atI_1, atI_2, atI_3, atI_4, ixN_0, ixN_1, ixN_2, ixN_3, ofString_inj, String.reduceEq, decide_true, decide_false, decide_not, beq_self_eq_true, Bool.not_true, Bool.not_false, Bool.false_eq_true, Bool.true_eq_false, if_true, if_false, ite_true, ite_false, beq_t, beq_f, true_and, and_true, not_true_eq_false, not_false_eq_true, forall_const, gup_get, eq_self, reduceCtorEq, reduceIte, esg]
      refine kn _ _ ?_
      try dsimp only [List.set_cons_zero, List.set_cons_succ]
      refine qSet_i fun k kn => ?_
      simp only [eOp, eUn, eVar, eC, eTest, eTru, rTru, eCa, aNil, aCons, eTup, eLst, rInt, rIxd, rAdd, rIntOf, rStrOf, rLen, rTupOf, rLstOf, rEq, rIsN, rNeg, rMin, rMax, eIf, bAnd, bOr, bNot, bYes, eMtL, eMtL0, rAppend, rPop, rExtend, rInsert, rReverse, rClear, eGet1, eGet2, rGet, isDic, gNm, gsNil, gsCons, gTp, gSb, rSet, eSl, rSl, oNone, oSome, iAny, iRg1, iRg2, eLc, eDc, dwipe, CT.put, setMany, sNext, sBreak, sCont, sRetN, sNever, keyD, kD, List.getElem?_cons_zero, List.getElem?_cons_succ, List.set_cons_zero, List.set_cons_succ, List.length_cons, List.length_nil, List.cons_append, List.nil_append, atI_0, atI_1, atI_2, atI_3, atI_4, ixN_0, ixN_1, ixN_2, ixN_3, ofString_inj, String.reduceEq, decide_true, decide_false, decide_not, beq_self_eq_true, Bool.not_true, Bool.not_false, Bool.false_eq_true, Bool.true_eq_false, if_true, if_false, ite_true, ite_false, beq_t, beq_f, true_and, and_true, not_true_eq_false, not_false_eq_true, forall_const, gup_get, eq_self, reduceCtorEq, reduceIte]
      refine ⟨p, c, rfl, d21.1, fun n G22 d22 => kn _ _ ?_⟩
      try dsimp only [List.set_cons_zero, List.set_cons_succ]
      refine sRet_i ?_
      have fin : ∀ G', E.rt (.bl true) G' := q
      simp only [eTest, eOp, eCa, aCons, aNil, eVar, eC, bOr, bAnd, bNot, eUn, List.getElem?_cons_zero, List.getElem?_cons_succ, eAndV]
      refine ⟨ps, qs, m, m2, sgn, rfl, by omega, by omega, hsg, fun G23 _ => ?_⟩
      refine ⟨ps, qs, m, m2, sgn, rfl, by omega, by omega, hsg, fun G24 _ => ?_⟩
      refine rEq_sum ?_
      simp only [rTru, if_true]
      refine ⟨n, rfl, ?_⟩
      simp only [eTest, eOp, eCa, aCons, aNil, eVar, eC, bOr, bAnd, bNot, eUn, List.getElem?_cons_zero, List.getElem?_cons_succ, eTup]
      refine ⟨Nat.zero_le _, by simp only [List.length_cons, List.length_nil]; omega, ?_⟩
      have e2 : D.tup [.str (Str.ofString "sum"), .tup [], .int n] = (Sy.sum [] n).toD := by simp [Sy.toD, psD]
      rw [e2]
      exact rEq_sum (fin _)
  · obtain ⟨j, hj, rfl⟩ := mem_rngDs hx
    exact ⟨j, by omega, rfl⟩
end Dn.My

namespace Dn.My
open PySem PySem.Spec PyProof.Rows L2 Dn
section
variable {P : Program} {w : World} {K : PySem.W.Frag} {mg : Str → Option Value} {base : Heap}
theorem t_integer (B : Nb mg) (D : Df K mg "integer" p_integer s_integer) : Fn P w K mg base 1 "integer" p_integer (sp_integer) :=
  D.fn sc_integer (fun ds G Q h => by obtain ⟨n, rfl, q⟩ := h; rfl) (rd_integer ) (fun f cdv A outer s H E hr => der_integer B cdv A outer s H E hr) (fun ds G Q h => by obtain ⟨n, rfl, q⟩ := h; exact sem_integer q)
theorem t_added (B : Nb mg) (D : Df K mg "added" p_added s_added) : Fn P w K mg base 1 "added" p_added (sp_added) :=
  D.fn sc_added (fun ds G Q h => by obtain ⟨ps, qs, a, b, sg, rfl, h1, h2, hs, q⟩ := h; rfl) (rd_added ) (fun f cdv A outer s H E hr => der_added B cdv A outer s H E hr) (fun ds G Q h => by obtain ⟨ps, qs, a, b, sg, rfl, h1, h2, hs, q⟩ := h; exact sem_added h1 h2 hs q)
theorem t_built (B : Nb mg) (D : Df K mg "built" p_built s_built) : Fn P w K mg base 1 "built" p_built (sp_built) :=
  D.fn sc_built (fun ds G Q h => by obtain ⟨m, rest, inner, it, res, rfl, hm, hr, hi, hz, q⟩ := h; rfl) (rd_built ) (fun f cdv A outer s H E hr => der_built B cdv A outer s H E hr) (fun ds G Q h => by obtain ⟨m, rest, inner, it, res, rfl, hm, hr, hi, hz, q⟩ := h; exact sem_built hm hr hi hz q (fun _ _ h => h))
theorem t_leaf (B : Nb mg) (D : Df K mg "leaf" p_leaf s_leaf) (F_integer : Fn P w K mg base 1 "integer" p_integer (sp_integer)) : Fn P w K mg base 2 "leaf" p_leaf (sp_leaf) :=
  D.fn sc_leaf (fun ds G Q h => by obtain ⟨t, tb, T, p, rfl, hl, tab, ha, q⟩ := h; rfl) (rd_leaf ((sp_integer))) (fun f cdv A outer s H E hr => der_leaf B F_integer (by omega) cdv A outer s H E hr) (fun ds G Q h => by obtain ⟨t, tb, T, p, rfl, hl, tab, ha, q⟩ := h; exact sem_leaf hl tab ha q)
theorem t_symbolic (B : Nb mg) (D : Df K mg "symbolic" p_symbolic s_symbolic) (F_built : Fn P w K mg base 1 "built" p_built (sp_built)) (F_leaf : Fn P w K mg base 2 "leaf" p_leaf (sp_leaf)) : Fn P w K mg base 3 "symbolic" p_symbolic (sp_symbolic) :=
  D.fn sc_symbolic (fun ds G Q h => by obtain ⟨t, tb, T, p, rfl, tab, ha, hz, q⟩ := h; rfl) (rd_symbolic ((sp_built)) ((sp_leaf))) (fun f cdv A outer s H E hr => der_symbolic B F_built (by omega) F_leaf (by omega) cdv A outer s H E hr) (fun ds G Q h => by obtain ⟨t, tb, T, p, rfl, tab, ha, hz, q⟩ := h; exact sem_symbolic tab ha hz q)
theorem t_size (B : Nb mg) (D : Df K mg "size" p_size s_size) : Fn P w K mg base 1 "size" p_size (sp_size) :=
  D.fn sc_size (fun ds G Q h => by obtain ⟨s, rfl, hz, q⟩ := h; rfl) (rd_size ) (fun f cdv A outer s H E hr => der_size B cdv A outer s H E hr) (fun ds G Q h => by obtain ⟨s, rfl, hz, q⟩ := h; exact sem_size hz q)
theorem t_unknowns_in (B : Nb mg) (D : Df K mg "unknowns_in" p_unknowns_in s_unknowns_in) : Fn P w K mg base 1 "unknowns_in" p_unknowns_in (sp_unknowns_in) :=
  D.fn sc_unknowns_in (fun ds G Q h => by obtain ⟨s, rfl, hz, hu, q⟩ := h; rfl) (rd_unknowns_in ) (fun f cdv A outer s H E hr => der_unknowns_in B cdv A outer s H E hr) (fun ds G Q h => by obtain ⟨s, rfl, hz, hu, q⟩ := h; exact sem_unknowns_in hz hu q)
theorem t_replaced (B : Nb mg) (D : Df K mg "replaced" p_replaced s_replaced) : Fn P w K mg base 1 "replaced" p_replaced (sp_replaced) :=
  D.fn sc_replaced (fun ds G Q h => by obtain ⟨s, w, p, rfl, hw, hl, hz, q⟩ := h; rfl) (rd_replaced ) (fun f cdv A outer s H E hr => der_replaced B cdv A outer s H E hr) (fun ds G Q h => by obtain ⟨s, w, p, rfl, hw, hl, hz, q⟩ := h; exact sem_replaced hw hl hz q)
theorem t__law_pool (B : Nb mg) (D : Df K mg "_law_pool" p__law_pool s__law_pool) : Fn P w K mg base 1 "_law_pool" p__law_pool (sp__law_pool K) :=
  D.fn sc__law_pool (fun ds G Q h => by obtain ⟨sc, xs, rfl, hs, hl, q⟩ := h; rfl) (rd__law_pool K ) (fun f cdv A outer s H E hr => der__law_pool B cdv A outer s H E hr) (fun ds G Q h => by obtain ⟨sc, xs, rfl, hs, hl, q⟩ := h; exact sem__law_pool hs hl q)
theorem t1__law_take (B : Nb mg) (D : Df K mg "_law_take" p__law_take s__law_take) : Fn P w K mg base 1 "_law_take" p__law_take sp_digit :=
  D.fn sc__law_take (fun ds G Q h => by obtain ⟨p, c, many, rest, rfl, h, hr, h1, h2, q⟩ := h; rfl) (rd__law_take spNo) (fun f cdv A outer s H E hr => der__law_take B D.no (Nat.zero_le _) cdv A outer s H E hr) (fun ds G Q h => by obtain ⟨p, c, many, rest, rfl, h, hr, h1, h2, q⟩ := h; exact sem_digit spNo h hr h1 h2 q)
theorem t__law_take (B : Nb mg) (D : Df K mg "_law_take" p__law_take s__law_take) : Fn P w K mg base 2 "_law_take" p__law_take sp_take :=
  D.fn sc__law_take (fun ds G Q h => by obtain ⟨p, c, many, rfl, h, h1, h2, q⟩ := h; rfl) (rd__law_take sp_digit) (fun f cdv A outer s H E hr => der__law_take B (t1__law_take B D) (Nat.le_refl _) cdv A outer s H E hr) (fun ds G Q h => by obtain ⟨p, c, many, rfl, h, h1, h2, q⟩ := h; exact sem_take sp_digit (fun _ _ _ h => h) h h1 h2 q)
theorem t__law_whole (B : Nb mg) (D : Df K mg "_law_whole" p__law_whole s__law_whole) (F__law_take : Fn P w K mg base 2 "_law_take" p__law_take sp_take) : Fn P w K mg base 3 "_law_whole" p__law_whole (sp__law_whole) :=
  D.fn sc__law_whole (fun ds G Q h => by obtain ⟨p, c, rfl, h, q⟩ := h; rfl) (rd__law_whole (sp_take)) (fun f cdv A outer s H E hr => der__law_whole B F__law_take (by omega) cdv A outer s H E hr) (fun ds G Q h => by obtain ⟨p, c, rfl, h, q⟩ := h; exact sem__law_whole h q)
theorem t__law_sum (B : Nb mg) (D : Df K mg "_law_sum" p__law_sum s__law_sum) (F__law_take : Fn P w K mg base 2 "_law_take" p__law_take sp_take) (F__law_whole : Fn P w K mg base 3 "_law_whole" p__law_whole (sp__law_whole)) : Fn P w K mg base 4 "_law_sum" p__law_sum (sp__law_sum) :=
  D.fn sc__law_sum (fun ds G Q h => by obtain ⟨p, c, rfl, h, q⟩ := h; rfl) (rd__law_sum (sp_take) ((sp__law_whole))) (fun f cdv A outer s H E hr => der__law_sum B F__law_take (by omega) F__law_whole (by omega) cdv A outer s H E hr) (fun ds G Q h => by obtain ⟨p, c, rfl, h, q⟩ := h; exact sem__law_sum h q)
theorem t__law_given (B : Nb mg) (D : Df K mg "_law_given" p__law_given s__law_given) (F__law_take : Fn P w K mg base 2 "_law_take" p__law_take sp_take) (F__law_sum : Fn P w K mg base 4 "_law_sum" p__law_sum (sp__law_sum)) : Fn P w K mg base 5 "_law_given" p__law_given (sp__law_given) :=
  D.fn sc__law_given (fun ds G Q h => by obtain ⟨p, c, rfl, h, q⟩ := h; rfl) (rd__law_given (sp_take) ((sp__law_sum))) (fun f cdv A outer s H E hr => der__law_given B F__law_take (by omega) F__law_sum (by omega) cdv A outer s H E hr) (fun ds G Q h => by obtain ⟨p, c, rfl, h, q⟩ := h; exact sem__law_given h q)
theorem t__law_term (B : Nb mg) (D : Df K mg "_law_term" p__law_term s__law_term) (F__law_take : Fn P w K mg base 2 "_law_take" p__law_take sp_take) (F__law_whole : Fn P w K mg base 3 "_law_whole" p__law_whole (sp__law_whole)) : ∀ n : Nat, Fn P w K mg base (n + 4) "_law_term" p__law_term (sp__law_term n)
  | 0 => D.fn sc__law_term (fun ds G Q h => by obtain ⟨p, c, wd, words, d, rfl, h, hw, hw0, hw1, hwp, hd, q⟩ := h; rfl) (rd__law_term (sp_take) ((sp__law_whole)) (spNo)) (fun f cdv A outer s H E hr => der__law_term B F__law_take (by omega) F__law_whole (by omega) D.no (Nat.zero_le _) cdv A outer s H E hr) (fun ds G Q h => by obtain ⟨p, c, wd, words, d, rfl, h, hw, hw0, hw1, hwp, hd, q⟩ := h; exact sem__law_term (fun m e => by omega) h hw hw0 hw1 hwp hd q)
  | n + 1 => D.fn sc__law_term (fun ds G Q h => by obtain ⟨p, c, wd, words, d, rfl, h, hw, hw0, hw1, hwp, hd, q⟩ := h; rfl) (rd__law_term (sp_take) ((sp__law_whole)) (sp__law_term n)) (fun f cdv A outer s H E hr => der__law_term B F__law_take (by omega) F__law_whole (by omega) (t__law_term B D F__law_take F__law_whole n) (by omega) cdv A outer s H E hr) (fun ds G Q h => by obtain ⟨p, c, wd, words, d, rfl, h, hw, hw0, hw1, hwp, hd, q⟩ := h; exact sem__law_term (fun m e => by cases e; rfl) h hw hw0 hw1 hwp hd q)
theorem t__law_due (B : Nb mg) (D : Df K mg "_law_due" p__law_due s__law_due) : ∀ n : Nat, Fn P w K mg base (n + 1) "_law_due" p__law_due (sp__law_due n)
  | 0 => D.fn sc__law_due (fun ds G Q h => by obtain ⟨t, tb, T, p, rfl, hf, tab, q⟩ := h; rfl) (rd__law_due (spNo)) (fun f cdv A outer s H E hr => der__law_due B D.no (Nat.zero_le _) cdv A outer s H E hr) (fun ds G Q h => by obtain ⟨t, tb, T, p, rfl, hf, tab, q⟩ := h; exact sem__law_due (fun m e => by omega) hf tab q)
  | n + 1 => D.fn sc__law_due (fun ds G Q h => by obtain ⟨t, tb, T, p, rfl, hf, tab, q⟩ := h; rfl) (rd__law_due (sp__law_due n)) (fun f cdv A outer s H E hr => der__law_due B (t__law_due B D n) (by omega) cdv A outer s H E hr) (fun ds G Q h => by obtain ⟨t, tb, T, p, rfl, hf, tab, q⟩ := h; exact sem__law_due (fun m e => by cases e; rfl) hf tab q)
theorem t__law_size (B : Nb mg) (D : Df K mg "_law_size" p__law_size s__law_size) : ∀ n : Nat, Fn P w K mg base (n + 1) "_law_size" p__law_size (sp__law_size n)
  | 0 => D.fn sc__law_size (fun ds G Q h => by obtain ⟨s, rfl, hf, q⟩ := h; rfl) (rd__law_size (spNo)) (fun f cdv A outer s H E hr => der__law_size B D.no (Nat.zero_le _) cdv A outer s H E hr) (fun ds G Q h => by obtain ⟨s, rfl, hf, q⟩ := h; exact sem__law_size (fun m e => by omega) hf q)
  | n + 1 => D.fn sc__law_size (fun ds G Q h => by obtain ⟨s, rfl, hf, q⟩ := h; rfl) (rd__law_size (sp__law_size n)) (fun f cdv A outer s H E hr => der__law_size B (t__law_size B D n) (by omega) cdv A outer s H E hr) (fun ds G Q h => by obtain ⟨s, rfl, hf, q⟩ := h; exact sem__law_size (fun m e => by cases e; rfl) hf q)
theorem t__law_found (B : Nb mg) (D : Df K mg "_law_found" p__law_found s__law_found) : ∀ n : Nat, Fn P w K mg base (n + 1) "_law_found" p__law_found (sp__law_found n)
  | 0 => D.fn sc__law_found (fun ds G Q h => by obtain ⟨s, rfl, hf, hz, q⟩ := h; rfl) (rd__law_found (spNo)) (fun f cdv A outer s H E hr => der__law_found B D.no (Nat.zero_le _) cdv A outer s H E hr) (fun ds G Q h => by obtain ⟨s, rfl, hf, hz, q⟩ := h; exact sem__law_found (fun m e => by omega) hf hz q)
  | n + 1 => D.fn sc__law_found (fun ds G Q h => by obtain ⟨s, rfl, hf, hz, q⟩ := h; rfl) (rd__law_found (sp__law_found n)) (fun f cdv A outer s H E hr => der__law_found B (t__law_found B D n) (by omega) cdv A outer s H E hr) (fun ds G Q h => by obtain ⟨s, rfl, hf, hz, q⟩ := h; exact sem__law_found (fun m e => by cases e; rfl) hf hz q)
theorem t__law_ways (B : Nb mg) (D : Df K mg "_law_ways" p__law_ways s__law_ways) : ∀ n : Nat, n < 60 → Fn P w K mg base (n + 1) "_law_ways" p__law_ways (sp__law_ways n)
  | 0, hn => D.fn sc__law_ways (fun ds G Q h => by obtain ⟨s, rfl, hf, hz, q⟩ := h; rfl) (rd__law_ways (spNo)) (fun f cdv A outer s H E hr => der__law_ways B D.no (Nat.zero_le _) cdv A outer s H E hr) (fun ds G Q h => by obtain ⟨s, rfl, hf, hz, q⟩ := h; exact sem__law_ways (by omega) (fun m e => by omega) hf hz q)
  | n + 1, hn => D.fn sc__law_ways (fun ds G Q h => by obtain ⟨s, rfl, hf, hz, q⟩ := h; rfl) (rd__law_ways (sp__law_ways n)) (fun f cdv A outer s H E hr => der__law_ways B (t__law_ways B D n (by omega)) (by omega) cdv A outer s H E hr) (fun ds G Q h => by obtain ⟨s, rfl, hf, hz, q⟩ := h; exact sem__law_ways (by omega) (fun m e => by cases e; rfl) hf hz q)
theorem t__law_put (B : Nb mg) (D : Df K mg "_law_put" p__law_put s__law_put) : ∀ n : Nat, n < 60 → Fn P w K mg base (n + 1) "_law_put" p__law_put (sp__law_put n)
  | 0, hn => D.fn sc__law_put (fun ds G Q h => by obtain ⟨s, w, p, rfl, hw, hl, q⟩ := h; rfl) (rd__law_put (spNo)) (fun f cdv A outer s H E hr => der__law_put B D.no (Nat.zero_le _) cdv A outer s H E hr) (fun ds G Q h => by obtain ⟨s, w, p, rfl, hw, hl, q⟩ := h; exact sem__law_put (by omega) (fun m e => by omega) hw hl q)
  | n + 1, hn => D.fn sc__law_put (fun ds G Q h => by obtain ⟨s, w, p, rfl, hw, hl, q⟩ := h; rfl) (rd__law_put (sp__law_put n)) (fun f cdv A outer s H E hr => der__law_put B (t__law_put B D n (by omega)) (by omega) cdv A outer s H E hr) (fun ds G Q h => by obtain ⟨s, w, p, rfl, hw, hl, q⟩ := h; exact sem__law_put (by omega) (fun m e => by cases e; rfl) hw hl q)
theorem t__law_once (B : Nb mg) (D : Df K mg "_law_once" p__law_once s__law_once) : Fn P w K mg base 1 "_law_once" p__law_once (sp__law_once) :=
  D.fn sc__law_once (fun ds G Q h => by obtain ⟨a, us, rfl, h, hl, q⟩ := h; rfl) (rd__law_once ) (fun f cdv A outer s H E hr => der__law_once B cdv A outer s H E hr) (fun ds G Q h => by obtain ⟨a, us, rfl, h, hl, q⟩ := h; exact sem__law_once h hl q)
theorem t__law_added (B : Nb mg) (D : Df K mg "_law_added" p__law_added s__law_added) : Fn P w K mg base 1 "_law_added" p__law_added (sp__law_added) :=
  D.fn sc__law_added (fun ds G Q h => by obtain ⟨ps, qs, a, b, sg, rfl, h1, h2, hs, q⟩ := h; rfl) (rd__law_added ) (fun f cdv A outer s H E hr => der__law_added B cdv A outer s H E hr) (fun ds G Q h => by obtain ⟨ps, qs, a, b, sg, rfl, h1, h2, hs, q⟩ := h; exact sem__law_added h1 h2 hs q)
theorem t_law (B : Nb mg) {f : Addr} {fd : FuncData} (D : L2.Fun K "law" "law" s_law f fd) (F__law_pool : Fn P w K mg base 1 "_law_pool" p__law_pool (sp__law_pool K)) (F__law_take : Fn P w K mg base 2 "_law_take" p__law_take sp_take) (F__law_given : Fn P w K mg base 5 "_law_given" p__law_given (sp__law_given)) (F__law_term : Fn P w K mg base 9 "_law_term" p__law_term (sp__law_term 5)) (F__law_due : Fn P w K mg base 6 "_law_due" p__law_due (sp__law_due 5)) (F_size : Fn P w K mg base 1 "size" p_size (sp_size)) (F__law_size : Fn P w K mg base 6 "_law_size" p__law_size (sp__law_size 5)) (F_symbolic : Fn P w K mg base 3 "symbolic" p_symbolic (sp_symbolic)) (F_unknowns_in : Fn P w K mg base 1 "unknowns_in" p_unknowns_in (sp_unknowns_in)) (F__law_once : Fn P w K mg base 1 "_law_once" p__law_once (sp__law_once)) (F__law_found : Fn P w K mg base 6 "_law_found" p__law_found (sp__law_found 5)) (F__law_ways : Fn P w K mg base 6 "_law_ways" p__law_ways (sp__law_ways 5)) (F_replaced : Fn P w K mg base 1 "replaced" p_replaced (sp_replaced)) (F__law_put : Fn P w K mg base 6 "_law_put" p__law_put (sp__law_put 5)) (F__law_sum : Fn P w K mg base 4 "_law_sum" p__law_sum (sp__law_sum)) (F__law_whole : Fn P w K mg base 3 "_law_whole" p__law_whole (sp__law_whole)) (F_integer : Fn P w K mg base 1 "integer" p_integer (sp_integer)) (F_added : Fn P w K mg base 1 "added" p_added (sp_added)) (F__law_added : Fn P w K mg base 1 "_law_added" p__law_added (sp__law_added)) : FnOk P w K mg base CX0 10 f fd p_law (lSp K (sp_lawK K)) :=
  fn_ok D sc_law (fun ds G Q h => by obtain ⟨sc, xs, rfl, hs, hl, q⟩ := h; rfl) (rd_law ((sp__law_pool K)) (sp_take) ((sp__law_given)) ((sp__law_term 5)) ((sp__law_due 5)) ((sp_size)) ((sp__law_size 5)) ((sp_symbolic)) ((sp_unknowns_in)) ((sp__law_once)) ((sp__law_found 5)) ((sp__law_ways 5)) ((sp_replaced)) ((sp__law_put 5)) ((sp__law_sum)) ((sp__law_whole)) ((sp_integer)) ((sp_added)) ((sp__law_added))) (fun cdv A outer s H E hr => der_law B F__law_pool (by omega) F__law_take (by omega) F__law_given (by omega) F__law_term (by omega) F__law_due (by omega) F_size (by omega) F__law_size (by omega) F_symbolic (by omega) F_unknowns_in (by omega) F__law_once (by omega) F__law_found (by omega) F__law_ways (by omega) F_replaced (by omega) F__law_put (by omega) F__law_sum (by omega) F__law_whole (by omega) F_integer (by omega) F_added (by omega) F__law_added (by omega) cdv A outer s H E hr) (fun ds G Q h => by obtain ⟨sc, xs, rfl, hs, hl, q⟩ := h; exact sem_law hs hl q)
theorem t_all (B : Nb mg) (D_integer : Df K mg "integer" p_integer s_integer) (D_added : Df K mg "added" p_added s_added) (D_built : Df K mg "built" p_built s_built) (D_leaf : Df K mg "leaf" p_leaf s_leaf) (D_symbolic : Df K mg "symbolic" p_symbolic s_symbolic) (D_size : Df K mg "size" p_size s_size) (D_unknowns_in : Df K mg "unknowns_in" p_unknowns_in s_unknowns_in) (D_replaced : Df K mg "replaced" p_replaced s_replaced) (D__law_pool : Df K mg "_law_pool" p__law_pool s__law_pool) (D__law_take : Df K mg "_law_take" p__law_take s__law_take) (D__law_whole : Df K mg "_law_whole" p__law_whole s__law_whole) (D__law_sum : Df K mg "_law_sum" p__law_sum s__law_sum) (D__law_given : Df K mg "_law_given" p__law_given s__law_given) (D__law_term : Df K mg "_law_term" p__law_term s__law_term) (D__law_due : Df K mg "_law_due" p__law_due s__law_due) (D__law_size : Df K mg "_law_size" p__law_size s__law_size) (D__law_found : Df K mg "_law_found" p__law_found s__law_found) (D__law_ways : Df K mg "_law_ways" p__law_ways s__law_ways) (D__law_put : Df K mg "_law_put" p__law_put s__law_put) (D__law_once : Df K mg "_law_once" p__law_once s__law_once) (D__law_added : Df K mg "_law_added" p__law_added s__law_added) {f : Addr} {fd : FuncData} (D_law : L2.Fun K "law" "law" s_law f fd) : FnOk P w K mg base CX0 10 f fd ["script"] (lSp K (sp_lawK K)) := by
  have F_integer := t_integer (P := P) (w := w) (base := base) B D_integer
  have F_added := t_added (P := P) (w := w) (base := base) B D_added
  have F_built := t_built (P := P) (w := w) (base := base) B D_built
  have F_leaf := t_leaf (P := P) (w := w) (base := base) B D_leaf F_integer
  have F_symbolic := t_symbolic (P := P) (w := w) (base := base) B D_symbolic F_built F_leaf
  have F_size := t_size (P := P) (w := w) (base := base) B D_size
  have F_unknowns_in := t_unknowns_in (P := P) (w := w) (base := base) B D_unknowns_in
  have F_replaced := t_replaced (P := P) (w := w) (base := base) B D_replaced
  have F__law_pool := t__law_pool (P := P) (w := w) (base := base) B D__law_pool
  have F__law_take := t__law_take (P := P) (w := w) (base := base) B D__law_take
  have F__law_whole := t__law_whole (P := P) (w := w) (base := base) B D__law_whole F__law_take
  have F__law_sum := t__law_sum (P := P) (w := w) (base := base) B D__law_sum F__law_take F__law_whole
  have F__law_given := t__law_given (P := P) (w := w) (base := base) B D__law_given F__law_take F__law_sum
  have F__law_term := t__law_term (P := P) (w := w) (base := base) B D__law_term F__law_take F__law_whole 5
  simp only [Nat.reduceAdd] at F__law_term
  have F__law_due := t__law_due (P := P) (w := w) (base := base) B D__law_due 5
  simp only [Nat.reduceAdd] at F__law_due
  have F__law_size := t__law_size (P := P) (w := w) (base := base) B D__law_size 5
  simp only [Nat.reduceAdd] at F__law_size
  have F__law_found := t__law_found (P := P) (w := w) (base := base) B D__law_found 5
  simp only [Nat.reduceAdd] at F__law_found
  have F__law_ways := t__law_ways (P := P) (w := w) (base := base) B D__law_ways 5 (by decide)
  simp only [Nat.reduceAdd] at F__law_ways
  have F__law_put := t__law_put (P := P) (w := w) (base := base) B D__law_put 5 (by decide)
  simp only [Nat.reduceAdd] at F__law_put
  have F__law_once := t__law_once (P := P) (w := w) (base := base) B D__law_once
  have F__law_added := t__law_added (P := P) (w := w) (base := base) B D__law_added
  have F_law := t_law (P := P) (w := w) (base := base) B D_law F__law_pool F__law_take F__law_given F__law_term F__law_due F_size F__law_size F_symbolic F_unknowns_in F__law_once F__law_found F__law_ways F_replaced F__law_put F__law_sum F__law_whole F_integer F_added F__law_added
  exact F_law
end
theorem all_mk {l : PySem.W.OpenLaw} {w : World} {K : PySem.W.Frag} {h : Heap} {mg : Str → Option Value} {fa : Addr} (X : K.In h) (G : h.Ns mainGlobals mg) (hfa : mg "law" = some (.ref fa))
    {f0 f1 f2 f3 f4 f5 f6 f7 f8 f9 f10 f11 f12 f13 f14 f15 f16 f17 f18 f19 f20 f21 : Addr} {od0 an0 od1 an1 od2 an2 od3 an3 od4 an4 od5 an5 od6 an6 od7 an7 od8 an8 od9 an9 od10 an10 od11 an11 od12 an12 od13 an13 od14 an14 od15 an15 od16 an16 od17 an17 od18 an18 od19 an19 od20 an20 od21 an21 : Option Addr} {sl0 sl1 sl2 sl3 sl4 sl5 sl6 sl7 sl8 sl9 sl10 sl11 sl12 sl13 sl14 sl15 sl16 sl17 sl18 sl19 sl20 sl21 : Array (Option Value)} {oc0 kV0 dc0 pm0 cd0 ct0 oc1 kV1 dc1 pm1 cd1 ct1 oc2 kV2 dc2 pm2 cd2 ct2 oc3 kV3 dc3 pm3 cd3 ct3 oc4 kV4 dc4 pm4 cd4 ct4 oc5 kV5 dc5 pm5 cd5 ct5 oc6 kV6 dc6 pm6 cd6 ct6 oc7 kV7 dc7 pm7 cd7 ct7 oc8 kV8 dc8 pm8 cd8 ct8 oc9 kV9 dc9 pm9 cd9 ct9 oc10 kV10 dc10 pm10 cd10 ct10 oc11 kV11 dc11 pm11 cd11 ct11 oc12 kV12 dc12 pm12 cd12 ct12 oc13 kV13 dc13 pm13 cd13 ct13 oc14 kV14 dc14 pm14 cd14 ct14 oc15 kV15 dc15 pm15 cd15 ct15 oc16 kV16 dc16 pm16 cd16 ct16 oc17 kV17 dc17 pm17 cd17 ct17 oc18 kV18 dc18 pm18 cd18 ct18 oc19 kV19 dc19 pm19 cd19 ct19 oc20 kV20 dc20 pm20 cd20 ct20 oc21 kV21 dc21 pm21 cd21 ct21 : Value}
    (a0 : PySem.W.nsIn K mainGlobals "integer" = some (some (.ref f0))) (l0 : K.lookup f0 = some ⟨oc0, od0, .func (PySem.W.fnOf "integer" "integer" (defArgs s_integer) (defBody s_integer) (defScope s_integer) .none kV0 dc0 pm0 an0 cd0 ct0), sl0⟩) (c0 : PySem.W.codeIn K cd0 "integer" = true) (k0 : PySem.W.keepIn K (.ref f0) = true)
    (a1 : PySem.W.nsIn K mainGlobals "added" = some (some (.ref f1))) (l1 : K.lookup f1 = some ⟨oc1, od1, .func (PySem.W.fnOf "added" "added" (defArgs s_added) (defBody s_added) (defScope s_added) .none kV1 dc1 pm1 an1 cd1 ct1), sl1⟩) (c1 : PySem.W.codeIn K cd1 "added" = true) (k1 : PySem.W.keepIn K (.ref f1) = true)
    (a2 : PySem.W.nsIn K mainGlobals "built" = some (some (.ref f2))) (l2 : K.lookup f2 = some ⟨oc2, od2, .func (PySem.W.fnOf "built" "built" (defArgs s_built) (defBody s_built) (defScope s_built) .none kV2 dc2 pm2 an2 cd2 ct2), sl2⟩) (c2 : PySem.W.codeIn K cd2 "built" = true) (k2 : PySem.W.keepIn K (.ref f2) = true)
    (a3 : PySem.W.nsIn K mainGlobals "leaf" = some (some (.ref f3))) (l3 : K.lookup f3 = some ⟨oc3, od3, .func (PySem.W.fnOf "leaf" "leaf" (defArgs s_leaf) (defBody s_leaf) (defScope s_leaf) .none kV3 dc3 pm3 an3 cd3 ct3), sl3⟩) (c3 : PySem.W.codeIn K cd3 "leaf" = true) (k3 : PySem.W.keepIn K (.ref f3) = true)
    (a4 : PySem.W.nsIn K mainGlobals "symbolic" = some (some (.ref f4))) (l4 : K.lookup f4 = some ⟨oc4, od4, .func (PySem.W.fnOf "symbolic" "symbolic" (defArgs s_symbolic) (defBody s_symbolic) (defScope s_symbolic) .none kV4 dc4 pm4 an4 cd4 ct4), sl4⟩) (c4 : PySem.W.codeIn K cd4 "symbolic" = true) (k4 : PySem.W.keepIn K (.ref f4) = true)
    (a5 : PySem.W.nsIn K mainGlobals "size" = some (some (.ref f5))) (l5 : K.lookup f5 = some ⟨oc5, od5, .func (PySem.W.fnOf "size" "size" (defArgs s_size) (defBody s_size) (defScope s_size) .none kV5 dc5 pm5 an5 cd5 ct5), sl5⟩) (c5 : PySem.W.codeIn K cd5 "size" = true) (k5 : PySem.W.keepIn K (.ref f5) = true)
    (a6 : PySem.W.nsIn K mainGlobals "unknowns_in" = some (some (.ref f6))) (l6 : K.lookup f6 = some ⟨oc6, od6, .func (PySem.W.fnOf "unknowns_in" "unknowns_in" (defArgs s_unknowns_in) (defBody s_unknowns_in) (defScope s_unknowns_in) .none kV6 dc6 pm6 an6 cd6 ct6), sl6⟩) (c6 : PySem.W.codeIn K cd6 "unknowns_in" = true) (k6 : PySem.W.keepIn K (.ref f6) = true)
    (a7 : PySem.W.nsIn K mainGlobals "replaced" = some (some (.ref f7))) (l7 : K.lookup f7 = some ⟨oc7, od7, .func (PySem.W.fnOf "replaced" "replaced" (defArgs s_replaced) (defBody s_replaced) (defScope s_replaced) .none kV7 dc7 pm7 an7 cd7 ct7), sl7⟩) (c7 : PySem.W.codeIn K cd7 "replaced" = true) (k7 : PySem.W.keepIn K (.ref f7) = true)
    (a8 : PySem.W.nsIn K mainGlobals "_law_pool" = some (some (.ref f8))) (l8 : K.lookup f8 = some ⟨oc8, od8, .func (PySem.W.fnOf "_law_pool" "_law_pool" (defArgs s__law_pool) (defBody s__law_pool) (defScope s__law_pool) .none kV8 dc8 pm8 an8 cd8 ct8), sl8⟩) (c8 : PySem.W.codeIn K cd8 "_law_pool" = true) (k8 : PySem.W.keepIn K (.ref f8) = true)
    (a9 : PySem.W.nsIn K mainGlobals "_law_take" = some (some (.ref f9))) (l9 : K.lookup f9 = some ⟨oc9, od9, .func (PySem.W.fnOf "_law_take" "_law_take" (defArgs s__law_take) (defBody s__law_take) (defScope s__law_take) .none kV9 dc9 pm9 an9 cd9 ct9), sl9⟩) (c9 : PySem.W.codeIn K cd9 "_law_take" = true) (k9 : PySem.W.keepIn K (.ref f9) = true)
    (a10 : PySem.W.nsIn K mainGlobals "_law_whole" = some (some (.ref f10))) (l10 : K.lookup f10 = some ⟨oc10, od10, .func (PySem.W.fnOf "_law_whole" "_law_whole" (defArgs s__law_whole) (defBody s__law_whole) (defScope s__law_whole) .none kV10 dc10 pm10 an10 cd10 ct10), sl10⟩) (c10 : PySem.W.codeIn K cd10 "_law_whole" = true) (k10 : PySem.W.keepIn K (.ref f10) = true)
    (a11 : PySem.W.nsIn K mainGlobals "_law_sum" = some (some (.ref f11))) (l11 : K.lookup f11 = some ⟨oc11, od11, .func (PySem.W.fnOf "_law_sum" "_law_sum" (defArgs s__law_sum) (defBody s__law_sum) (defScope s__law_sum) .none kV11 dc11 pm11 an11 cd11 ct11), sl11⟩) (c11 : PySem.W.codeIn K cd11 "_law_sum" = true) (k11 : PySem.W.keepIn K (.ref f11) = true)
    (a12 : PySem.W.nsIn K mainGlobals "_law_given" = some (some (.ref f12))) (l12 : K.lookup f12 = some ⟨oc12, od12, .func (PySem.W.fnOf "_law_given" "_law_given" (defArgs s__law_given) (defBody s__law_given) (defScope s__law_given) .none kV12 dc12 pm12 an12 cd12 ct12), sl12⟩) (c12 : PySem.W.codeIn K cd12 "_law_given" = true) (k12 : PySem.W.keepIn K (.ref f12) = true)
    (a13 : PySem.W.nsIn K mainGlobals "_law_term" = some (some (.ref f13))) (l13 : K.lookup f13 = some ⟨oc13, od13, .func (PySem.W.fnOf "_law_term" "_law_term" (defArgs s__law_term) (defBody s__law_term) (defScope s__law_term) .none kV13 dc13 pm13 an13 cd13 ct13), sl13⟩) (c13 : PySem.W.codeIn K cd13 "_law_term" = true) (k13 : PySem.W.keepIn K (.ref f13) = true)
    (a14 : PySem.W.nsIn K mainGlobals "_law_due" = some (some (.ref f14))) (l14 : K.lookup f14 = some ⟨oc14, od14, .func (PySem.W.fnOf "_law_due" "_law_due" (defArgs s__law_due) (defBody s__law_due) (defScope s__law_due) .none kV14 dc14 pm14 an14 cd14 ct14), sl14⟩) (c14 : PySem.W.codeIn K cd14 "_law_due" = true) (k14 : PySem.W.keepIn K (.ref f14) = true)
    (a15 : PySem.W.nsIn K mainGlobals "_law_size" = some (some (.ref f15))) (l15 : K.lookup f15 = some ⟨oc15, od15, .func (PySem.W.fnOf "_law_size" "_law_size" (defArgs s__law_size) (defBody s__law_size) (defScope s__law_size) .none kV15 dc15 pm15 an15 cd15 ct15), sl15⟩) (c15 : PySem.W.codeIn K cd15 "_law_size" = true) (k15 : PySem.W.keepIn K (.ref f15) = true)
    (a16 : PySem.W.nsIn K mainGlobals "_law_found" = some (some (.ref f16))) (l16 : K.lookup f16 = some ⟨oc16, od16, .func (PySem.W.fnOf "_law_found" "_law_found" (defArgs s__law_found) (defBody s__law_found) (defScope s__law_found) .none kV16 dc16 pm16 an16 cd16 ct16), sl16⟩) (c16 : PySem.W.codeIn K cd16 "_law_found" = true) (k16 : PySem.W.keepIn K (.ref f16) = true)
    (a17 : PySem.W.nsIn K mainGlobals "_law_ways" = some (some (.ref f17))) (l17 : K.lookup f17 = some ⟨oc17, od17, .func (PySem.W.fnOf "_law_ways" "_law_ways" (defArgs s__law_ways) (defBody s__law_ways) (defScope s__law_ways) .none kV17 dc17 pm17 an17 cd17 ct17), sl17⟩) (c17 : PySem.W.codeIn K cd17 "_law_ways" = true) (k17 : PySem.W.keepIn K (.ref f17) = true)
    (a18 : PySem.W.nsIn K mainGlobals "_law_put" = some (some (.ref f18))) (l18 : K.lookup f18 = some ⟨oc18, od18, .func (PySem.W.fnOf "_law_put" "_law_put" (defArgs s__law_put) (defBody s__law_put) (defScope s__law_put) .none kV18 dc18 pm18 an18 cd18 ct18), sl18⟩) (c18 : PySem.W.codeIn K cd18 "_law_put" = true) (k18 : PySem.W.keepIn K (.ref f18) = true)
    (a19 : PySem.W.nsIn K mainGlobals "_law_once" = some (some (.ref f19))) (l19 : K.lookup f19 = some ⟨oc19, od19, .func (PySem.W.fnOf "_law_once" "_law_once" (defArgs s__law_once) (defBody s__law_once) (defScope s__law_once) .none kV19 dc19 pm19 an19 cd19 ct19), sl19⟩) (c19 : PySem.W.codeIn K cd19 "_law_once" = true) (k19 : PySem.W.keepIn K (.ref f19) = true)
    (a20 : PySem.W.nsIn K mainGlobals "_law_added" = some (some (.ref f20))) (l20 : K.lookup f20 = some ⟨oc20, od20, .func (PySem.W.fnOf "_law_added" "_law_added" (defArgs s__law_added) (defBody s__law_added) (defScope s__law_added) .none kV20 dc20 pm20 an20 cd20 ct20), sl20⟩) (c20 : PySem.W.codeIn K cd20 "_law_added" = true) (k20 : PySem.W.keepIn K (.ref f20) = true)
    (a21 : PySem.W.nsIn K mainGlobals "law" = some (some (.ref f21))) (l21 : K.lookup f21 = some ⟨oc21, od21, .func (PySem.W.fnOf "law" "law" (defArgs s_law) (defBody s_law) (defScope s_law) .none kV21 dc21 pm21 an21 cd21 ct21), sl21⟩) (c21 : PySem.W.codeIn K cd21 "law" = true) (k21 : PySem.W.keepIn K (.ref f21) = true)
    (z_tuple : PySem.W.nsIn K mainGlobals "tuple" = some none)
    (z_sorted : PySem.W.nsIn K mainGlobals "sorted" = some none)
    (z_len : PySem.W.nsIn K mainGlobals "len" = some none)
    (z_range : PySem.W.nsIn K mainGlobals "range" = some none)
    (z_list : PySem.W.nsIn K mainGlobals "list" = some none)
    (z_reversed : PySem.W.nsIn K mainGlobals "reversed" = some none)
    (z_int : PySem.W.nsIn K mainGlobals "int" = some none)
    (z_str : PySem.W.nsIn K mainGlobals "str" = some none)
    (z_sum : PySem.W.nsIn K mainGlobals "sum" = some none)
    : ∃ fd : FuncData, (∀ (s : Shared) (v : Value), BindsTo s fd ⟨[v], []⟩ [("script", v)]) ∧ ∀ base : Heap, K.In base → base.Ns mainGlobals mg → FnOk l.prog w K mg base CX0 10 fa fd ["script"] (lSp K (sp_lawK K)) := by
  have F0 := fun_mk (st := s_integer) l0 c0 k0
  have D0 : Df K mg "integer" p_integer s_integer := ⟨_, _, F0, PySem.W.mg_of X G a0, F0.binds (ps := p_integer) fun _ _ _ _ _ _ us hl => match us, hl with | [_], _ => rfl⟩
  have F1 := fun_mk (st := s_added) l1 c1 k1
  have D1 : Df K mg "added" p_added s_added := ⟨_, _, F1, PySem.W.mg_of X G a1, F1.binds (ps := p_added) fun _ _ _ _ _ _ us hl => match us, hl with | [_, _, _], _ => rfl⟩
  have F2 := fun_mk (st := s_built) l2 c2 k2
  have D2 : Df K mg "built" p_built s_built := ⟨_, _, F2, PySem.W.mg_of X G a2, F2.binds (ps := p_built) fun _ _ _ _ _ _ us hl => match us, hl with | [_, _], _ => rfl⟩
  have F3 := fun_mk (st := s_leaf) l3 c3 k3
  have D3 : Df K mg "leaf" p_leaf s_leaf := ⟨_, _, F3, PySem.W.mg_of X G a3, F3.binds (ps := p_leaf) fun _ _ _ _ _ _ us hl => match us, hl with | [_, _], _ => rfl⟩
  have F4 := fun_mk (st := s_symbolic) l4 c4 k4
  have D4 : Df K mg "symbolic" p_symbolic s_symbolic := ⟨_, _, F4, PySem.W.mg_of X G a4, F4.binds (ps := p_symbolic) fun _ _ _ _ _ _ us hl => match us, hl with | [_, _], _ => rfl⟩
  have F5 := fun_mk (st := s_size) l5 c5 k5
  have D5 : Df K mg "size" p_size s_size := ⟨_, _, F5, PySem.W.mg_of X G a5, F5.binds (ps := p_size) fun _ _ _ _ _ _ us hl => match us, hl with | [_], _ => rfl⟩
  have F6 := fun_mk (st := s_unknowns_in) l6 c6 k6
  have D6 : Df K mg "unknowns_in" p_unknowns_in s_unknowns_in := ⟨_, _, F6, PySem.W.mg_of X G a6, F6.binds (ps := p_unknowns_in) fun _ _ _ _ _ _ us hl => match us, hl with | [_], _ => rfl⟩
  have F7 := fun_mk (st := s_replaced) l7 c7 k7
  have D7 : Df K mg "replaced" p_replaced s_replaced := ⟨_, _, F7, PySem.W.mg_of X G a7, F7.binds (ps := p_replaced) fun _ _ _ _ _ _ us hl => match us, hl with | [_, _, _], _ => rfl⟩
  have F8 := fun_mk (st := s__law_pool) l8 c8 k8
  have D8 : Df K mg "_law_pool" p__law_pool s__law_pool := ⟨_, _, F8, PySem.W.mg_of X G a8, F8.binds (ps := p__law_pool) fun _ _ _ _ _ _ us hl => match us, hl with | [_], _ => rfl⟩
  have F9 := fun_mk (st := s__law_take) l9 c9 k9
  have D9 : Df K mg "_law_take" p__law_take s__law_take := ⟨_, _, F9, PySem.W.mg_of X G a9, F9.binds (ps := p__law_take) fun _ _ _ _ _ _ us hl => match us, hl with | [_, _], _ => rfl⟩
  have F10 := fun_mk (st := s__law_whole) l10 c10 k10
  have D10 : Df K mg "_law_whole" p__law_whole s__law_whole := ⟨_, _, F10, PySem.W.mg_of X G a10, F10.binds (ps := p__law_whole) fun _ _ _ _ _ _ us hl => match us, hl with | [_], _ => rfl⟩
  have F11 := fun_mk (st := s__law_sum) l11 c11 k11
  have D11 : Df K mg "_law_sum" p__law_sum s__law_sum := ⟨_, _, F11, PySem.W.mg_of X G a11, F11.binds (ps := p__law_sum) fun _ _ _ _ _ _ us hl => match us, hl with | [_], _ => rfl⟩
  have F12 := fun_mk (st := s__law_given) l12 c12 k12
  have D12 : Df K mg "_law_given" p__law_given s__law_given := ⟨_, _, F12, PySem.W.mg_of X G a12, F12.binds (ps := p__law_given) fun _ _ _ _ _ _ us hl => match us, hl with | [_], _ => rfl⟩
  have F13 := fun_mk (st := s__law_term) l13 c13 k13
  have D13 : Df K mg "_law_term" p__law_term s__law_term := ⟨_, _, F13, PySem.W.mg_of X G a13, F13.binds (ps := p__law_term) fun _ _ _ _ _ _ us hl => match us, hl with | [_, _, _], _ => rfl⟩
  have F14 := fun_mk (st := s__law_due) l14 c14 k14
  have D14 : Df K mg "_law_due" p__law_due s__law_due := ⟨_, _, F14, PySem.W.mg_of X G a14, F14.binds (ps := p__law_due) fun _ _ _ _ _ _ us hl => match us, hl with | [_, _], _ => rfl⟩
  have F15 := fun_mk (st := s__law_size) l15 c15 k15
  have D15 : Df K mg "_law_size" p__law_size s__law_size := ⟨_, _, F15, PySem.W.mg_of X G a15, F15.binds (ps := p__law_size) fun _ _ _ _ _ _ us hl => match us, hl with | [_], _ => rfl⟩
  have F16 := fun_mk (st := s__law_found) l16 c16 k16
  have D16 : Df K mg "_law_found" p__law_found s__law_found := ⟨_, _, F16, PySem.W.mg_of X G a16, F16.binds (ps := p__law_found) fun _ _ _ _ _ _ us hl => match us, hl with | [_], _ => rfl⟩
  have F17 := fun_mk (st := s__law_ways) l17 c17 k17
  have D17 : Df K mg "_law_ways" p__law_ways s__law_ways := ⟨_, _, F17, PySem.W.mg_of X G a17, F17.binds (ps := p__law_ways) fun _ _ _ _ _ _ us hl => match us, hl with | [_], _ => rfl⟩
  have F18 := fun_mk (st := s__law_put) l18 c18 k18
  have D18 : Df K mg "_law_put" p__law_put s__law_put := ⟨_, _, F18, PySem.W.mg_of X G a18, F18.binds (ps := p__law_put) fun _ _ _ _ _ _ us hl => match us, hl with | [_, _, _], _ => rfl⟩
  have F19 := fun_mk (st := s__law_once) l19 c19 k19
  have D19 : Df K mg "_law_once" p__law_once s__law_once := ⟨_, _, F19, PySem.W.mg_of X G a19, F19.binds (ps := p__law_once) fun _ _ _ _ _ _ us hl => match us, hl with | [_], _ => rfl⟩
  have F20 := fun_mk (st := s__law_added) l20 c20 k20
  have D20 : Df K mg "_law_added" p__law_added s__law_added := ⟨_, _, F20, PySem.W.mg_of X G a20, F20.binds (ps := p__law_added) fun _ _ _ _ _ _ us hl => match us, hl with | [_, _, _], _ => rfl⟩
  have F21 := fun_mk (st := s_law) l21 c21 k21
  have D21 : Df K mg "law" p_law s_law := ⟨_, _, F21, PySem.W.mg_of X G a21, F21.binds (ps := p_law) fun _ _ _ _ _ _ us hl => match us, hl with | [_], _ => rfl⟩
  have B : Nb mg := ⟨PySem.W.mg_none_of X G z_tuple, PySem.W.mg_none_of X G z_sorted, PySem.W.mg_none_of X G z_len, PySem.W.mg_none_of X G z_range, PySem.W.mg_none_of X G z_list, PySem.W.mg_none_of X G z_reversed, PySem.W.mg_none_of X G z_int, PySem.W.mg_none_of X G z_str, PySem.W.mg_none_of X G z_sum⟩
  refine ⟨PySem.W.fnOf "law" "law" (defArgs s_law) (defBody s_law) (defScope s_law) .none kV21 dc21 pm21 an21 cd21 ct21, fun s v => .of_eq rfl, fun base _ _ => ?_⟩
  have e := hfa.symm.trans (PySem.W.mg_of X G a21)
  cases e
  exact t_all B D0 D1 D2 D3 D4 D5 D6 D7 D8 D9 D10 D11 D12 D13 D14 D15 D16 D17 D18 D19 D20 F21
theorem walk {l : PySem.W.OpenLaw} {q : Program} {loose : List Str} {XP : (Str → Option Value) → Heap → Prop} {YP : World → Heap → Prop} {d : DefRec} {K : Params → PySem.W.Frag} (hn : l.most = some 63) (hdf : d.params.defaults = [])
    (hY : ∀ (w : World) (h : Heap), YP w h → (K w.params).In h)
    (F : ∀ (w : World) (mg : Str → Option Value) (fa : Addr) (h : Heap), (K w.params).In h → h.Ns mainGlobals mg → mg d.name = some (.ref fa) →
      ∃ fd : FuncData, (∀ (s : Shared) (u : Value), BindsTo s fd ⟨[u], []⟩ [("script", u)]) ∧ ∀ base : Heap, (K w.params).In base → base.Ns mainGlobals mg → FnOk l.prog w (K w.params) mg base CX0 10 fa fd ["script"] (lSp (K w.params) (sp_lawK (K w.params)))) :
    PySem.W.WalkO q loose XP YP l.row.toRowW d [] (fun f vs => PySem.call f vs) :=
  L2.walk_of (n := 63) (k := 10) (x := "script") (CX := fun _ => CX0) (sp := fun w => lSp (K w.params) (sp_lawK (K w.params))) hn (by decide) hdf ⟨rfl, by decide, by decide⟩ hY F (fun _ _ _ _ hl hO hS => sp_law_script hl hO hS) fun _ _ _ _ _ z => z
end Dn.My
open PySem PySem.W PyProof.Rows
set_option maxRecDepth 100000 in
set_option maxHeartbeats 0 in
theorem PySem.Challenge.cw_passproven_k33_symbolic_terms_holds : PySem.Challenge.rw_passproven_k33_symbolic_terms.Holds := by
  w_on; o_law; k_head; (case hw => w_witness2)
  k_fill
  refine Dn.My.walk (l := PySem.Challenge.rw_passproven_k33_symbolic_terms) rfl rfl (fun w h Y => PySem.W.kIn_of Y) ?F
  case F =>
    intro w mg fa h KX G hmg
    refine' Dn.My.all_mk KX G hmg ?a0 ?l0 ?c0 ?k0 ?a1 ?l1 ?c1 ?k1 ?a2 ?l2 ?c2 ?k2 ?a3 ?l3 ?c3 ?k3 ?a4 ?l4 ?c4 ?k4 ?a5 ?l5 ?c5 ?k5 ?a6 ?l6 ?c6 ?k6 ?a7 ?l7 ?c7 ?k7 ?a8 ?l8 ?c8 ?k8 ?a9 ?l9 ?c9 ?k9 ?a10 ?l10 ?c10 ?k10 ?a11 ?l11 ?c11 ?k11 ?a12 ?l12 ?c12 ?k12 ?a13 ?l13 ?c13 ?k13 ?a14 ?l14 ?c14 ?k14 ?a15 ?l15 ?c15 ?k15 ?a16 ?l16 ?c16 ?k16 ?a17 ?l17 ?c17 ?k17 ?a18 ?l18 ?c18 ?k18 ?a19 ?l19 ?c19 ?k19 ?a20 ?l20 ?c20 ?k20 ?a21 ?l21 ?c21 ?k21 ?z_tuple ?z_sorted ?z_len ?z_range ?z_list ?z_reversed ?z_int ?z_str ?z_sum
    (case a0 => k_is); (case l0 => k_is); (case c0 => k_is); (case k0 => k_is)
    (case a1 => k_is); (case l1 => k_is); (case c1 => k_is); (case k1 => k_is)
    (case a2 => k_is); (case l2 => k_is); (case c2 => k_is); (case k2 => k_is)
    (case a3 => k_is); (case l3 => k_is); (case c3 => k_is); (case k3 => k_is)
    (case a4 => k_is); (case l4 => k_is); (case c4 => k_is); (case k4 => k_is)
    (case a5 => k_is); (case l5 => k_is); (case c5 => k_is); (case k5 => k_is)
    (case a6 => k_is); (case l6 => k_is); (case c6 => k_is); (case k6 => k_is)
    (case a7 => k_is); (case l7 => k_is); (case c7 => k_is); (case k7 => k_is)
    (case a8 => k_is); (case l8 => k_is); (case c8 => k_is); (case k8 => k_is)
    (case a9 => k_is); (case l9 => k_is); (case c9 => k_is); (case k9 => k_is)
    (case a10 => k_is); (case l10 => k_is); (case c10 => k_is); (case k10 => k_is)
    (case a11 => k_is); (case l11 => k_is); (case c11 => k_is); (case k11 => k_is)
    (case a12 => k_is); (case l12 => k_is); (case c12 => k_is); (case k12 => k_is)
    (case a13 => k_is); (case l13 => k_is); (case c13 => k_is); (case k13 => k_is)
    (case a14 => k_is); (case l14 => k_is); (case c14 => k_is); (case k14 => k_is)
    (case a15 => k_is); (case l15 => k_is); (case c15 => k_is); (case k15 => k_is)
    (case a16 => k_is); (case l16 => k_is); (case c16 => k_is); (case k16 => k_is)
    (case a17 => k_is); (case l17 => k_is); (case c17 => k_is); (case k17 => k_is)
    (case a18 => k_is); (case l18 => k_is); (case c18 => k_is); (case k18 => k_is)
    (case a19 => k_is); (case l19 => k_is); (case c19 => k_is); (case k19 => k_is)
    (case a20 => k_is); (case l20 => k_is); (case c20 => k_is); (case k20 => k_is)
    (case a21 => k_is); (case l21 => k_is); (case c21 => k_is); (case k21 => k_is)
    (case z_tuple => k_is)
    (case z_sorted => k_is)
    (case z_len => k_is)
    (case z_range => k_is)
    (case z_list => k_is)
    (case z_reversed => k_is)
    (case z_int => k_is)
    (case z_str => k_is)
    (case z_sum => k_is)

