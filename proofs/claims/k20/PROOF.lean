import PyProof.Rows.All
import HandS.ForMost
import HandS.Walk
import HandS.Conv
import HandS.IsInst
import HandS.DictComp
import HandS.TupAny
import HandS.TupMul
import HandS.WideBits
import HandS.Wide
import KE.GoesMore
import PyProof.DictUpdate
import PyProof.Draws
import HandS.Style
import HandS.Zip
import PySem.Challenge.RW_sidesums_k20_whole_days_far_on
set_option Elab.async false
set_option linter.all false
set_option maxRecDepth 100000
set_option maxHeartbeats 4000000
/-! AL: abstract slots over the hand layer. -/
namespace AL
open PySem PySem.Spec PyProof.Rows L2

/-- data that never changes -/
inductive D where
  | non | bl (b : Bool) | int (i : Int) | str (x : Str) | tup (ds : List D) | fl (ds : List D) | ty (n : String) | adr (a : Addr) | tk (ks : List Key)
/-- an owned object that may change -/
inductive M where
  | lst (ds : List D) | dK (kvs : List (Key × D)) | dT (kvs : List (List Key × D)) | drw (n : Nat) | lsA (a : Addr) (ds : List D)
/-- a value: data, or the k-th owned object -/
inductive AV where
  | im (d : D) | own (k : Nat)

/-- a list that nobody changes -/
def SqF (K : PySem.W.Frag) (H : Hp) (a : Addr) (xs : List V) : Prop :=
  (∃ o, H a = some (.frz o (.lst xs))) ∨
    ∃ (o : Obj) (us : Array Value) (m : Nat), K.lookup a = some o ∧ o.cls = .type "list" ∧ o.dict = none ∧ o.data = .seq us m ∧ us.size ≤ sizeLine ∧ Vals xs us.toList
theorem SqF.sql {K : PySem.W.Frag} {H : Hp} {a : Addr} {xs : List V} (h : SqF K H a xs) : SqL K H a xs := by
  rcases h with ⟨o, h⟩ | h
  · exact .inl (.inr ⟨o, h⟩)
  · exact .inr h

mutual
def Rep (K : PySem.W.Frag) (H : Hp) : D → V → Prop
  | .non, v => v = .non
  | .bl b, v => v = .bl b
  | .int i, v => v = .int i
  | .str x, v => v = .str x
  | .tup ds, v => ∃ a vs, v = .ref a ∧ SqT K H a vs ∧ Reps K H ds vs
  | .fl ds, v => ∃ a vs, v = .ref a ∧ SqF K H a vs ∧ Reps K H ds vs
  | .ty n, v => v = .ty n
  | .adr a, v => v = .ref a
  | .tk ks, v => ∃ a, v = .ref a ∧ H a = some (.tup (ks.map kV))
def Reps (K : PySem.W.Frag) (H : Hp) : List D → List V → Prop
  | [], vs => vs = []
  | d :: ds, vs => ∃ v r, vs = v :: r ∧ Rep K H d v ∧ Reps K H ds r
end

/-- what never changes is kept -/
structure Keep (H H' : Hp) : Prop where
  tup : ∀ a xs, H a = some (.tup xs) → H' a = some (.tup xs)
  frz : ∀ a o u, H a = some (.frz o u) → H' a = some (.frz o u)
theorem Keep.refl (H : Hp) : Keep H H := ⟨fun _ _ h => h, fun _ _ _ h => h⟩
theorem Keep.trans {H H1 H2 : Hp} (a : Keep H H1) (b : Keep H1 H2) : Keep H H2 :=
  ⟨fun c xs h => b.tup c xs (a.tup c xs h), fun c o u h => b.frz c o u (a.frz c o u h)⟩
theorem Keep.of_same {H H' : Hp} (s : Same H H') : Keep H H' := ⟨fun c xs h => s c _ h, fun c o u h => s c _ h⟩

section
variable {K : PySem.W.Frag} {H H' : Hp}
theorem sqT_keep {a : Addr} {xs : List V} (k : Keep H H') (h : SqT K H a xs) : SqT K H' a xs := by
  rcases h with (h | ⟨o, h⟩) | h
  · exact .inl (.inl (k.tup _ _ h))
  · exact .inl (.inr ⟨o, k.frz _ _ _ h⟩)
  · exact .inr h
theorem sqF_keep {a : Addr} {xs : List V} (k : Keep H H') (h : SqF K H a xs) : SqF K H' a xs := by
  rcases h with ⟨o, h⟩ | h
  · exact .inl ⟨o, k.frz _ _ _ h⟩
  · exact .inr h
mutual
theorem Rep.keep (k : Keep H H') : ∀ (d : D) (v : V), Rep K H d v → Rep K H' d v
  | .non, v, h => by rw [Rep] at h ⊢; exact h
  | .bl b, v, h => by rw [Rep] at h ⊢; exact h
  | .int i, v, h => by rw [Rep] at h ⊢; exact h
  | .str x, v, h => by rw [Rep] at h ⊢; exact h
  | .tup ds, v, h => by
    rw [Rep] at h ⊢
    obtain ⟨a, vs, e, q, r⟩ := h
    exact ⟨a, vs, e, sqT_keep k q, Reps.keep k ds vs r⟩
  | .fl ds, v, h => by
    rw [Rep] at h ⊢
    obtain ⟨a, vs, e, q, r⟩ := h
    exact ⟨a, vs, e, sqF_keep k q, Reps.keep k ds vs r⟩
  | .ty n, v, h => by rw [Rep] at h ⊢; exact h
  | .adr a, v, h => by rw [Rep] at h ⊢; exact h
  | .tk ks, v, h => by
    rw [Rep] at h ⊢
    obtain ⟨a, e, q⟩ := h
    exact ⟨a, e, k.tup _ _ q⟩
theorem Reps.keep (k : Keep H H') : ∀ (ds : List D) (vs : List V), Reps K H ds vs → Reps K H' ds vs
  | [], vs, h => by rw [Reps] at h ⊢; exact h
  | d :: ds, vs, h => by
    rw [Reps] at h ⊢
    obtain ⟨v, r, e, q, r'⟩ := h
    exact ⟨v, r, e, Rep.keep k d v q, Reps.keep k ds r r'⟩
end
theorem rep_non {v : V} : Rep K H .non v ↔ v = .non := by rw [Rep]
theorem rep_bl {b : Bool} {v : V} : Rep K H (.bl b) v ↔ v = .bl b := by rw [Rep]
theorem rep_int {i : Int} {v : V} : Rep K H (.int i) v ↔ v = .int i := by rw [Rep]
theorem rep_str {x : Str} {v : V} : Rep K H (.str x) v ↔ v = .str x := by rw [Rep]
theorem rep_tk {ks : List Key} {v : V} : Rep K H (.tk ks) v ↔ ∃ a, v = .ref a ∧ H a = some (.tup (ks.map kV)) := by rw [Rep]
theorem rep_adr {a : Addr} {v : V} : Rep K H (.adr a) v ↔ v = .ref a := by rw [Rep]
theorem rep_ty {n : String} {v : V} : Rep K H (.ty n) v ↔ v = .ty n := by rw [Rep]
theorem rep_tup {ds : List D} {v : V} : Rep K H (.tup ds) v ↔ ∃ a vs, v = .ref a ∧ SqT K H a vs ∧ Reps K H ds vs := by rw [Rep]
theorem rep_fl {ds : List D} {v : V} : Rep K H (.fl ds) v ↔ ∃ a vs, v = .ref a ∧ SqF K H a vs ∧ Reps K H ds vs := by rw [Rep]
theorem reps_nil {vs : List V} : Reps K H [] vs ↔ vs = [] := by rw [Reps]
theorem reps_cons {d : D} {ds : List D} {vs : List V} : Reps K H (d :: ds) vs ↔ ∃ v r, vs = v :: r ∧ Rep K H d v ∧ Reps K H ds r := by rw [Reps]
theorem reps_iff : ∀ {ds : List D} {vs : List V}, Reps K H ds vs ↔ Paired (Rep K H) ds vs
  | [], vs => by
    rw [reps_nil]
    constructor
    · rintro rfl; exact .nil
    · intro h; cases h; rfl
  | d :: ds, vs => by
    rw [reps_cons]
    constructor
    · rintro ⟨v, r, rfl, h1, h2⟩; exact .cons h1 (reps_iff.mp h2)
    · intro h; cases h with | cons h1 h2 => exact ⟨_, _, rfl, h1, reps_iff.mpr h2⟩
theorem reps_ints {ns : List Int} {vs : List V} : Reps K H (ns.map D.int) vs ↔ vs = ns.map V.int := by
  induction ns generalizing vs with
  | nil => rw [List.map_nil, List.map_nil, reps_nil]
  | cons n ns ih =>
    rw [List.map_cons, List.map_cons, reps_cons]
    constructor
    · rintro ⟨v, r, rfl, h1, h2⟩
      rw [rep_int.mp h1, ih.mp h2]
    · rintro rfl
      exact ⟨_, _, rfl, rep_int.mpr rfl, ih.mpr rfl⟩
theorem reps_bls {bs : List Bool} {vs : List V} : Reps K H (bs.map D.bl) vs ↔ vs = bs.map V.bl := by
  induction bs generalizing vs with
  | nil => rw [List.map_nil, List.map_nil, reps_nil]
  | cons n ns ih =>
    rw [List.map_cons, List.map_cons, reps_cons]
    constructor
    · rintro ⟨v, r, rfl, h1, h2⟩
      rw [rep_bl.mp h1, ih.mp h2]
    · rintro rfl
      exact ⟨_, _, rfl, rep_bl.mpr rfl, ih.mpr rfl⟩
theorem Reps.length {ds : List D} {vs : List V} (h : Reps K H ds vs) : ds.length = vs.length := (reps_iff.mp h).length
end

/-! ### Paired -/
section
variable {α β : Type} {F : α → β → Prop}
theorem pd_get : ∀ {l : List α} {l' : List β} {i : Nat} {x : α}, Paired F l l' → l[i]? = some x → ∃ y, l'[i]? = some y ∧ F x y
  | _, _, i, x, .nil, h => by simp at h
  | _, _, 0, x, .cons r _, h => by simp at h; subst h; exact ⟨_, rfl, r⟩
  | _, _, i + 1, x, .cons _ t, h => by
    obtain ⟨y, h1, h2⟩ := pd_get (i := i) (x := x) t (by simpa using h)
    exact ⟨y, by simpa using h1, h2⟩
theorem pd_get' : ∀ {l : List α} {l' : List β} {i : Nat} {y : β}, Paired F l l' → l'[i]? = some y → ∃ x, l[i]? = some x ∧ F x y
  | _, _, i, x, .nil, h => by simp at h
  | _, _, 0, x, .cons r _, h => by simp at h; subst h; exact ⟨_, rfl, r⟩
  | _, _, i + 1, x, .cons _ t, h => by
    obtain ⟨y, h1, h2⟩ := pd_get' (i := i) (y := x) t (by simpa using h)
    exact ⟨y, by simpa using h1, h2⟩
theorem pd_set {x : α} {y : β} (r : F x y) : ∀ {l : List α} {l' : List β} (i : Nat), Paired F l l' → Paired F (l.set i x) (l'.set i y)
  | _, _, _, .nil => .nil
  | _, _, 0, .cons _ t => .cons r t
  | _, _, i + 1, .cons q t => .cons q (pd_set r i t)
theorem pd_append : ∀ {l m : List α} {l' m' : List β}, Paired F l l' → Paired F m m' → Paired F (l ++ m) (l' ++ m')
  | _, _, _, _, .nil, s => s
  | _, _, _, _, .cons r t, s => .cons r (pd_append t s)
theorem pd_mono {G : α → β → Prop} (hm : ∀ a b, F a b → G a b) : ∀ {l : List α} {l' : List β}, Paired F l l' → Paired G l l'
  | _, _, .nil => .nil
  | _, _, .cons r t => .cons (hm _ _ r) (pd_mono hm t)
theorem pd_of : ∀ {l : List α} {l' : List β}, l.length = l'.length → (∀ (i : Nat) (x : α) (y : β), l[i]? = some x → l'[i]? = some y → F x y) → Paired F l l'
  | [], [], _, _ => .nil
  | [], _ :: _, h, _ => by simp at h
  | _ :: _, [], h, _ => by simp at h
  | x :: l, y :: l', h, f => .cons (f 0 x y rfl rfl) (pd_of (by simpa using h) fun i a b ha hb => f (i + 1) a b (by simpa using ha) (by simpa using hb))
theorem pd_at : ∀ {l : List α} {l' : List β} {i : Nat} {x : α} {y : β}, Paired F l l' → l[i]? = some x → l'[i]? = some y → F x y := fun {l l' i x y} h hx hy => by
  obtain ⟨y', e, r⟩ := pd_get h hx
  rw [hy] at e; cases e; exact r
theorem pd_take : ∀ {l : List α} {l' : List β} (n : Nat), Paired F l l' → Paired F (l.take n) (l'.take n)
  | _, _, 0, _ => by rw [List.take_zero, List.take_zero]; exact .nil
  | _, _, _ + 1, .nil => .nil
  | _, _, n + 1, .cons r t => .cons r (pd_take n t)
theorem pd_drop : ∀ {l : List α} {l' : List β} (n : Nat), Paired F l l' → Paired F (l.drop n) (l'.drop n)
  | _, _, 0, h => h
  | _, _, _ + 1, .nil => .nil
  | _, _, n + 1, .cons _ t => pd_drop n t
theorem pd_split : ∀ {l m : List α} {l' m' : List β}, l.length = l'.length → Paired F (l ++ m) (l' ++ m') → Paired F l l' ∧ Paired F m m'
  | [], _, [], _, _, h => ⟨.nil, h⟩
  | [], _, _ :: _, _, e, _ => by simp at e
  | _ :: _, _, [], _, e, _ => by simp at e
  | x :: l, m, y :: l', m', e, h => by
    cases h with
    | cons r t =>
      obtain ⟨h1, h2⟩ := pd_split (by simpa using e) t
      exact ⟨.cons r h1, h2⟩
theorem pd_two {α' : Type} {G : α' → β → Prop} : True := trivial
end

/-! ### owned objects -/
def KRep {κ : Type} (K : PySem.W.Frag) (H : Hp) : List (κ × D) → List (κ × V) → Prop := Paired fun (p : κ × D) (q : κ × V) => p.1 = q.1 ∧ Rep K H p.2 q.2
/-- the state of the draws: a dict with cells, a place, and what is left of great numbers -/
def DrwRep (H : Hp) (n : Nat) (fp : List Addr) : Prop := ∃ (p c l : Addr) (cells left : List Int) (at_ : Nat),
  fp = [p, c, l] ∧ p ≠ c ∧ p ≠ l ∧ c ≠ l ∧ H p = some (.dK [(Sum.inr "cells", .ref c), (Sum.inr "at", .int at_), (Sum.inr "left", .ref l)]) ∧
  H c = some (.lst (cells.map V.int)) ∧ H l = some (.lst (left.map V.int)) ∧ at_ ≤ n
def MRep (K : PySem.W.Frag) (H : Hp) : M → List Addr → Prop
  | .lst ds, fp => ∃ a vs, fp = [a] ∧ H a = some (.lst vs) ∧ Reps K H ds vs
  | .dK kvs, fp => ∃ a ws, fp = [a] ∧ H a = some (.dK ws) ∧ KRep K H kvs ws
  | .dT kvs, fp => ∃ a ws, fp = [a] ∧ H a = some (.dT ws) ∧ KRep K H kvs ws
  | .drw n, fp => DrwRep H n fp
  | .lsA a ds, fp => ∃ vs, fp = [a] ∧ H a = some (.lst vs) ∧ Reps K H ds vs
section
variable {K : PySem.W.Frag} {H H' : Hp}
theorem KRep.keep {κ : Type} {ks : List (κ × D)} {ws : List (κ × V)} (k : Keep H H') (h : KRep K H ks ws) : KRep K H' ks ws := pd_mono (fun _ _ r => ⟨r.1, Rep.keep k _ _ r.2⟩) h
theorem MRep.has {m : M} {fp : List Addr} (h : MRep K H m fp) : ∀ b ∈ fp, ∃ o, H b = some o ∧ (∀ xs, o ≠ .tup xs) ∧ ∀ o' u, o ≠ .frz o' u := by
  intro b hb
  cases m with
  | lst ds =>
    obtain ⟨a, vs, rfl, e, _⟩ := h
    obtain rfl : b = a := by simpa using hb
    exact ⟨_, e, (fun _ z => nomatch z), (fun _ _ z => nomatch z)⟩
  | dK ds =>
    obtain ⟨a, vs, rfl, e, _⟩ := h
    obtain rfl : b = a := by simpa using hb
    exact ⟨_, e, (fun _ z => nomatch z), (fun _ _ z => nomatch z)⟩
  | dT ds =>
    obtain ⟨a, vs, rfl, e, _⟩ := h
    obtain rfl : b = a := by simpa using hb
    exact ⟨_, e, (fun _ z => nomatch z), (fun _ _ z => nomatch z)⟩
  | lsA a ds =>
    obtain ⟨vs, rfl, e, _⟩ := h
    obtain rfl : b = a := by simpa using hb
    exact ⟨_, e, (fun _ z => nomatch z), (fun _ _ z => nomatch z)⟩
  | drw n =>
    obtain ⟨p, c, l, cells, left, at_, rfl, h1, h2, h3, e1, e2, e3, h4⟩ := h
    have hb' : b = p ∨ b = c ∨ b = l := by simpa using hb
    rcases hb' with rfl | rfl | rfl
    · exact ⟨_, e1, (fun _ z => nomatch z), (fun _ _ z => nomatch z)⟩
    · exact ⟨_, e2, (fun _ z => nomatch z), (fun _ _ z => nomatch z)⟩
    · exact ⟨_, e3, (fun _ z => nomatch z), (fun _ _ z => nomatch z)⟩
theorem MRep.cons {m : M} {fp : List Addr} (h : MRep K H m fp) : ∃ a r, fp = a :: r := by
  cases m with
  | lst ds => obtain ⟨a, vs, rfl, e, _⟩ := h; exact ⟨_, _, rfl⟩
  | dK ds => obtain ⟨a, vs, rfl, e, _⟩ := h; exact ⟨_, _, rfl⟩
  | dT ds => obtain ⟨a, vs, rfl, e, _⟩ := h; exact ⟨_, _, rfl⟩
  | lsA a ds => obtain ⟨vs, rfl, e, _⟩ := h; exact ⟨_, _, rfl⟩
  | drw n => obtain ⟨p, c, l, cells, left, at_, rfl, _⟩ := h; exact ⟨_, _, rfl⟩
theorem MRep.stay {m : M} {fp : List Addr} (h : MRep K H m fp) (s : ∀ b ∈ fp, ∀ o, H b = some o → H' b = some o) (k : Keep H H') : MRep K H' m fp := by
  cases m with
  | lst ds =>
    obtain ⟨a, vs, rfl, e, r⟩ := h
    exact ⟨a, vs, rfl, s a (by simp) _ e, Reps.keep k _ _ r⟩
  | dK ds =>
    obtain ⟨a, vs, rfl, e, r⟩ := h
    exact ⟨a, vs, rfl, s a (by simp) _ e, KRep.keep k r⟩
  | dT ds =>
    obtain ⟨a, vs, rfl, e, r⟩ := h
    exact ⟨a, vs, rfl, s a (by simp) _ e, KRep.keep k r⟩
  | lsA a ds =>
    obtain ⟨vs, rfl, e, r⟩ := h
    exact ⟨vs, rfl, s a (by simp) _ e, Reps.keep k _ _ r⟩
  | drw n =>
    obtain ⟨p, c, l, cells, left, at_, rfl, h1, h2, h3, e1, e2, e3, h4⟩ := h
    exact ⟨p, c, l, cells, left, at_, rfl, h1, h2, h3, s p (by simp) _ e1, s c (by simp) _ e2, s l (by simp) _ e3, h4⟩
end

/-! ### the state -/
structure Ent where
  H0 : Hp
  B : List Addr
  Z : List (Option Addr)
def Disj (fps : List (List Addr)) : Prop := ∀ (i j : Nat) (fp fp' : List Addr), fps[i]? = some fp → fps[j]? = some fp' → i ≠ j → ∀ b, b ∈ fp → b ∉ fp'
def AVR (K : PySem.W.Frag) (H : Hp) (fps : List (List Addr)) : AV → V → Prop
  | .im d, v => Rep K H d v
  | .own k, v => ∃ a r, fps[k]? = some (a :: r) ∧ v = .ref a
def SlR (K : PySem.W.Frag) (H : Hp) (fps : List (List Addr)) : Option AV → Option V → Prop
  | none, _ => True
  | some a, some v => AVR K H fps a v
  | some _, none => False
structure Hold (K : PySem.W.Frag) (e : Ent) (δ : List (Option AV)) (τ : List AV) (μ : List M) (σ : L2.St) (τv : List V) (H : Hp) (fps : List (List Addr)) : Prop where
  mu : Paired (MRep K H) μ fps
  dj : Disj fps
  sl : Paired (SlR K H fps) δ σ
  tm : Paired (AVR K H fps) τ τv
  fr : ∀ b o, b ∉ e.B → e.H0 b = some o → H b = some o
  nw : ∀ fp ∈ fps, ∀ b ∈ fp, b ∈ e.B ∨ e.H0 b = none
  hd : (fps.take e.Z.length).map List.head? = e.Z
def Holds (K : PySem.W.Frag) (e : Ent) (δ : List (Option AV)) (τ : List AV) (μ : List M) (σ : L2.St) (τv : List V) (H : Hp) : Prop := ∃ fps, Hold K e δ τ μ σ τv H fps

section
variable {K : PySem.W.Frag} {e : Ent} {δ δ' : List (Option AV)} {τ τ' : List AV} {μ μ' : List M} {σ σ' : L2.St} {τv τv' : List V} {H H' : Hp} {fps fps' : List (List Addr)}
theorem Hold.heads (h : Hold K e δ τ μ σ τv H fps) {k : Nat} {fp : List Addr} (q : fps[k]? = some fp) : ∃ a r, fp = a :: r := by
  obtain ⟨m, _, r⟩ := pd_get' h.mu q
  exact r.cons
theorem Hold.keep_of (h : Hold K e δ τ μ σ τv H fps) (f : ∀ b o, (∀ fp ∈ fps, b ∉ fp) → H b = some o → H' b = some o) : Keep H H' := by
  have no : ∀ b, (∀ m fp, MRep K H m fp → b ∉ fp) → ∀ fp ∈ fps, b ∉ fp := fun b q fp hfp hb => by
    obtain ⟨i, hi⟩ := List.getElem?_of_mem hfp
    obtain ⟨m, _, r⟩ := pd_get' h.mu hi
    exact q m fp r hb
  refine ⟨fun a xs q => f a _ (no a fun m fp r hb => ?_) q, fun a o u q => f a _ (no a fun m fp r hb => ?_) q⟩
  · obtain ⟨o, e1, n1, _⟩ := r.has a hb
    rw [q] at e1; cases e1
    exact n1 _ rfl
  · obtain ⟨o, e1, _, n1⟩ := r.has a hb
    rw [q] at e1; cases e1
    exact n1 _ _ rfl
theorem AVR.go {a : AV} {v : V} (k : Keep H H') (hh : ∀ (k : Nat) (a : Addr) (r : List Addr), fps[k]? = some (a :: r) → ∃ r', fps'[k]? = some (a :: r')) (h : AVR K H fps a v) : AVR K H' fps' a v := by
  cases a with
  | im d => exact Rep.keep k d v h
  | own j =>
    obtain ⟨a, r, q, e⟩ := h
    obtain ⟨r', q'⟩ := hh _ _ _ q
    exact ⟨a, r', q', e⟩
theorem SlR.go {a : Option AV} {v : Option V} (k : Keep H H') (hh : ∀ (k : Nat) (a : Addr) (r : List Addr), fps[k]? = some (a :: r) → ∃ r', fps'[k]? = some (a :: r')) (h : SlR K H fps a v) : SlR K H' fps' a v := by
  cases a with
  | none => exact True.intro
  | some a =>
    cases v with
    | none => exact h
    | some v => exact AVR.go (a := a) k hh h
theorem Hold.step (h : Hold K e δ τ μ σ τv H fps) (f : ∀ b o, (∀ fp ∈ fps, b ∉ fp) → H b = some o → H' b = some o) (mu' : Paired (MRep K H') μ' fps') (dj' : Disj fps')
    (hh : ∀ (k : Nat) (a : Addr) (r : List Addr), fps[k]? = some (a :: r) → ∃ r', fps'[k]? = some (a :: r')) (nw' : ∀ fp ∈ fps', ∀ b ∈ fp, (∃ fp0 ∈ fps, b ∈ fp0) ∨ H b = none) : Hold K e δ τ μ' σ τv H' fps' := by
  have k := h.keep_of f
  refine ⟨mu', dj', pd_mono (fun a v r => SlR.go k hh r) h.sl, pd_mono (fun a v r => AVR.go k hh r) h.tm, fun b o hb q => ?_, fun fp hfp b hb => ?_, ?_⟩
  · refine f b o (fun fp hfp hm => ?_) (h.fr b o hb q)
    rcases h.nw fp hfp b hm with z | z
    · exact hb z
    · rw [q] at z; cases z
  · rcases nw' fp hfp b hb with ⟨fp0, h0, hb0⟩ | z
    · exact h.nw fp0 h0 b hb0
    · by_cases hB : b ∈ e.B
      · exact .inl hB
      · refine .inr ?_
        cases q : e.H0 b with
        | none => rfl
        | some o =>
          have := h.fr b o hB q
          rw [z] at this; cases this
  · have hl : e.Z.length ≤ fps.length := by
      have := congrArg List.length h.hd
      rw [List.length_map, List.length_take] at this
      omega
    rw [← h.hd]
    apply List.ext_getElem?
    intro i
    rw [List.getElem?_map, List.getElem?_map, List.getElem?_take, List.getElem?_take]
    have hZ : ((fps.take e.Z.length).map List.head?).length = e.Z.length := by rw [h.hd]
    by_cases hi : i < ((fps.take e.Z.length).map List.head?).length
    · have hi2 : i < e.Z.length := by omega
      rw [if_pos hi, if_pos hi2]
      have hi3 : i < fps.length := by omega
      obtain ⟨a, r, q⟩ := h.heads (List.getElem?_eq_getElem hi3)
      have q1 : fps[i]? = some (a :: r) := by rw [List.getElem?_eq_getElem hi3, q]
      obtain ⟨r', q2⟩ := hh _ _ _ q1
      rw [q1, q2]; rfl
    · have hi2 : ¬ i < e.Z.length := by omega
      rw [if_neg hi, if_neg hi2]
/-- an extension by things that nobody owns -/
theorem Hold.ext (h : Hold K e δ τ μ σ τv H fps) (s : Same H H') : Hold K e δ τ μ σ τv H' fps :=
  h.step (fun b o _ q => s b o q) (pd_mono (fun m fp r => r.stay (fun b _ o q => s b o q) (Keep.of_same s)) h.mu) h.dj (fun k a r q => ⟨r, q⟩) fun fp hfp b hb => .inl ⟨fp, hfp, hb⟩
theorem Holds.ext (h : Holds K e δ τ μ σ τv H) (s : Same H H') : Holds K e δ τ μ σ τv H' := let ⟨fps, q⟩ := h; ⟨fps, q.ext s⟩
theorem same_new {p : Addr} {o : HO} (h : H p = none) : Same H (upd H p o) := fun b u q => by rw [upd_ne (ne_of_none q h)]; exact q
/-- push a datum -/
theorem Holds.push {d : D} {v : V} (h : Holds K e δ τ μ σ τv H) (r : Rep K H d v) : Holds K e δ (.im d :: τ) μ σ (v :: τv) H :=
  let ⟨fps, q⟩ := h; ⟨fps, q.mu, q.dj, q.sl, .cons r q.tm, q.fr, q.nw, q.hd⟩
theorem Holds.pushA {a : AV} {v : V} (h : Hold K e δ τ μ σ τv H fps) (r : AVR K H fps a v) : Holds K e δ (a :: τ) μ σ (v :: τv) H :=
  ⟨fps, h.mu, h.dj, h.sl, .cons r h.tm, h.fr, h.nw, h.hd⟩
theorem Holds.pop {a : AV} {v : V} (h : Holds K e δ (a :: τ) μ σ (v :: τv) H) : Holds K e δ τ μ σ τv H := by
  obtain ⟨fps, q⟩ := h
  cases q.tm with
  | cons r t => exact ⟨fps, q.mu, q.dj, q.sl, t, q.fr, q.nw, q.hd⟩
theorem Holds.top {d : D} {v : V} (h : Holds K e δ (.im d :: τ) μ σ (v :: τv) H) : Rep K H d v := by
  obtain ⟨fps, q⟩ := h
  cases q.tm with
  | cons r t => exact r
theorem Holds.top2 {a : AV} {d : D} {v w : V} (h : Holds K e δ (a :: .im d :: τ) μ σ (w :: v :: τv) H) : Rep K H d v := h.pop.top
/-- the temps: any list of them -/
theorem Holds.popn {as : List AV} {vs : List V} (hl : as.length = vs.length) (h : Holds K e δ (as ++ τ) μ σ (vs ++ τv) H) : Holds K e δ τ μ σ τv H := by
  obtain ⟨fps, q⟩ := h
  exact ⟨fps, q.mu, q.dj, q.sl, (pd_split hl q.tm).2, q.fr, q.nw, q.hd⟩
/-- a slot stored from the top temp -/
theorem Holds.store {a : AV} {v : V} (i : Nat) (h : Holds K e δ (a :: τ) μ σ (v :: τv) H) : Holds K e (δ.set i (some a)) τ μ (σ.set i (some v)) τv H := by
  obtain ⟨fps, q⟩ := h
  cases q.tm with
  | cons r t => exact ⟨fps, q.mu, q.dj, pd_set (F := SlR K H fps) (x := some a) (y := some v) r i q.sl, t, q.fr, q.nw, q.hd⟩
theorem Holds.slot {i : Nat} {a : AV} (h : Holds K e δ τ μ σ τv H) (hi : δ[i]? = some (some a)) : ∃ v, σ[i]? = some (some v) ∧ Holds K e δ (a :: τ) μ σ (v :: τv) H := by
  obtain ⟨fps, q⟩ := h
  obtain ⟨ov, h1, h2⟩ := pd_get q.sl hi
  cases ov with
  | none => exact h2.elim
  | some v => exact ⟨v, h1, Holds.pushA q h2⟩
/-- a new owned object, at one address -/
theorem Holds.new {m : M} {p : Addr} {o : HO} (h : Holds K e δ τ μ σ τv H) (hp : H p = none) (r : Same H (upd H p o) → MRep K (upd H p o) m [p]) : Holds K e δ (.own μ.length :: τ) (μ ++ [m]) σ (.ref p :: τv) (upd H p o) := by
  obtain ⟨fps, q⟩ := h
  have s : Same H (upd H p o) := same_new hp
  have q1 := q.ext s
  have hlen : μ.length = fps.length := q.mu.length
  have nop : ∀ fp ∈ fps, p ∉ fp := fun fp hfp hb => by
    obtain ⟨i, hi⟩ := List.getElem?_of_mem hfp
    obtain ⟨m', _, r'⟩ := pd_get' q.mu hi
    obtain ⟨o', e1, _⟩ := r'.has p hb
    rw [hp] at e1; cases e1
  have st : Hold K e δ τ (μ ++ [m]) σ τv (upd H p o) (fps ++ [[p]]) := by
    refine q.step (fun b u _ hq => s b u hq) (pd_append q1.mu (.cons (r s) .nil)) ?_ (fun k a r' hk => ⟨r', ?_⟩) ?_
    · intro i j fp fp' h1 h2 hne b hb hb'
      by_cases hi : i < fps.length
      · rw [List.getElem?_append_left hi] at h1
        by_cases hj : j < fps.length
        · rw [List.getElem?_append_left hj] at h2
          exact q.dj i j fp fp' h1 h2 hne b hb hb'
        · rw [List.getElem?_append_right (by omega)] at h2
          have hj0 : j - fps.length = 0 := by
            by_cases z : j - fps.length = 0
            · exact z
            · rw [List.getElem?_eq_none (by simp; omega)] at h2; cases h2
          rw [hj0] at h2
          have e2 : [p] = fp' := Option.some.inj h2
          subst e2
          obtain rfl : b = p := by simpa using hb'
          exact nop fp (List.mem_of_getElem? h1) hb
      · rw [List.getElem?_append_right (by omega)] at h1
        have hi0 : i - fps.length = 0 := by
          by_cases z : i - fps.length = 0
          · exact z
          · rw [List.getElem?_eq_none (by simp; omega)] at h1; cases h1
        rw [hi0] at h1
        have e1 : [p] = fp := Option.some.inj h1
        subst e1
        obtain rfl : b = p := by simpa using hb
        by_cases hj : j < fps.length
        · rw [List.getElem?_append_left hj] at h2
          exact nop fp' (List.mem_of_getElem? h2) hb'
        · rw [List.getElem?_append_right (by omega)] at h2
          have hj0 : j - fps.length = 0 := by
            by_cases z : j - fps.length = 0
            · exact z
            · rw [List.getElem?_eq_none (by simp; omega)] at h2; cases h2
          omega
    · have hlt : k < fps.length := (List.getElem?_eq_some_iff.mp hk).1
      rw [List.getElem?_append_left hlt]; exact hk
    · intro fp hfp b hb
      rcases List.mem_append.mp hfp with z | z
      · exact .inl ⟨fp, z, hb⟩
      · have e1 : fp = [p] := by simpa using z
        subst e1
        obtain rfl : b = p := by simpa using hb
        exact .inr hp
  refine Holds.pushA st ⟨p, [], ?_, rfl⟩
  rw [hlen, List.getElem?_append_right (Nat.le_refl _), Nat.sub_self]; rfl
/-- the k-th object changed at its own address -/
theorem Hold.chg {k : Nat} {m' : M} {a : Addr} {o : HO} (h : Hold K e δ τ μ σ τv H fps) (hk : fps[k]? = some [a]) (r : Keep H (upd H a o) → MRep K (upd H a o) m' [a]) : Hold K e δ τ (μ.set k m') σ τv (upd H a o) fps := by
  have f : ∀ b u, (∀ fp ∈ fps, b ∉ fp) → H b = some u → upd H a o b = some u := fun b u hb q => by
    rw [upd_ne (fun z => hb _ (List.mem_of_getElem? hk) (by simp [z]))]; exact q
  have kp := h.keep_of f
  have hlen : μ.length = fps.length := h.mu.length
  refine h.step f (pd_of (by rw [List.length_set]; exact hlen) fun i x y hx hy => ?_) h.dj (fun k a r q => ⟨r, q⟩) fun fp hfp b hb => .inl ⟨fp, hfp, hb⟩
  by_cases hi : k = i
  · subst hi
    have hlt : k < μ.length := by rw [hlen]; exact (List.getElem?_eq_some_iff.mp hk).1
    rw [List.getElem?_set_self hlt] at hx
    cases hx
    rw [hk] at hy; cases hy
    exact r kp
  · rw [List.getElem?_set_ne hi] at hx
    refine (pd_at h.mu hx hy).stay (fun b hb u q => ?_) kp
    rw [upd_ne]
    · exact q
    · rintro rfl
      exact h.dj i k y [b] hy hk (fun z => hi z.symm) b hb (by simp)
/-- forgetting: slots, and the last objects, if nothing known speaks of them -/
def FgO (n : Nat) : Option AV → Option AV → Prop
  | _, none => True
  | some (.im d), some (.im d') => d = d'
  | some (.own k), some (.own j) => k = j ∧ k < n
  | _, _ => False
theorem Hold.cut {n : Nat} (h : Hold K e δ τ μ σ τv H fps) (hn : e.Z.length ≤ n) (fg : Paired (FgO n) δ δ') (ht : ∀ a ∈ τ, ∀ k, a = .own k → k < n) : Hold K e δ' τ (μ.take n) σ τv H (fps.take n) := by
  have av : ∀ a v, (∀ k, a = .own k → k < n) → AVR K H fps a v → AVR K H (fps.take n) a v := fun a v hk r => by
    cases a with
    | im d => exact r
    | own k =>
      obtain ⟨a, r, q, e⟩ := r
      exact ⟨a, r, by rw [List.getElem?_take_of_lt (hk k rfl)]; exact q, e⟩
  refine ⟨pd_take n h.mu, fun i j fp fp' h1 h2 => ?_, ?_, ?_, h.fr, fun fp hfp => h.nw fp (List.mem_of_mem_take hfp), ?_⟩
  · have lt : ∀ (i : Nat) (fp : List Addr), (fps.take n)[i]? = some fp → fps[i]? = some fp := fun i fp q => by
      rw [List.getElem?_take] at q
      split at q
      · exact q
      · cases q
    exact h.dj i j fp fp' (lt i fp h1) (lt j fp' h2)
  · have gen : ∀ {δ δ' : List (Option AV)} {σ : L2.St}, Paired (SlR K H fps) δ σ → Paired (FgO n) δ δ' → Paired (SlR K H (fps.take n)) δ' σ := by
      intro δ
      induction δ with
      | nil => intro δ' σ s f; cases s; cases f; exact .nil
      | cons a l ih =>
        intro δ' σ s f
        cases s with
        | cons r t =>
          cases f with
          | cons r' t' =>
            refine .cons ?_ (ih t t')
            rename_i ov _ b _
            cases b with
            | none => exact True.intro
            | some b =>
              cases a with
              | none => cases b <;> exact r'.elim
              | some a =>
                cases ov with
                | none => exact (r : False).elim
                | some v =>
                  cases a with
                  | im d =>
                    cases b with
                    | im d' => have e1 : d = d' := r'; subst e1; exact r
                    | own j => exact (r' : False).elim
                  | own k =>
                    cases b with
                    | im d' => exact (r' : False).elim
                    | own j =>
                      obtain ⟨e1, hk⟩ : k = j ∧ k < n := r'
                      subst e1
                      exact av (.own k) v (fun k' z => by cases z; exact hk) r
    exact gen h.sl fg
  · have gen : ∀ {τ : List AV} {τv : List V}, (∀ a ∈ τ, ∀ k, a = .own k → k < n) → Paired (AVR K H fps) τ τv → Paired (AVR K H (fps.take n)) τ τv := by
      intro τ
      induction τ with
      | nil => intro τv _ s; cases s; exact .nil
      | cons a l ih =>
        intro τv hk s
        cases s with
        | cons r t => exact .cons (av a _ (hk a (by simp)) r) (ih (fun a ha => hk a (by simp [ha])) t)
    exact gen ht h.tm
  · rw [List.take_take, Nat.min_eq_left hn]; exact h.hd
theorem Hold.tlt (h : Hold K e δ τ μ σ τv H fps) : ∀ a ∈ τ, ∀ k, a = .own k → k < μ.length := by
  intro a ha k e1
  subst e1
  obtain ⟨i, hi⟩ := List.getElem?_of_mem ha
  obtain ⟨v, _, a, r, q, _⟩ := pd_get h.tm hi
  rw [show μ.length = fps.length from h.mu.length]
  exact (List.getElem?_eq_some_iff.mp q).1
theorem Hold.zlt (h : Hold K e δ τ μ σ τv H fps) : e.Z.length ≤ μ.length := by
  have := congrArg List.length h.hd
  rw [List.length_map, List.length_take] at this
  rw [show μ.length = fps.length from h.mu.length]
  omega
end
end AL
namespace AL
open PySem PySem.Spec PyProof.Rows L2

/-! ### objects handed to a def and back -/
def upds {α : Type} (l : List α) (js : List Nat) (xs : List α) : List α := match js with
  | [] => l ++ xs
  | j :: js => match xs with
    | [] => l
    | x :: xs => upds (l.set j x) js xs
termination_by structural js
section
variable {α β : Type} {F : α → β → Prop}
theorem upds_paired : ∀ (js : List Nat) (l : List α) (l' : List β) (xs : List α) (xs' : List β), l.length = l'.length → (∀ (i : Nat) (x : α) (y : β), i ∉ js → l[i]? = some x → l'[i]? = some y → F x y) → Paired F xs xs' →
    js.length ≤ xs.length → Paired F (upds l js xs) (upds l' js xs')
  | [], l, l', xs, xs', hl, f, p, _ => pd_append (pd_of hl fun i x y hx hy => f i x y (by simp) hx hy) p
  | j :: js, l, l', [], _, hl, f, p, hz => by simp at hz
  | j :: js, l, l', x :: xs, xs', hl, f, p, hz => by
    cases p with
    | cons r t =>
      rename_i x' t'
      show Paired F (upds (l.set j x) js xs) (upds (l'.set j x') js t')
      refine upds_paired js _ _ _ _ (by simpa using hl) (fun i a b hi ha hb => ?_) t (by simpa using hz)
      by_cases e : j = i
      · subst e
        have h1 : j < l.length := by
          have := (List.getElem?_eq_some_iff.mp ha).1
          simpa using this
        rw [List.getElem?_set_self h1] at ha
        rw [List.getElem?_set_self (by rw [← hl]; exact h1)] at hb
        cases ha; cases hb; exact r
      · rw [List.getElem?_set_ne e] at ha
        rw [List.getElem?_set_ne e] at hb
        exact f i a b (by simp only [List.mem_cons, not_or]; exact ⟨fun z => e z.symm, hi⟩) ha hb
theorem upds_length : ∀ (js : List Nat) (l xs : List α), js.length ≤ xs.length → (upds l js xs).length = l.length + (xs.length - js.length)
  | [], l, xs, _ => by show (l ++ xs).length = _; rw [List.length_append]; simp
  | j :: js, l, [], h => by simp at h
  | j :: js, l, x :: xs, h => by
    show (upds (l.set j x) js xs).length = _
    rw [upds_length js _ _ (by simpa using h), List.length_set, List.length_cons, List.length_cons]
    omega
theorem upds_new : ∀ (js : List Nat) (l xs : List α) (i : Nat), js.length ≤ i → i < xs.length → (upds l js xs)[l.length + (i - js.length)]? = xs[i]?
  | [], l, xs, i, _, _ => by
    show (l ++ xs)[l.length + (i - 0)]? = _
    rw [List.getElem?_append_right (by omega)]
    congr 1
    omega
  | j :: js, l, [], i, h, h2 => by simp at h2
  | j :: js, l, x :: xs, 0, h, _ => by simp at h
  | j :: js, l, x :: xs, i + 1, h, h2 => by
    show (upds (l.set j x) js xs)[_]? = _
    have := upds_new js (l.set j x) xs i (by simpa using h) (by simpa using h2)
    rw [List.length_set] at this
    rw [List.getElem?_cons_succ, ← this]
    congr 1
    simp only [List.length_cons]
    omega
theorem upds_ne : ∀ (js : List Nat) (l xs : List α) (i : Nat), i ∉ js → i < l.length → (upds l js xs)[i]? = l[i]?
  | [], l, xs, i, _, h => by show (l ++ xs)[i]? = _; rw [List.getElem?_append_left h]
  | j :: js, l, [], i, _, _ => rfl
  | j :: js, l, x :: xs, i, h, h2 => by
    show (upds (l.set j x) js xs)[i]? = _
    simp only [List.mem_cons, not_or] at h
    rw [upds_ne js _ _ i h.2 (by simpa using h2), List.getElem?_set_ne (fun z => h.1 z.symm)]
theorem upds_at : ∀ (js : List Nat) (l xs : List α) (t j : Nat), js.Nodup → js[t]? = some j → j < l.length → t < xs.length → (upds l js xs)[j]? = xs[t]?
  | [], _, _, t, j, _, h, _, _ => by simp at h
  | i :: js, l, [], t, j, _, _, _, h => by simp at h
  | i :: js, l, x :: xs, 0, j, nd, h, hl, _ => by
    obtain rfl : i = j := by simpa using h
    show (upds (l.set i x) js xs)[i]? = _
    rw [upds_ne js _ _ i (List.nodup_cons.mp nd).1 (by simpa using hl), List.getElem?_set_self hl]; rfl
  | i :: js, l, x :: xs, t + 1, j, nd, h, hl, h2 => by
    show (upds (l.set i x) js xs)[j]? = _
    rw [List.getElem?_cons_succ]
    exact upds_at js _ xs t j (List.nodup_cons.mp nd).2 (by simpa using h) (by simpa using hl) (by simpa using h2)
theorem upds_mem : ∀ (js : List Nat) (l xs : List α) (y : α), y ∈ upds l js xs → y ∈ l ∨ y ∈ xs
  | [], l, xs, y, h => List.mem_append.mp h
  | j :: js, l, [], y, h => .inl h
  | j :: js, l, x :: xs, y, h => by
    rcases upds_mem js _ xs y h with z | z
    · rcases List.mem_or_eq_of_mem_set z with w | w
      · exact .inl w
      · exact .inr (by simp [w])
    · exact .inr (by simp [z])
end
theorem upds_disj : ∀ (js : List Nat) (l xs : List (List Addr)), js.length ≤ xs.length →
    (∀ (i k : Nat) (x y : List Addr), i ∉ js → k ∉ js → i ≠ k → l[i]? = some x → l[k]? = some y → ∀ b ∈ x, b ∉ y) →
    (∀ (i : Nat) (x : List Addr), i ∉ js → l[i]? = some x → ∀ y ∈ xs, ∀ b ∈ x, b ∉ y) → Disj xs → Disj (upds l js xs)
  | [], l, xs, _, h1, h2, h3 => by
    intro i j fp fp' e1 e2 hne b hb hb'
    have e1 : (l ++ xs)[i]? = some fp := e1
    have e2 : (l ++ xs)[j]? = some fp' := e2
    by_cases hi : i < l.length
    · rw [List.getElem?_append_left hi] at e1
      by_cases hj : j < l.length
      · rw [List.getElem?_append_left hj] at e2
        exact h1 i j fp fp' (by simp) (by simp) hne e1 e2 b hb hb'
      · rw [List.getElem?_append_right (by omega)] at e2
        exact h2 i fp (by simp) e1 fp' (List.mem_of_getElem? e2) b hb hb'
    · rw [List.getElem?_append_right (by omega)] at e1
      by_cases hj : j < l.length
      · rw [List.getElem?_append_left hj] at e2
        exact h2 j fp' (by simp) e2 fp (List.mem_of_getElem? e1) b hb' hb
      · rw [List.getElem?_append_right (by omega)] at e2
        exact h3 _ _ fp fp' e1 e2 (by omega) b hb hb'
  | j :: js, l, [], h, _, _, _ => by simp at h
  | j :: js, l, x :: xs, h, h1, h2, h3 => by
    show Disj (upds (l.set j x) js xs)
    have hx : ∀ y ∈ xs, ∀ b ∈ x, b ∉ y := fun y hy b hb hb' => by
      obtain ⟨t, ht⟩ := List.getElem?_of_mem hy
      exact h3 0 (t + 1) x y rfl (by simpa using ht) (by omega) b hb hb'
    have get : ∀ (i : Nat) (y : List Addr), i ∉ js → (l.set j x)[i]? = some y → (i = j ∧ y = x) ∨ (i ∉ j :: js ∧ l[i]? = some y) := fun i y hi e => by
      by_cases z : j = i
      · subst z
        have hlt : j < l.length := by have := (List.getElem?_eq_some_iff.mp e).1; simpa using this
        rw [List.getElem?_set_self hlt] at e
        exact .inl ⟨rfl, (Option.some.inj e).symm⟩
      · rw [List.getElem?_set_ne z] at e
        exact .inr ⟨by simp only [List.mem_cons, not_or]; exact ⟨fun w => z w.symm, hi⟩, e⟩
    refine upds_disj js _ xs (by simpa using h) (fun i k a c hi hk hne ha hc b hb hb' => ?_) (fun i a hi ha y hy b hb hb' => ?_) (fun i k a c ha hc hne => h3 (i + 1) (k + 1) a c (by simpa using ha) (by simpa using hc) (by omega))
    · rcases get i a hi ha with ⟨rfl, rfl⟩ | ⟨hi', ha'⟩
      · rcases get k c hk hc with ⟨rfl, rfl⟩ | ⟨hk', hc'⟩
        · exact hne rfl
        · exact h2 k c hk' hc' a (by simp) b hb' hb
      · rcases get k c hk hc with ⟨rfl, rfl⟩ | ⟨hk', hc'⟩
        · exact h2 i a hi' ha' c (by simp) b hb hb'
        · exact h1 i k a c hi' hk' hne ha' hc' b hb hb'
    · rcases get i a hi ha with ⟨rfl, rfl⟩ | ⟨hi', ha'⟩
      · exact hx y hy b hb hb'
      · exact h2 i a hi' ha' y (by simp [hy]) b hb hb'
theorem upds_heads : ∀ (js : List Nat) (l xs : List (List Addr)), (∀ (t j : Nat) (x : List Addr), js[t]? = some j → xs[t]? = some x → ∃ y, l[j]? = some y ∧ x.head? = y.head?) →
    ∀ (k : Nat) (a : Addr) (r : List Addr), l[k]? = some (a :: r) → ∃ r', (upds l js xs)[k]? = some (a :: r')
  | [], l, xs, _, k, a, r, h => ⟨r, by show (l ++ xs)[k]? = _; rw [List.getElem?_append_left (List.getElem?_eq_some_iff.mp h).1]; exact h⟩
  | j :: js, l, [], _, k, a, r, h => ⟨r, h⟩
  | j :: js, l, x :: xs, hh, k, a, r, h => by
    show ∃ r', (upds (l.set j x) js xs)[k]? = some (a :: r')
    have same : ∀ (i : Nat) (y : List Addr), l[i]? = some y → ∃ y', (l.set j x)[i]? = some y' ∧ y'.head? = y.head? := fun i y e => by
      by_cases z : j = i
      · subst z
        obtain ⟨y0, e0, e1⟩ := hh 0 j x rfl rfl
        rw [e] at e0; cases e0
        exact ⟨x, by rw [List.getElem?_set_self (List.getElem?_eq_some_iff.mp e).1], e1⟩
      · exact ⟨y, by rw [List.getElem?_set_ne z]; exact e, rfl⟩
    obtain ⟨y', e1, e2⟩ := same k _ h
    cases y' with
    | nil => cases e2
    | cons a' r' =>
      have e3 : some a' = some a := e2
      cases e3
      refine upds_heads js (l.set j x) xs (fun t i w ht hw => ?_) k a r' e1
      obtain ⟨y, e3, e4⟩ := hh (t + 1) i w (by simpa using ht) (by simpa using hw)
      obtain ⟨y2, e5, e6⟩ := same i y e3
      exact ⟨y2, e5, e4.trans e6.symm⟩

/-- what a def's end gives back -/
def Back (K : PySem.W.Frag) (H : Hp) (sel : List (List Addr)) (a : AV) (μ' : List M) (v : V) (H' : Hp) : Prop := ∃ fps' : List (List Addr),
  Paired (MRep K H') μ' fps' ∧ Disj fps' ∧ AVR K H' fps' a v ∧ (∀ b o, (∀ fp ∈ sel, b ∉ fp) → H b = some o → H' b = some o) ∧
  (∀ fp ∈ fps', ∀ b ∈ fp, (∃ s ∈ sel, b ∈ s) ∨ H b = none) ∧ (fps'.take sel.length).map List.head? = sel.map List.head?
/-- a contract: the arguments, the objects that they speak of, what is wanted of the value and the objects behind (those handed in first, new ones behind) -/
abbrev Ct := List AV → List M → (AV → List M → Prop) → Prop
def spOf (K : PySem.W.Frag) (F : Ct) (ar : Nat) : Sp := fun vs H Q _ => vs.length = ar ∧ ∃ (as : List AV) (μ : List M) (sel : List (List Addr)) (post : AV → List M → Prop),
  F as μ post ∧ Paired (MRep K H) μ sel ∧ Disj sel ∧ Paired (AVR K H sel) as vs ∧ ∀ a μ' v H', post a μ' → Back K H sel a μ' v H' → Q v H'
/-- the callee's value, told in the caller's places -/
def trA (js : List Nat) (n : Nat) : AV → AV
  | .im d => .im d
  | .own i => match js[i]? with
    | some j => .own j
    | none => .own (n + (i - js.length))
section
variable {K : PySem.W.Frag} {e : Ent} {δ δ' : List (Option AV)} {τ τ' : List AV} {μ μ' μ0 : List M} {σ σ' : L2.St} {τv τv' : List V} {H H' : Hp} {fps fps' sel : List (List Addr)} {js : List Nat} {a : AV} {v : V}
theorem Hold.back (h : Hold K e δ τ μ σ τv H fps) (nd : js.Nodup) (hs : Paired (fun j x => fps[j]? = some x) js sel) (b : Back K H sel a μ' v H') :
    Holds K e δ (trA js μ.length a :: τ) (upds μ js μ') σ (v :: τv) H' := by
  obtain ⟨fps', mu', dj', av, fr, nw, hd⟩ := b
  have hlen : μ.length = fps.length := h.mu.length
  have hl2 : μ'.length = fps'.length := mu'.length
  have hjs : js.length = sel.length := hs.length
  have hz : js.length ≤ fps'.length := by
    have := congrArg List.length hd
    rw [List.length_map, List.length_take, List.length_map] at this
    omega
  have selmem : ∀ s ∈ sel, ∃ j ∈ js, fps[j]? = some s := fun s hs' => by
    obtain ⟨t, ht⟩ := List.getElem?_of_mem hs'
    obtain ⟨j, hj, e1⟩ := pd_get' hs ht
    exact ⟨j, List.mem_of_getElem? hj, e1⟩
  have f : ∀ b o, (∀ fp ∈ fps, b ∉ fp) → H b = some o → H' b = some o := fun b o hb q => fr b o (fun fp hfp => by
    obtain ⟨j, _, e1⟩ := selmem fp hfp
    exact hb fp (List.mem_of_getElem? e1)) q
  have kp := h.keep_of f
  have out : ∀ (i : Nat) (fp : List Addr), i ∉ js → fps[i]? = some fp → ∀ b ∈ fp, ∀ s ∈ sel, b ∉ s := fun i fp hi e1 b hb s hs' hb' => by
    obtain ⟨j, hj, e2⟩ := selmem s hs'
    exact h.dj i j fp s e1 e2 (fun z => hi (z ▸ hj)) b hb hb'
  have st : Hold K e δ τ (upds μ js μ') σ τv H' (upds fps js fps') := by
    refine h.step f (upds_paired js μ fps μ' fps' hlen (fun i m fp hi hm hfp => ?_) mu' (by omega)) (upds_disj js fps fps' hz (fun i k x y _ _ hne hx hy => h.dj i k x y hx hy hne) (fun i x hi hx y hy b hb hb' => ?_) dj')
      (upds_heads js fps fps' fun t j x ht hx => ?_) (fun fp hfp b hb => ?_)
    · exact (pd_at h.mu hm hfp).stay (fun b hb o q => fr b o (fun s hs' => out i fp hi hfp b hb s hs') q) kp
    · rcases nw y hy b hb' with ⟨s, hs', hbs⟩ | z
      · exact out i x hi hx b hb s hs' hbs
      · obtain ⟨m, _, r⟩ := pd_get' h.mu hx
        obtain ⟨o, e1, _⟩ := r.has b hb
        rw [z] at e1; cases e1
    · obtain ⟨s, hs1, hs2⟩ := pd_get hs ht
      refine ⟨s, hs2, ?_⟩
      have htl : t < sel.length := (List.getElem?_eq_some_iff.mp hs1).1
      have e1 : ((fps'.take sel.length).map List.head?)[t]? = (sel.map List.head?)[t]? := by rw [hd]
      rw [List.getElem?_map, List.getElem?_map, List.getElem?_take_of_lt htl, hx, hs1] at e1
      exact Option.some.inj e1
    · rcases upds_mem js fps fps' fp hfp with z | z
      · exact .inl ⟨fp, z, hb⟩
      · rcases nw fp z b hb with ⟨s, hs', hbs⟩ | w
        · obtain ⟨j, _, e1⟩ := selmem s hs'
          exact .inl ⟨s, List.mem_of_getElem? e1, hbs⟩
        · exact .inr w
  refine Holds.pushA st ?_
  cases a with
  | im d => exact av
  | own i =>
    obtain ⟨x, r, q, e1⟩ := av
    have hi : i < fps'.length := (List.getElem?_eq_some_iff.mp q).1
    show AVR K H' (upds fps js fps') (match js[i]? with | some j => .own j | none => .own (μ.length + (i - js.length))) v
    cases hj : js[i]? with
    | some j =>
      obtain ⟨s, _, hs2⟩ := pd_get hs hj
      exact ⟨x, r, by rw [upds_at js fps fps' i j nd hj (List.getElem?_eq_some_iff.mp hs2).1 hi]; exact q, e1⟩
    | none =>
      have : js.length ≤ i := List.getElem?_eq_none_iff.mp hj
      exact ⟨x, r, by rw [hlen, upds_new js fps fps' i this hi]; exact q, e1⟩
/-- the objects at js, for a callee -/
theorem Hold.selO (h : Hold K e δ τ μ σ τv H fps) : ∀ {js : List Nat} {μ0 : List M}, Paired (fun j m => μ[j]? = some m) js μ0 → ∃ sel, Paired (fun (j : Nat) (x : List Addr) => fps[j]? = some x) js sel ∧ Paired (MRep K H) μ0 sel
  | [], _, .nil => ⟨[], .nil, .nil⟩
  | j :: js, _, .cons r t => by
    obtain ⟨sel, h1, h2⟩ := Hold.selO h t
    obtain ⟨fp, e1, e2⟩ := pd_get h.mu r
    exact ⟨fp :: sel, .cons e1 h1, .cons e2 h2⟩
theorem sel_disj (h : Disj fps) (nd : js.Nodup) (hs : Paired (fun j x => fps[j]? = some x) js sel) : Disj sel := by
  intro i k fp fp' e1 e2 hne b hb hb'
  obtain ⟨j1, q1, r1⟩ := pd_get' hs e1
  obtain ⟨j2, q2, r2⟩ := pd_get' hs e2
  refine h j1 j2 fp fp' r1 r2 (fun z => ?_) b hb hb'
  subst z
  exact hne ((List.getElem_inj nd).mp ((List.getElem?_eq_some_iff.mp q1).2.trans (List.getElem?_eq_some_iff.mp q2).2.symm))
/-- an argument as the callee sees it -/
def AsC (js : List Nat) : AV → AV → Prop
  | .im d, .im d' => d = d'
  | .own i, .own j => js[i]? = some j
  | _, _ => False
theorem args_of (hs : Paired (fun (j : Nat) (x : List Addr) => fps[j]? = some x) js sel) : ∀ {as0 as : List AV} {vs : List V}, Paired (AsC js) as0 as → Paired (AVR K H fps) as vs → Paired (AVR K H sel) as0 vs
  | _, _, _, .nil, .nil => .nil
  | _, _, _, .cons (a := a0) (b := a) r t, .cons (b := v) r' t' => by
    refine .cons ?_ (args_of hs t t')
    cases a0 with
    | im d =>
      cases a with
      | im d' => have e1 : d = d' := r; subst e1; exact r'
      | own j => exact (r : False).elim
    | own i =>
      cases a with
      | im d' => exact (r : False).elim
      | own j =>
        have e1 : js[i]? = some j := r
        obtain ⟨x, rr, q, ev⟩ := (r' : ∃ x rr, fps[j]? = some (x :: rr) ∧ v = .ref x)
        obtain ⟨s, hs1, hs2⟩ := pd_get hs e1
        rw [q] at hs2; cases hs2
        exact ⟨x, rr, hs1, ev⟩
end
end AL
namespace AL
open PySem PySem.Spec PyProof.Rows L2

/-! ### what is read, whatever its term: the weakest reading -/
section
variable {ι : Type} (Xs : ι → Cx)
def wE (e : Expr) : TE := fun σ H Q => ∃ t, (∀ i, PE (Xs i) e t) ∧ t σ H Q
def wT (e : Expr) : TT := fun σ H Q => ∃ t, (∀ i, PT (Xs i) e t) ∧ t σ H Q
def wA (es : List Expr) : TA := fun σ H Q => ∃ t, (∀ i, PA (Xs i) es t) ∧ t σ H Q
def wTs (es : List Expr) : TT := fun σ H Q => ∃ t, (∀ i, PTs (Xs i) es t) ∧ t σ H Q
def wS (s : Stmt) : TS := fun D σ H => ∃ t, (∀ i, PS (Xs i) s t) ∧ t D σ H
def wSs (s : List Stmt) : TS := fun D σ H => ∃ t, (∀ i, PSs (Xs i) s t) ∧ t D σ H
def wI (tg e : Expr) : TI := fun σ H R => ∃ t, (∀ i, PI (Xs i) tg e t) ∧ t σ H R
def wG (tg : Expr) : TG := fun v σ H Q => ∃ t, (∀ i, PG (Xs i) tg t) ∧ t v σ H Q
variable {Xs}
theorem wE_ok {e : Expr} (i : ι) : PE (Xs i) e (wE Xs e) := ⟨fun pins s σ H Q I ⟨t, h, q⟩ => (h i).run pins s σ H Q I q⟩
theorem wT_ok {e : Expr} (i : ι) : PT (Xs i) e (wT Xs e) := ⟨fun pins s σ H Q I ⟨t, h, q⟩ => (h i).run pins s σ H Q I q⟩
theorem wA_ok {es : List Expr} (i : ι) : PA (Xs i) es (wA Xs es) := ⟨fun pos pins s σ H Q I ⟨t, h, q⟩ => (h i).run pos pins s σ H Q I q⟩
theorem wTs_ok {es : List Expr} (i : ι) : PTs (Xs i) es (wTs Xs es) := ⟨fun pins s σ H Q I ⟨t, h, q⟩ => (h i).run pins s σ H Q I q⟩
theorem wS_ok {s : Stmt} (i : ι) : PS (Xs i) s (wS Xs s) := ⟨fun pins st σ H D I ⟨t, h, q⟩ => (h i).run pins st σ H D I q⟩
theorem wSs_ok {s : List Stmt} (i : ι) : PSs (Xs i) s (wSs Xs s) := ⟨fun pins st σ H D I ⟨t, h, q⟩ => (h i).run pins st σ H D I q⟩
theorem wI_ok {tg e : Expr} (i : ι) : PI (Xs i) tg e (wI Xs tg e) := ⟨fun pins s σ H R I ⟨t, h, q⟩ => (h i).run pins s σ H R I q⟩
theorem wG_ok {tg : Expr} (i : ι) : PG (Xs i) tg (wG Xs tg) := ⟨fun pins s σ H v u Q I r ⟨t, h, q⟩ => (h i).run pins s σ H v u Q I r q⟩
end

/-! ### the context -/
structure Cfg where
  P : Program
  w : World
  K : PySem.W.Frag
  mg : Str → Option Value
  base : Heap
structure COk {ι : Type} (c : Cfg) (kk : Nat) (N : List Str) (Xs : ι → Cx) : Prop where
  prog : ∀ i, (Xs i).prog = c.P
  w : ∀ i, (Xs i).w = c.w
  K : ∀ i, (Xs i).K = c.K
  mg : ∀ i, (Xs i).mg = c.mg
  base : ∀ i, (Xs i).base = c.base
  room : ∀ i, Room kk (Xs i).A
  calm : ∀ i, (Xs i).calm = true
  nm : ∀ i, (Xs i).N = N
  nd : N.Nodup
  xe : ∀ i, (Xs i).xe = fun _ _ => False
theorem COk.hu {ι : Type} {c : Cfg} {kk : Nat} {N : List Str} {Xs : ι → Cx} (ck : COk c kk N Xs) (i : ι) : (Xs i).A.units + 1 < cLine := by
  have := (ck.room i).units
  omega
theorem COk.hu64 {ι : Type} {c : Cfg} {kk : Nat} {N : List Str} {Xs : ι → Cx} (ck : COk c kk N Xs) (i : ι) : (Xs i).A.units + 64 < cLine := (ck.room i).units
theorem COk.hu0 {ι : Type} {c : Cfg} {kk : Nat} {N : List Str} {Xs : ι → Cx} (ck : COk c kk N Xs) (i : ι) : (Xs i).A.units < cLine := (ck.room i).units0

/-! ### the judgements -/
section
variable {ι : Type} (Xs : ι → Cx) (K : PySem.W.Frag)
structure SE (e : Expr) (δ : List (Option AV)) (μ : List M) (k : AV → List M → Prop) : Prop where
  run : ∀ (en : Ent) (τ : List AV) (σ : L2.St) (τv : List V) (H : Hp) (Q : VK), Holds K en δ τ μ σ τv H → (∀ a μ' v H', k a μ' → Holds K en δ (a :: τ) μ' σ (v :: τv) H' → Q v H') → wE Xs e σ H Q
structure ST (e : Expr) (δ : List (Option AV)) (μ : List M) (k : Bool → List M → Prop) : Prop where
  run : ∀ (en : Ent) (τ : List AV) (σ : L2.St) (τv : List V) (H : Hp) (Q : Bool → Hp → Prop), Holds K en δ τ μ σ τv H → (∀ b μ' H', k b μ' → Holds K en δ τ μ' σ τv H' → Q b H') → wT Xs e σ H Q
structure STs (es : List Expr) (δ : List (Option AV)) (μ : List M) (k : Bool → List M → Prop) : Prop where
  run : ∀ (en : Ent) (τ : List AV) (σ : L2.St) (τv : List V) (H : Hp) (Q : Bool → Hp → Prop), Holds K en δ τ μ σ τv H → (∀ b μ' H', k b μ' → Holds K en δ τ μ' σ τv H' → Q b H') → wTs Xs es σ H Q
structure SA (es : List Expr) (δ : List (Option AV)) (μ : List M) (k : List AV → List M → Prop) : Prop where
  run : ∀ (en : Ent) (τ : List AV) (σ : L2.St) (τv : List V) (H : Hp) (Q : List V → Hp → Prop), Holds K en δ τ μ σ τv H →
    (∀ as μ' vs H', k as μ' → as.length = vs.length → Holds K en δ (as ++ τ) μ' σ (vs ++ τv) H' → Q vs H') → wA Xs es σ H Q
/-- a two-place operation on values -/
structure OP (f : Value → Value → Sem Value) (x y : AV) (μ : List M) (k : AV → List M → Prop) : Prop where
  run : ∀ (en : Ent) (δ : List (Option AV)) (τ : List AV) (σ : L2.St) (τv : List V) (H : Hp) (vx vy : V) (Q : VK), Holds K en δ (y :: x :: τ) μ σ (vy :: vx :: τv) H →
    (∀ a μ' v H', k a μ' → Holds K en δ (a :: τ) μ' σ (v :: τv) H' → Q v H') → ∃ r : R2, (∀ i, OpR (Xs i) f r) ∧ r vx vy H Q
/-- a call of a built-in on values -/
structure CB (f : Value) (as : List AV) (μ : List M) (k : AV → List M → Prop) : Prop where
  run : ∀ (en : Ent) (δ : List (Option AV)) (τ : List AV) (σ : L2.St) (τv : List V) (H : Hp) (vs : List V) (Q : VK), as.length = vs.length → Holds K en δ (as ++ τ) μ σ (vs ++ τv) H →
    (∀ a μ' v H', k a μ' → Holds K en δ (a :: τ) μ' σ (v :: τv) H' → Q v H') → ∃ r : List V → Hp → VK → Prop, (∀ i, CallR (Xs i) f r) ∧ r vs H Q
structure AE where
  zl : Nat
  nx : List (Option AV) → List M → Prop
  rt : AV → List M → Prop
  bk : List (Option AV) → List M → Prop := fun _ _ => False
  ct : List (Option AV) → List M → Prop := fun _ _ => False
structure EOk (en : Ent) (τ : List AV) (τv : List V) (E : AE) (D : Ends) : Prop where
  nx : ∀ δ' μ' σ' H', E.nx δ' μ' → Holds K en δ' τ μ' σ' τv H' → D.nx σ' H'
  rt : ∀ a μ' v H', E.rt a μ' → Holds K en [] [a] μ' [] [v] H' → D.rt v H'
  bk : ∀ δ' μ' σ' H', E.bk δ' μ' → Holds K en δ' τ μ' σ' τv H' → D.bk σ' H'
  ct : ∀ δ' μ' σ' H', E.ct δ' μ' → Holds K en δ' τ μ' σ' τv H' → D.ct σ' H'
  zl : en.Z.length ≤ E.zl ∧ ∀ a ∈ τ, ∀ k, a = .own k → k < E.zl
structure S1 (st : Stmt) (δ : List (Option AV)) (μ : List M) (E : AE) : Prop where
  run : ∀ (en : Ent) (τ : List AV) (σ : L2.St) (τv : List V) (H : Hp) (D : Ends), Holds K en δ τ μ σ τv H → EOk K en τ τv E D → wS Xs st D σ H
structure SS (sts : List Stmt) (δ : List (Option AV)) (μ : List M) (E : AE) : Prop where
  run : ∀ (en : Ent) (τ : List AV) (σ : L2.St) (τv : List V) (H : Hp) (D : Ends), Holds K en δ τ μ σ τv H → EOk K en τ τv E D → wSs Xs sts D σ H
end

/-- a name's place -/
inductive At : List Str → Nat → Str → Prop
  | here {x : Str} {r : List Str} : At (x :: r) 0 x
  | next {x y : Str} {r : List Str} {j : Nat} : At r j x → At (y :: r) (j + 1) x
theorem At.get {N : List Str} {j : Nat} {x : Str} (h : At N j x) : N[j]? = some x := by
  induction h with
  | here => rfl
  | next _ ih => simpa using ih

section
variable {ι : Type} {Xs : ι → Cx} {c : Cfg} {kk : Nat} {N : List Str} {δ : List (Option AV)} {μ : List M} {k : AV → List M → Prop} {kb : Bool → List M → Prop} {ka : List AV → List M → Prop} {E : AE} {e a b cc : Expr} {es : List Expr} {pos pos' p : Pos} {x : Str}

/-! ### names and constants -/
theorem se_name {j : Nat} {v : AV} (ck : COk c kk N Xs) (hj : At N j x) (hd : δ[j]? = some (some v)) (h : k v μ) (hv : ∀ i, Vis (Xs i).env.scope x := by first | exact fun _ => Or.inl rfl | exact fun _ => Or.inr (Or.inl rfl) | exact fun _ => Or.inr (Or.inr rfl))
    (h1 : (x == ("__debug__" : Str)) = false := by decide) (h2 : (x == ("__classdict__" : Str)) = false := by decide) : SE Xs c.K (.Name x pos) δ μ k := by
  refine ⟨fun en τ σ τv H Q q hk => ?_⟩
  obtain ⟨w, hw, q'⟩ := q.slot hd
  exact ⟨tVar j, fun i => pe_var (by rw [ck.nm i]; exact hj.get) (hv i) h1 h2, w, hw, hk _ _ _ _ h q'⟩
theorem se_lit {d : D} {v : V} (h : k (.im d) μ) (hr : ∀ H, Rep c.K H d v) (hp : ∀ i, PE (Xs i) e (tC v)) : SE Xs c.K e δ μ k :=
  ⟨fun en τ σ τv H Q q hk => ⟨tC v, hp, hk _ _ _ _ h (q.push (hr H))⟩⟩
theorem se_int {n : Int} {j : Nat} (h : k (.im (.int n)) μ) : SE Xs c.K (.Constant (.int n) j pos) δ μ k := se_lit h (fun _ => rep_int.mpr rfl) fun _ => pe_int
theorem se_bl {n : Bool} {j : Nat} (h : k (.im (.bl n)) μ) : SE Xs c.K (.Constant (.bool n) j pos) δ μ k := se_lit h (fun _ => rep_bl.mpr rfl) fun _ => pe_bl
theorem se_non {j : Nat} (h : k (.im .non) μ) : SE Xs c.K (.Constant .none j pos) δ μ k := se_lit h (fun _ => rep_non.mpr rfl) fun _ => pe_non
theorem se_str {n : Str} {j : Nat} (h : k (.im (.str n)) μ) : SE Xs c.K (.Constant (.str n) j pos) δ μ k := se_lit h (fun _ => rep_str.mpr rfl) fun _ => pe_str
/-- a constant of the module -/
theorem se_glob {d : D} {v : V} {u : Value} (ck : COk c kk N Xs) (hm : c.mg x = some u) (rv : RelV v u) (hr : ∀ H, Rep c.K H d v) (h : k (.im d) μ) (hg : ∀ i, Gl (Xs i) x := by exact fun _ => rfl) (hd : (x == ("__debug__" : Str)) = false := by decide) :
    SE Xs c.K (.Name x pos) δ μ k := se_lit h hr fun i => pe_glob (hg i) (by rw [ck.mg i]; exact hm) rv hd

/-! ### operators -/
theorem se_bin {op : Operator} (h : SE Xs c.K a δ μ fun x μ1 => SE Xs c.K b δ μ1 fun y μ2 => OP Xs c.K (binaryOp op) x y μ2 k) : SE Xs c.K (.BinOp a op b pos) δ μ k := by
  refine ⟨fun en τ σ τv H Q q hk => ⟨tOp (fun x y H Q => ∃ r : R2, (∀ i, OpR (Xs i) (binaryOp op) r) ∧ r x y H Q) (wE Xs a) (wE Xs b), fun i => pe_op (fun pins s σ H x y v u Q I rx ry ⟨r, h1, h2⟩ => h1 i pins s σ H x y v u Q I rx ry h2) (wE_ok i) (wE_ok i), ?_⟩⟩
  refine h.run en τ σ τv H _ q fun x μ1 vx H1 hx q1 => ?_
  refine hx.run en (x :: τ) σ (vx :: τv) H1 _ q1 fun y μ2 vy H2 hy q2 => ?_
  exact hy.run en δ τ σ τv H2 vx vy Q q2 hk
theorem se_cmp {op : CmpOp} (h : SE Xs c.K a δ μ fun x μ1 => SE Xs c.K b δ μ1 fun y μ2 => OP Xs c.K (compareOp op) x y μ2 k) (hm : behindInMarks op b = false := by first | exact nobehind _ (by decide) (by decide) | rfl | with_unfolding_all rfl) :
    SE Xs c.K (.Compare a [op] [b] pos) δ μ k := by
  refine ⟨fun en τ σ τv H Q q hk => ⟨tOp (fun x y H Q => ∃ r : R2, (∀ i, OpR (Xs i) (compareOp op) r) ∧ r x y H Q) (wE Xs a) (wE Xs b), fun i => pe_cmpR (fun pins s σ H x y v u Q I rx ry ⟨r, h1, h2⟩ => h1 i pins s σ H x y v u Q I rx ry h2) (wE_ok i) (wE_ok i) hm, ?_⟩⟩
  refine h.run en τ σ τv H _ q fun x μ1 vx H1 hx q1 => ?_
  refine hx.run en (x :: τ) σ (vx :: τv) H1 _ q1 fun y μ2 vy H2 hy q2 => ?_
  exact hy.run en δ τ σ τv H2 vx vy Q q2 hk
theorem st_cmp {op : CmpOp} (h : SE Xs c.K a δ μ fun x μ1 => SE Xs c.K b δ μ1 fun y μ2 => OP Xs c.K (compareOp op) x y μ2 fun r μ3 => ∃ bb, r = .im (.bl bb) ∧ kb bb μ3) (hm : behindInMarks op b = false := by first | exact nobehind _ (by decide) (by decide) | rfl | with_unfolding_all rfl) :
    ST Xs c.K (.Compare a [op] [b] pos) δ μ kb := by
  refine ⟨fun en τ σ τv H Q q hk => ⟨tTest (tOp (fun x y H Q => ∃ r : R2, (∀ i, OpR (Xs i) (compareOp op) r) ∧ r x y H Q) (wE Xs a) (wE Xs b)), fun i => pt_cmpR (fun pins s σ H x y v u Q I rx ry ⟨r, h1, h2⟩ => h1 i pins s σ H x y v u Q I rx ry h2) (wE_ok i) (wE_ok i) hm, ?_⟩⟩
  refine h.run en τ σ τv H _ q fun x μ1 vx H1 hx q1 => ?_
  refine hx.run en (x :: τ) σ (vx :: τv) H1 _ q1 fun y μ2 vy H2 hy q2 => ?_
  refine hy.run en δ τ σ τv H2 vx vy _ q2 fun r μ3 v H3 hr q3 => ?_
  obtain ⟨bb, rfl, hb⟩ := hr
  exact ⟨bb, rep_bl.mp q3.top, hk bb μ3 H3 hb q3.pop⟩
/-- a op1 b op2 c -/
theorem se_chain {op op' : CmpOp} (h : SE Xs c.K a δ μ fun x μ1 => SE Xs c.K b δ μ1 fun y μ2 => ∃ dx dy, x = .im dx ∧ y = .im dy ∧ OP Xs c.K (compareOp op) x y μ2 fun r μ3 => ∃ bb, r = .im (.bl bb) ∧
      (bb = true → SE Xs c.K cc δ μ3 fun z μ4 => OP Xs c.K (compareOp op') y z μ4 k) ∧ (bb = false → k (.im (.bl false)) μ3))
    (hm : lastMarks [op, op'] [b, cc] = false := by with_unfolding_all rfl) : SE Xs c.K (.Compare a [op, op'] [b, cc] pos) δ μ k := by
  refine ⟨fun en τ σ τv H Q q hk => ⟨tChain (fun x y H Q => ∃ r : R2, (∀ i, OpR (Xs i) (compareOp op) r) ∧ r x y H Q) (fun x y H Q => ∃ r : R2, (∀ i, OpR (Xs i) (compareOp op') r) ∧ r x y H Q) (wE Xs a) (wE Xs b) (wE Xs cc),
    fun i => pe_chain (fun pins s σ H x y v u Q I rx ry ⟨r, h1, h2⟩ => h1 i pins s σ H x y v u Q I rx ry h2) (fun pins s σ H x y v u Q I rx ry ⟨r, h1, h2⟩ => h1 i pins s σ H x y v u Q I rx ry h2) (wE_ok i) (wE_ok i) (wE_ok i) hm, ?_⟩⟩
  refine h.run en τ σ τv H _ q fun x μ1 vx H1 hx q1 => ?_
  refine hx.run en (x :: τ) σ (vx :: τv) H1 _ q1 fun y μ2 vy H2 hy q2 => ?_
  obtain ⟨dx, dy, rfl, rfl, hy⟩ := hy
  -- y is kept beneath
  have q2' : Holds c.K en δ (.im dy :: .im dx :: .im dy :: τ) μ2 σ (vy :: vx :: vy :: τv) H2 := by
    have r1 := q2.top
    have r2 := q2.top2
    exact ((q2.pop.pop.push r1).push r2).push r1
  refine hy.run en δ (.im dy :: τ) σ (vy :: τv) H2 vx vy _ q2' fun r μ3 v H3 hr q3 => ?_
  obtain ⟨bb, rfl, h1, h2⟩ := hr
  refine ⟨bb, rep_bl.mp q3.top, ?_⟩
  cases bb with
  | true =>
    rw [if_pos rfl]
    refine (h1 rfl).run en (.im dy :: τ) σ (vy :: τv) H3 _ q3.pop fun z μ4 vz H4 hz q4 => ?_
    exact hz.run en δ τ σ τv H4 vy vz Q q4 hk
  | false =>
    rw [if_neg Bool.false_ne_true]
    exact hk _ _ _ _ (h2 rfl) (q3.pop.pop.push (rep_bl.mpr rfl))
theorem st_chain {op op' : CmpOp} (h : SE Xs c.K a δ μ fun x μ1 => SE Xs c.K b δ μ1 fun y μ2 => ∃ dx dy, x = .im dx ∧ y = .im dy ∧ OP Xs c.K (compareOp op) x y μ2 fun r μ3 => ∃ bb, r = .im (.bl bb) ∧
      (bb = true → SE Xs c.K cc δ μ3 fun z μ4 => OP Xs c.K (compareOp op') y z μ4 fun r' μ5 => ∃ b', r' = .im (.bl b') ∧ kb b' μ5) ∧ (bb = false → kb false μ3))
    (hm : lastMarks [op, op'] [b, cc] = false := by with_unfolding_all rfl) : ST Xs c.K (.Compare a [op, op'] [b, cc] pos) δ μ kb := by
  refine ⟨fun en τ σ τv H Q q hk => ⟨tTest (tChain (fun x y H Q => ∃ r : R2, (∀ i, OpR (Xs i) (compareOp op) r) ∧ r x y H Q) (fun x y H Q => ∃ r : R2, (∀ i, OpR (Xs i) (compareOp op') r) ∧ r x y H Q) (wE Xs a) (wE Xs b) (wE Xs cc)),
    fun i => pt_chain (fun pins s σ H x y v u Q I rx ry ⟨r, h1, h2⟩ => h1 i pins s σ H x y v u Q I rx ry h2) (fun pins s σ H x y v u Q I rx ry ⟨r, h1, h2⟩ => h1 i pins s σ H x y v u Q I rx ry h2) (wE_ok i) (wE_ok i) (wE_ok i) hm, ?_⟩⟩
  refine h.run en τ σ τv H _ q fun x μ1 vx H1 hx q1 => ?_
  refine hx.run en (x :: τ) σ (vx :: τv) H1 _ q1 fun y μ2 vy H2 hy q2 => ?_
  obtain ⟨dx, dy, rfl, rfl, hy⟩ := hy
  have q2' : Holds c.K en δ (.im dy :: .im dx :: .im dy :: τ) μ2 σ (vy :: vx :: vy :: τv) H2 := by
    have r1 := q2.top
    have r2 := q2.top2
    exact ((q2.pop.pop.push r1).push r2).push r1
  refine hy.run en δ (.im dy :: τ) σ (vy :: τv) H2 vx vy _ q2' fun r μ3 v H3 hr q3 => ?_
  obtain ⟨bb, rfl, h1, h2⟩ := hr
  refine ⟨bb, rep_bl.mp q3.top, ?_⟩
  cases bb with
  | true =>
    rw [if_pos rfl]
    refine (h1 rfl).run en (.im dy :: τ) σ (vy :: τv) H3 _ q3.pop fun z μ4 vz H4 hz q4 => ?_
    refine hz.run en δ τ σ τv H4 vy vz _ q4 fun r' μ5 v' H5 hr' q5 => ?_
    obtain ⟨b', rfl, hb⟩ := hr'
    exact ⟨b', rep_bl.mp q5.top, hk b' μ5 H5 hb q5.pop⟩
  | false =>
    rw [if_neg Bool.false_ne_true]
    exact ⟨false, rfl, hk false μ3 H3 (h2 rfl) q3.pop.pop⟩
theorem se_un {op : UnaryOp} {f : Int → Int} (ho : ∀ i, UnR (Xs i) (unaryOp op) (rU fun n => .int (f n))) (h : SE Xs c.K a δ μ fun x μ1 => ∃ n, x = .im (.int n) ∧ k (.im (.int (f n))) μ1) : SE Xs c.K (.UnaryOp op a pos) δ μ k := by
  refine ⟨fun en τ σ τv H Q q hk => ⟨tUn (rU fun n => .int (f n)) (wE Xs a), fun i => pe_un (ho i) (wE_ok i), ?_⟩⟩
  refine h.run en τ σ τv H _ q fun x μ1 vx H1 hx q1 => ?_
  obtain ⟨n, rfl, hx⟩ := hx
  exact ⟨n, rep_int.mp q1.top, hk _ _ _ _ hx (q1.pop.push (rep_int.mpr rfl))⟩
theorem se_neg (h : SE Xs c.K a δ μ fun x μ1 => ∃ n, x = .im (.int n) ∧ k (.im (.int (-n))) μ1) : SE Xs c.K (.UnaryOp .USub a pos) δ μ k := se_un (fun _ => un_neg) h

/-! ### tests -/
theorem st_not (h : ST Xs c.K a δ μ fun b μ1 => kb (!b) μ1) : ST Xs c.K (.UnaryOp .Not a pos) δ μ kb :=
  ⟨fun en τ σ τv H Q q hk => ⟨tNot (wT Xs a), fun i => pt_not (wT_ok i), h.run en τ σ τv H _ q fun b μ1 H1 hb q1 => hk _ _ _ hb q1⟩⟩
theorem se_not (h : SE Xs c.K a δ μ fun x μ1 => ∃ b, x = .im (.bl b) ∧ k (.im (.bl (!b))) μ1) : SE Xs c.K (.UnaryOp .Not a pos) δ μ k := by
  refine ⟨fun en τ σ τv H Q q hk => ⟨tNotV (wE Xs a), fun i => pe_not (wE_ok i), ?_⟩⟩
  refine h.run en τ σ τv H _ q fun x μ1 vx H1 hx q1 => ?_
  obtain ⟨b, rfl, hx⟩ := hx
  exact ⟨b, rep_bl.mp q1.top, hk _ _ _ _ hx (q1.pop.push (rep_bl.mpr rfl))⟩
/-- and, or as tests: PW -/
structure SW (Xs : ι → Cx) (K : PySem.W.Frag) (e : Expr) (δ : List (Option AV)) (μ : List M) (k : Bool → List M → Prop) : Prop where
  run : ∀ (en : Ent) (τ : List AV) (σ : L2.St) (τv : List V) (H : Hp) (Q : Bool → Hp → Prop), Holds K en δ τ μ σ τv H → (∀ b μ' H', k b μ' → Holds K en δ τ μ' σ τv H' → Q b H') → ∃ t, (∀ i, PW (Xs i) e t) ∧ t σ H Q
theorem st_sw (h : SW Xs c.K e δ μ kb) : ST Xs c.K e δ μ kb := ⟨fun en τ σ τv H Q q hk => let ⟨t, h1, h2⟩ := h.run en τ σ τv H Q q hk; ⟨t, fun i => (h1 i).pt, h2⟩⟩
theorem sw_and1 (h : ST Xs c.K a δ μ kb) : SW Xs c.K (.BoolOp .And [a] pos) δ μ kb := ⟨fun en τ σ τv H Q q hk => ⟨wT Xs a, fun i => pw_and1 (wT_ok i), h.run en τ σ τv H Q q hk⟩⟩
theorem sw_or1 (h : ST Xs c.K a δ μ kb) : SW Xs c.K (.BoolOp .Or [a] pos) δ μ kb := ⟨fun en τ σ τv H Q q hk => ⟨wT Xs a, fun i => pw_or1 (wT_ok i), h.run en τ σ τv H Q q hk⟩⟩
theorem PWw {e : Expr} (i : ι) : PW (Xs i) e (fun σ H Q => ∃ t, (∀ i, PW (Xs i) e t) ∧ t σ H Q) := ⟨fun wh pins s σ H Q I ⟨t, h, q⟩ => (h i).run wh pins s σ H Q I q⟩
theorem sw_and {rest : List Expr} (h : ST Xs c.K a δ μ fun x μ1 => (x = true → SW Xs c.K (.BoolOp .And (b :: rest) pos) δ μ1 kb) ∧ (x = false → kb false μ1)) : SW Xs c.K (.BoolOp .And (a :: b :: rest) pos) δ μ kb := by
  refine ⟨fun en τ σ τv H Q q hk => ⟨tAnd (wT Xs a) _, fun i => pw_and (wT_ok i) (PWw i), ?_⟩⟩
  refine h.run en τ σ τv H _ q fun x μ1 H1 hx q1 => ?_
  cases x with
  | true => rw [if_pos rfl]; exact (hx.1 rfl).run en τ σ τv H1 Q q1 hk
  | false => rw [if_neg Bool.false_ne_true]; exact hk _ _ _ (hx.2 rfl) q1
theorem sw_or {rest : List Expr} (h : ST Xs c.K a δ μ fun x μ1 => (x = true → kb true μ1) ∧ (x = false → SW Xs c.K (.BoolOp .Or (b :: rest) pos) δ μ1 kb)) : SW Xs c.K (.BoolOp .Or (a :: b :: rest) pos) δ μ kb := by
  refine ⟨fun en τ σ τv H Q q hk => ⟨tOr (wT Xs a) _, fun i => pw_or (wT_ok i) (PWw i), ?_⟩⟩
  refine h.run en τ σ τv H _ q fun x μ1 H1 hx q1 => ?_
  cases x with
  | true => rw [if_pos rfl]; exact hk _ _ _ (hx.1 rfl) q1
  | false => rw [if_neg Bool.false_ne_true]; exact (hx.2 rfl).run en τ σ τv H1 Q q1 hk
/-- two tests that leave all as it was: one path -/
theorem sw_andJ {rest : List Expr} {y : Bool} (h : ST Xs c.K a δ μ fun x μ1 => μ1 = μ ∧ (x = true → SW Xs c.K (.BoolOp .And (b :: rest) pos) δ μ fun z μ2 => μ2 = μ ∧ z = y) ∧ kb (x && y) μ) : SW Xs c.K (.BoolOp .And (a :: b :: rest) pos) δ μ kb := by
  refine ⟨fun en τ σ τv H Q q hk => ⟨tAnd (wT Xs a) _, fun i => pw_and (wT_ok i) (PWw i), ?_⟩⟩
  refine h.run en τ σ τv H _ q fun x μ1 H1 hx q1 => ?_
  obtain ⟨rfl, h1, h2⟩ := hx
  cases x with
  | true =>
    rw [if_pos rfl]
    refine (h1 rfl).run en τ σ τv H1 Q q1 fun z μ2 H2 hz q2 => ?_
    obtain ⟨rfl, rfl⟩ := hz
    exact hk _ _ _ (by simpa using h2) q2
  | false => rw [if_neg Bool.false_ne_true]; exact hk _ _ _ (by simpa using h2) q1
theorem sw_orJ {rest : List Expr} {y : Bool} (h : ST Xs c.K a δ μ fun x μ1 => μ1 = μ ∧ (x = false → SW Xs c.K (.BoolOp .Or (b :: rest) pos) δ μ fun z μ2 => μ2 = μ ∧ z = y) ∧ kb (x || y) μ) : SW Xs c.K (.BoolOp .Or (a :: b :: rest) pos) δ μ kb := by
  refine ⟨fun en τ σ τv H Q q hk => ⟨tOr (wT Xs a) _, fun i => pw_or (wT_ok i) (PWw i), ?_⟩⟩
  refine h.run en τ σ τv H _ q fun x μ1 H1 hx q1 => ?_
  obtain ⟨rfl, h1, h2⟩ := hx
  cases x with
  | false =>
    rw [if_neg Bool.false_ne_true]
    refine (h1 rfl).run en τ σ τv H1 Q q1 fun z μ2 H2 hz q2 => ?_
    obtain ⟨rfl, rfl⟩ := hz
    exact hk _ _ _ (by simpa using h2) q2
  | true => rw [if_pos rfl]; exact hk _ _ _ (by simpa using h2) q1
/-- as values -/
theorem se_one {op : BoolOp} (h : SE Xs c.K a δ μ k) : SE Xs c.K (.BoolOp op [a] pos) δ μ k := ⟨fun en τ σ τv H Q q hk => ⟨wE Xs a, fun i => pe_one (wE_ok i), h.run en τ σ τv H Q q hk⟩⟩
theorem se_and {rest : List Expr} (h : SE Xs c.K a δ μ fun x μ1 => ∃ b', x = .im (.bl b') ∧ (b' = true → SE Xs c.K (.BoolOp .And (b :: rest) pos) δ μ1 k) ∧ (b' = false → k (.im (.bl false)) μ1)) : SE Xs c.K (.BoolOp .And (a :: b :: rest) pos) δ μ k := by
  refine ⟨fun en τ σ τv H Q q hk => ⟨tAndV (wE Xs a) (wE Xs _), fun i => pe_and (wE_ok i) (wE_ok i), ?_⟩⟩
  refine h.run en τ σ τv H _ q fun x μ1 vx H1 hx q1 => ?_
  obtain ⟨b', rfl, h1, h2⟩ := hx
  refine ⟨b', rep_bl.mp q1.top, ?_⟩
  cases b' with
  | true => rw [if_pos rfl]; exact (h1 rfl).run en τ σ τv H1 Q q1.pop hk
  | false => rw [if_neg Bool.false_ne_true]; exact hk _ _ _ _ (h2 rfl) (q1.pop.push (rep_bl.mpr rfl))
theorem se_or {rest : List Expr} (h : SE Xs c.K a δ μ fun x μ1 => ∃ b', x = .im (.bl b') ∧ (b' = true → k (.im (.bl true)) μ1) ∧ (b' = false → SE Xs c.K (.BoolOp .Or (b :: rest) pos) δ μ1 k)) : SE Xs c.K (.BoolOp .Or (a :: b :: rest) pos) δ μ k := by
  refine ⟨fun en τ σ τv H Q q hk => ⟨tOrV (wE Xs a) (wE Xs _), fun i => pe_or (wE_ok i) (wE_ok i), ?_⟩⟩
  refine h.run en τ σ τv H _ q fun x μ1 vx H1 hx q1 => ?_
  obtain ⟨b', rfl, h1, h2⟩ := hx
  refine ⟨b', rep_bl.mp q1.top, ?_⟩
  cases b' with
  | true => rw [if_pos rfl]; exact hk _ _ _ _ (h1 rfl) (q1.pop.push (rep_bl.mpr rfl))
  | false => rw [if_neg Bool.false_ne_true]; exact (h2 rfl).run en τ σ τv H1 Q q1.pop hk
/-- an expression whose value is a bool, as a test (a name, a call, a subscript) -/
theorem st_val (h : SE Xs c.K e δ μ fun x μ1 => ∃ b', x = .im (.bl b') ∧ kb b' μ1) (he : ∀ i whole, isTrue e (Xs i).env whole = (do let v ← whole; standAt e.pos; holding [v] (truthy v)) := by intro _ _; rfl) : ST Xs c.K e δ μ kb := by
  refine ⟨fun en τ σ τv H Q q hk => ⟨tB (wE Xs e), fun i => pt_val (wE_ok i) (he i), ?_⟩⟩
  refine h.run en τ σ τv H _ q fun x μ1 vx H1 hx q1 => ?_
  obtain ⟨b', rfl, hb⟩ := hx
  exact ⟨b', rep_bl.mp q1.top, hk _ _ _ hb q1.pop⟩
theorem se_if (h : ST Xs c.K e δ μ fun x μ1 => (x = true → SE Xs c.K a δ μ1 k) ∧ (x = false → SE Xs c.K b δ μ1 k)) : SE Xs c.K (.IfExp e a b pos) δ μ k := by
  refine ⟨fun en τ σ τv H Q q hk => ⟨tIf (wT Xs e) (wE Xs a) (wE Xs b), fun i => pe_ifExp (wT_ok i) (wE_ok i) (wE_ok i), ?_⟩⟩
  refine h.run en τ σ τv H _ q fun x μ1 H1 hx q1 => ?_
  cases x with
  | true => rw [if_pos rfl]; exact (hx.1 rfl).run en τ σ τv H1 Q q1 hk
  | false => rw [if_neg Bool.false_ne_true]; exact (hx.2 rfl).run en τ σ τv H1 Q q1 hk
theorem sts_nil (h : kb true μ) : STs Xs c.K [] δ μ kb := ⟨fun en τ σ τv H Q q hk => ⟨tYes, fun i => pts_nil, hk _ _ _ h q⟩⟩
theorem sts_one (h : ST Xs c.K a δ μ kb) : STs Xs c.K [a] δ μ kb := ⟨fun en τ σ τv H Q q hk => ⟨wT Xs a, fun i => pts_one (wT_ok i), h.run en τ σ τv H Q q hk⟩⟩

/-! ### arguments -/
theorem sa_nil (h : ka [] μ) : SA Xs c.K [] δ μ ka := ⟨fun en τ σ τv H Q q hk => ⟨tNil, fun i => pa_nil, hk [] μ [] H h rfl q⟩⟩
theorem rot {K : PySem.W.Frag} {en : Ent} {δ : List (Option AV)} {τ : List AV} {μ : List M} {σ : L2.St} {τv : List V} {H : Hp} {x : AV} {vx : V} {as : List AV} {vs : List V} (hl : as.length = vs.length) (q : Holds K en δ (as ++ x :: τ) μ σ (vs ++ vx :: τv) H) :
    Holds K en δ (x :: as ++ τ) μ σ (vx :: vs ++ τv) H := by
  obtain ⟨fps, q⟩ := q
  obtain ⟨h1, h2⟩ := pd_split hl q.tm
  cases h2 with
  | cons r t => exact ⟨fps, q.mu, q.dj, q.sl, .cons r (pd_append h1 t), q.fr, q.nw, q.hd⟩
theorem sa_cons (h : SE Xs c.K a δ μ fun x μ1 => SA Xs c.K es δ μ1 fun as μ2 => ka (x :: as) μ2) (hs : ∀ i, starEach (a :: es) (Xs i).env = (false, eval a (Xs i).env) :: starEach es (Xs i).env := by intro _; rfl) : SA Xs c.K (a :: es) δ μ ka := by
  refine ⟨fun en τ σ τv H Q q hk => ⟨tCons (wE Xs a) (wA Xs es), fun i => pa_cons (wE_ok i) (wA_ok i) (hs i), ?_⟩⟩
  refine h.run en τ σ τv H _ q fun x μ1 vx H1 hx q1 => ?_
  refine hx.run en (x :: τ) σ (vx :: τv) H1 _ q1 fun as μ2 vs H2 has hl q2 => ?_
  exact hk (x :: as) μ2 (vx :: vs) H2 has (by simp [hl]) (rot hl q2)
end
end AL
namespace AL
open PySem PySem.Spec PyProof.Rows L2

section
variable {ι : Type} {Xs : ι → Cx} {c : Cfg} {kk : Nat} {N : List Str} {δ : List (Option AV)} {μ : List M} {k : AV → List M → Prop} {kb : Bool → List M → Prop} {ka : List AV → List M → Prop} {E : AE} {e a b cc : Expr} {es : List Expr} {pos pos' p : Pos} {x y z : Str} {st : Stmt} {sts sts' : List Stmt}

/-! ### blocks -/
theorem ss_nil (h : E.nx δ μ) : SS Xs c.K [] δ μ E := ⟨fun en τ σ τv H D q eo => ⟨tNext, fun i => pss_nil, eo.nx _ _ _ _ h q⟩⟩
theorem ss_cons (h : S1 Xs c.K st δ μ { E with nx := fun δ' μ' => SS Xs c.K sts δ' μ' E }) : SS Xs c.K (st :: sts) δ μ E := by
  refine ⟨fun en τ σ τv H D q eo => ⟨tSeq (wS Xs st) (wSs Xs sts), fun i => pss_cons (wS_ok i) (wSs_ok i), ?_⟩⟩
  refine h.run en τ σ τv H { D with nx := wSs Xs sts D } q ⟨fun δ' μ' σ' H' hn q' => ?_, eo.rt, eo.bk, eo.ct, eo.zl⟩
  exact hn.run en τ σ' τv H' D q' eo
/-- a word between two statements -/
theorem ss_cut (Mid : List (Option AV) → List M → Prop) (h : S1 Xs c.K st δ μ { E with nx := Mid }) (h2 : ∀ δ' μ', Mid δ' μ' → SS Xs c.K sts δ' μ' E) : SS Xs c.K (st :: sts) δ μ E := by
  refine ss_cons ⟨fun en τ σ τv H D q eo => h.run en τ σ τv H D q ⟨fun δ' μ' σ' H' hn q' => eo.nx δ' μ' σ' H' (h2 δ' μ' hn) q', eo.rt, eo.bk, eo.ct, eo.zl⟩⟩
theorem s1_never (h : False) : S1 Xs c.K st δ μ E := h.elim
theorem ss_never (h : False) : SS Xs c.K sts δ μ E := h.elim
theorem s1_pass (h : E.nx δ μ) : S1 Xs c.K (.Pass pos) δ μ E := ⟨fun en τ σ τv H D q eo => ⟨tNext, fun i => ps_pass, eo.nx _ _ _ _ h q⟩⟩
theorem s1_break (h : E.bk δ μ) : S1 Xs c.K (.Break pos) δ μ E := ⟨fun en τ σ τv H D q eo => ⟨tBreak, fun i => ps_break, eo.bk _ _ _ _ h q⟩⟩
theorem s1_continue (h : E.ct δ μ) : S1 Xs c.K (.Continue pos) δ μ E := ⟨fun en τ σ τv H D q eo => ⟨tCont, fun i => ps_continue, eo.ct _ _ _ _ h q⟩⟩
theorem s1_expr (h : SE Xs c.K e δ μ fun _ μ1 => E.nx δ μ1) (hs : ∀ i, swapsWith e none pos.line (Xs i).env = pure false := by intro _; rfl) : S1 Xs c.K (.Expr e pos) δ μ E :=
  ⟨fun en τ σ τv H D q eo => ⟨tDrop (wE Xs e), fun i => ps_expr (wE_ok i) (hs i), h.run en τ σ τv H _ q fun a μ1 v H1 ha q1 => eo.nx _ _ _ _ ha q1.pop⟩⟩
/-- for what is handed back, nothing but it and the objects matters -/
theorem Holds.ret {K : PySem.W.Frag} {en : Ent} {τ : List AV} {a : AV} {σ : L2.St} {τv : List V} {v : V} {H : Hp} (q : Holds K en δ (a :: τ) μ σ (v :: τv) H) : Holds K en [] [a] μ [] [v] H := by
  obtain ⟨fps, q⟩ := q
  cases q.tm with
  | cons r t => exact ⟨fps, q.mu, q.dj, .nil, .cons r .nil, q.fr, q.nw, q.hd⟩
theorem s1_ret (h : SE Xs c.K e δ μ fun a μ1 => E.rt a μ1) : S1 Xs c.K (.Return (some e) pos) δ μ E :=
  ⟨fun en τ σ τv H D q eo => ⟨tRet (wE Xs e), fun i => ps_ret (wE_ok i), h.run en τ σ τv H _ q fun a μ1 v H1 ha q1 => eo.rt _ _ _ _ ha q1.ret⟩⟩
theorem s1_retN (h : E.rt (.im .non) μ) : S1 Xs c.K (.Return none pos) δ μ E :=
  ⟨fun en τ σ τv H D q eo => ⟨tRetN, fun i => ps_retN, eo.rt _ _ _ _ h (q.push (rep_non.mpr rfl)).ret⟩⟩
theorem s1_if (h : ST Xs c.K e δ μ fun b μ1 => (b = true → SS Xs c.K sts δ μ1 E) ∧ (b = false → SS Xs c.K sts' δ μ1 E)) : S1 Xs c.K (.If e sts sts' pos) δ μ E := by
  refine ⟨fun en τ σ τv H D q eo => ⟨tIfS (wT Xs e) (wSs Xs sts) (wSs Xs sts'), fun i => ps_if (wT_ok i) (wSs_ok i) (wSs_ok i), ?_⟩⟩
  refine h.run en τ σ τv H _ q fun b μ1 H1 hb q1 => ?_
  cases b with
  | true => rw [if_pos rfl]; exact (hb.1 rfl).run en τ σ τv H1 D q1 eo
  | false => rw [if_neg Bool.false_ne_true]; exact (hb.2 rfl).run en τ σ τv H1 D q1 eo

/-! ### stores -/
theorem s1_set {j : Nat} (ck : COk c kk N Xs) (hj : At N j x) (h : SE Xs c.K e δ μ fun a μ1 => E.nx (δ.set j (some a)) μ1) (hx : ∀ i, Loc (Xs i).env.scope x := by first | exact fun _ => Or.inl rfl | exact fun _ => Or.inr rfl)
    (hs : ∀ i, swapsWith e (some (.Name x pos')) pos.line (Xs i).env = pure false := by intro _; rfl) (hf : ∀ i, (Xs i).fn x = true ∨ (Xs i).env.scope.names.lookup x = some .local := by first | exact fun _ => .inl rfl | exact fun _ => .inr rfl) :
    S1 Xs c.K (.Assign [.Name x pos'] e pos) δ μ E := by
  refine ⟨fun en τ σ τv H D q eo => ⟨tAsg (wE Xs e) (gName j), fun i => ps_set (by rw [ck.nm i]; exact ck.nd) (by rw [ck.nm i]; exact hj.get) (hx i) (wE_ok i) (hs i) (hf i), ?_⟩⟩
  exact h.run en τ σ τv H _ q fun a μ1 v H1 ha q1 => eo.nx _ _ _ _ ha (q1.store j)
/-- targets -/
structure SG {ι : Type} (Xs : ι → Cx) (K : PySem.W.Frag) (tg : Expr) (a : AV) (δ : List (Option AV)) (μ : List M) (k : List (Option AV) → List M → Prop) : Prop where
  run : ∀ (en : Ent) (τ : List AV) (σ : L2.St) (τv : List V) (H : Hp) (v : V) (Q : L2.St → Hp → Prop), Holds K en δ (a :: τ) μ σ (v :: τv) H → (∀ δ' μ' σ' H', k δ' μ' → Holds K en δ' τ μ' σ' τv H' → Q σ' H') → wG Xs tg v σ H Q
variable {kg : List (Option AV) → List M → Prop} {v : AV}
theorem sg_name {j : Nat} (ck : COk c kk N Xs) (hj : At N j x) (h : kg (δ.set j (some v)) μ) (hx : ∀ i, Loc (Xs i).env.scope x := by first | exact fun _ => Or.inl rfl | exact fun _ => Or.inr rfl)
    (hf : ∀ i, (Xs i).fn x = true ∨ (Xs i).env.scope.names.lookup x = some .local := by first | exact fun _ => .inl rfl | exact fun _ => .inr rfl) : SG Xs c.K (.Name x pos) v δ μ kg :=
  ⟨fun en τ σ τv H w Q q hk => ⟨gName j, fun i => pg_name (by rw [ck.nm i]; exact ck.nd) (by rw [ck.nm i]; exact hj.get) (hx i) (hf i), hk _ _ _ _ h (q.store j)⟩⟩
/-- several targets, from the left -/
structure SGs {ι : Type} (Xs : ι → Cx) (K : PySem.W.Frag) (tgs : List Expr) (as : List AV) (δ : List (Option AV)) (μ : List M) (k : List (Option AV) → List M → Prop) : Prop where
  run : ∀ (en : Ent) (τ : List AV) (σ : L2.St) (τv : List V) (H : Hp) (vs : List V) (Q : L2.St → Hp → Prop), as.length = vs.length → Holds K en δ (as ++ τ) μ σ (vs ++ τv) H → (∀ δ' μ' σ' H', k δ' μ' → Holds K en δ' τ μ' σ' τv H' → Q σ' H') →
    ∃ t : TGs, (∀ i, PGs (Xs i) tgs t) ∧ t vs σ H Q
theorem sgs_nil (h : kg δ μ) : SGs Xs c.K [] [] δ μ kg := by
  refine ⟨fun en τ σ τv H vs Q hl q hk => ⟨gNil, fun i => pgs_nil, ?_⟩⟩
  obtain rfl : vs = [] := by cases vs with | nil => rfl | cons _ _ => cases hl
  exact ⟨rfl, hk _ _ _ _ h q⟩
theorem PGsw {es : List Expr} (i : ι) : PGs (Xs i) es (fun vs σ H Q => ∃ t : TGs, (∀ i, PGs (Xs i) es t) ∧ t vs σ H Q) := ⟨fun pins s σ H vs us Q I r ⟨t, h, q⟩ => (h i).run pins s σ H vs us Q I r q⟩
theorem sgs_cons {as : List AV} (h : SG Xs c.K e v δ μ fun δ' μ' => SGs Xs c.K es as δ' μ' kg) (hs : ∀ i, (assignEach (e :: es) (Xs i).env).map (·.2) = assign e (Xs i).env :: (assignEach es (Xs i).env).map (·.2) := by intro _; rfl) : SGs Xs c.K (e :: es) (v :: as) δ μ kg := by
  refine ⟨fun en τ σ τv H vs Q hl q hk => ⟨gCons (wG Xs e) (fun vs σ H Q => ∃ t : TGs, (∀ i, PGs (Xs i) es t) ∧ t vs σ H Q), fun i => pgs_cons (wG_ok i) (PGsw i) (hs i), ?_⟩⟩
  cases vs with
  | nil => cases hl
  | cons w vs =>
    refine ⟨w, vs, rfl, ?_⟩
    exact h.run en (as ++ τ) σ (vs ++ τv) H w _ q fun δ' μ' σ' H' hd q1 => hd.run en τ σ' τv H' vs Q (by simpa using hl) q1 hk
/-- a pair (or more) of data, unpacked -/
theorem sg_tup {ds : List D} {n : Nat} (ck : COk c kk N Xs) (h : SGs Xs c.K es (ds.map AV.im) δ μ kg) (hl : ds.length = n) (hn : ∀ i, (assignEach es (Xs i).env).length = n := by intro _; rfl) (hst : ∀ i, (assignEach es (Xs i).env).findIdx? (·.1) = none := by intro _; rfl) {j : Nat} :
    SG Xs c.K (.Tuple es j pos) (.im (.tup ds)) δ μ kg := by
  refine ⟨fun en τ σ τv H w Q q hk => ⟨gTup c.K n (fun vs σ H Q => ∃ t : TGs, (∀ i, PGs (Xs i) es t) ∧ t vs σ H Q), fun i => by rw [← ck.K i]; exact pg_tup (ck.calm i) (PGsw i) (hn i) (hst i), ?_⟩⟩
  obtain ⟨a, vs, rfl, hq, hr⟩ := rep_tup.mp q.top
  refine ⟨a, vs, rfl, hq, by rw [← hr.length]; exact hl, ?_⟩
  have q2 : Holds c.K en δ (ds.map AV.im ++ τ) μ σ (vs ++ τv) H := by
    obtain ⟨fps, q⟩ := q.pop
    refine ⟨fps, q.mu, q.dj, q.sl, pd_append ?_ q.tm, q.fr, q.nw, q.hd⟩
    have gen : ∀ {ds : List D} {vs : List V}, Paired (Rep c.K H) ds vs → Paired (AVR c.K H fps) (ds.map AV.im) vs := by
      intro ds
      induction ds with
      | nil => intro vs h; cases h; exact .nil
      | cons d l ih => intro vs h; cases h with | cons r t => exact .cons r (ih t)
    exact gen (reps_iff.mp hr)
  exact h.run en τ σ τv H vs Q (by rw [List.length_map]; exact hr.length) q2 hk
/-- tg = e, any target -/
theorem s1_asg {tg : Expr} (h : SE Xs c.K e δ μ fun a μ1 => SG Xs c.K tg a δ μ1 E.nx) (hs : ∀ i, swapsWithSole [tg] e pos.line (Xs i).env = pure false := by intro _; rfl) (hw : ∀ i, swappedStores [tg] e (Xs i).env = pure none := by intro _; rfl)
    (h1 : ∀ i, (assignEach [tg] (Xs i).env).map (·.2) = [assign tg (Xs i).env] := by intro _; rfl) : S1 Xs c.K (.Assign [tg] e pos) δ μ E := by
  refine ⟨fun en τ σ τv H D q eo => ⟨tAsg (wE Xs e) (wG Xs tg), fun i => ps_asg (wE_ok i) (wG_ok i) (hs i) (hw i) (h1 i), ?_⟩⟩
  refine h.run en τ σ τv H _ q fun a μ1 v H1 ha q1 => ?_
  exact ha.run en τ σ τv H1 v _ q1 fun δ' μ' σ' H' hn q2 => eo.nx _ _ _ _ hn q2
/-- o[i] = v, by values -/
structure STO {ι : Type} (Xs : ι → Cx) (K : PySem.W.Frag) (x y a : AV) (μ : List M) (k : List M → Prop) : Prop where
  run : ∀ (en : Ent) (δ : List (Option AV)) (τ : List AV) (σ : L2.St) (τv : List V) (H : Hp) (vx vy va : V) (Q : Hp → Prop), Holds K en δ (y :: x :: a :: τ) μ σ (vy :: vx :: va :: τv) H → (∀ μ' H', k μ' → Holds K en δ τ μ' σ τv H' → Q H') →
    ∃ t : TSet, (∀ i, PSet (Xs i) t) ∧ t vx vy va H Q
theorem sg_sub {o i : Expr} (h : SE Xs c.K o δ μ fun x μ1 => SE Xs c.K i δ μ1 fun y μ2 => STO Xs c.K x y v μ2 fun μ3 => kg δ μ3)
    (ha : ∀ (ii : ι) (v : Value), assign (.Subscript o i pos) (Xs ii).env v = (do
      let ov ← holding [v] (eval o (Xs ii).env)
      let iv ← holding [v, ov] (eval i (Xs ii).env)
      standAt pos
      holding [v, ov, iv] (setItem ov iv v)
      release [v, ov, iv] []) := by intro _ _; rfl) : SG Xs c.K (.Subscript o i pos) v δ μ kg := by
  refine ⟨fun en τ σ τv H w Q q hk => ⟨gSub (wE Xs o) (wE Xs i) (fun o i v H Q => ∃ t : TSet, (∀ i, PSet (Xs i) t) ∧ t o i v H Q), fun ii => pg_sub (wE_ok ii) (wE_ok ii) (fun pins s σ H o i v ov iv u Q I r1 r2 r3 ⟨t, h1, h2⟩ => h1 ii pins s σ H o i v ov iv u Q I r1 r2 r3 h2) (ha ii), ?_⟩⟩
  refine h.run en (v :: τ) σ (w :: τv) H _ q fun x μ1 vx H1 hx q1 => ?_
  refine hx.run en (x :: v :: τ) σ (vx :: w :: τv) H1 _ q1 fun y μ2 vy H2 hy q2 => ?_
  exact hy.run en δ τ σ τv H2 vx vy w _ q2 fun μ3 H3 h3 q3 => hk _ _ _ _ h3 q3
/-- a, b = x, y of plain local names -/
theorem s1_par {i1 i2 : Nat} {px py pt pt2 : Pos} {kt k2 : Nat} (ck : COk c kk N Xs) (h1 : At N i1 x) (h2 : At N i2 y) (h : SA Xs c.K [a, b] δ μ fun as μ1 => ∃ u w, as = [u, w] ∧ E.nx ((δ.set i1 (some u)).set i2 (some w)) μ1)
    (hij : i1 ≠ i2 := by decide) (hx : ∀ i, (Xs i).env.scope.names.lookup x = some .local := by intro _; rfl) (hy : ∀ i, (Xs i).env.scope.names.lookup y = some .local := by intro _; rfl)
    (hw : ∀ i, swappedStores [.Tuple [.Name x px, .Name y py] kt pt] (.Tuple [a, b] k2 pt2) (Xs i).env = pure (some [x, y]) := by intro _; rfl)
    (hs : ∀ i, swapsWithSole [.Tuple [.Name x px, .Name y py] kt pt] (.Tuple [a, b] k2 pt2) pos.line (Xs i).env = pure false := by intro _; rfl) : S1 Xs c.K (.Assign [.Tuple [.Name x px, .Name y py] kt pt] (.Tuple [a, b] k2 pt2) pos) δ μ E := by
  refine ⟨fun en τ σ τv H D q eo => ⟨tPar i1 i2 (wA Xs [a, b]), fun i => ps_par (ck.calm i) (by rw [ck.nm i]; exact ck.nd) (by rw [ck.nm i]; exact h1.get) (by rw [ck.nm i]; exact h2.get) hij (hx i) (hy i) (wA_ok i) (hw i) (hs i), ?_⟩⟩
  refine h.run en τ σ τv H _ q fun as μ1 vs H1 ha hl q1 => ?_
  obtain ⟨u, w, rfl, hn⟩ := ha
  obtain ⟨v1, v2, rfl⟩ : ∃ v1 v2, vs = [v1, v2] := by
    match vs, hl with
    | [v1, v2], _ => exact ⟨v1, v2, rfl⟩
  refine ⟨v1, v2, rfl, eo.nx _ _ _ _ hn ?_⟩
  have q2 : Holds c.K en (δ.set i1 (some u)) (w :: τ) μ1 (σ.set i1 (some v1)) (v2 :: τv) H1 := by
    obtain ⟨fps, q⟩ := q1
    cases q.tm with
    | cons r t => exact ⟨fps, q.mu, q.dj, pd_set (F := SlR c.K H1 fps) (x := some u) (y := some v1) r i1 q.sl, t, q.fr, q.nw, q.hd⟩
  exact q2.store i2

/-! ### displays -/
theorem se_tup {j : Nat} (h : SA Xs c.K es δ μ fun as μ1 => ∃ ds : List D, as = ds.map AV.im ∧ ds.length ≤ 16777216 ∧ k (.im (.tup ds)) μ1) : SE Xs c.K (.Tuple es j pos) δ μ k := by
  refine ⟨fun en τ σ τv H Q q hk => ⟨tTup (wA Xs es), fun i => pe_tup (wA_ok i), ?_⟩⟩
  refine h.run en τ σ τv H _ q fun as μ1 vs H1 ha hl q1 => ?_
  obtain ⟨ds, rfl, hz, hn⟩ := ha
  refine ⟨by rw [← hl, List.length_map, sizeLine_eq]; exact hz, fun p hp => hk _ _ _ _ hn ?_⟩
  have s : Same H1 (upd H1 p (.tup vs)) := same_new hp
  refine (((q1.popn hl).ext s).push (rep_tup.mpr ⟨p, vs, rfl, .inl (.inl upd_same), ?_⟩))
  have hr : Reps c.K H1 ds vs := by
    obtain ⟨fps, q⟩ := q1
    have t := (pd_split hl q.tm).1
    have gen : ∀ {ds : List D} {vs : List V}, Paired (AVR c.K H1 fps) (ds.map AV.im) vs → Paired (Rep c.K H1) ds vs := by
      intro ds
      induction ds with
      | nil => intro vs h; cases h; exact .nil
      | cons d l ih => intro vs h; cases h with | cons r t => exact .cons r (ih t)
    exact reps_iff.mpr (gen t)
  exact Reps.keep (Keep.of_same s) _ _ hr
theorem avs_reps {K : PySem.W.Frag} {H : Hp} {fps : List (List Addr)} : ∀ {ds : List D} {vs : List V}, Paired (AVR K H fps) (ds.map AV.im) vs → Reps K H ds vs := by
  intro ds
  induction ds with
  | nil => intro vs h; cases h; exact reps_nil.mpr rfl
  | cons d l ih => intro vs h; cases h with | cons r t => exact reps_cons.mpr ⟨_, _, rfl, r, ih t⟩
theorem Holds.reps {K : PySem.W.Frag} {en : Ent} {τ : List AV} {σ : L2.St} {τv : List V} {H : Hp} {ds : List D} {vs : List V} (hl : (ds.map AV.im).length = vs.length) (q : Holds K en δ (ds.map AV.im ++ τ) μ σ (vs ++ τv) H) : Reps K H ds vs := by
  obtain ⟨fps, q⟩ := q
  exact avs_reps (pd_split hl q.tm).1
theorem se_lst (h : SA Xs c.K es δ μ fun as μ1 => ∃ ds : List D, as = ds.map AV.im ∧ ds.length ≤ 16777216 ∧ k (.own μ1.length) (μ1 ++ [.lst ds])) : SE Xs c.K (.List es pos) δ μ k := by
  refine ⟨fun en τ σ τv H Q q hk => ⟨tLst (wA Xs es), fun i => pe_lst (wA_ok i), ?_⟩⟩
  refine h.run en τ σ τv H _ q fun as μ1 vs H1 ha hl q1 => ?_
  obtain ⟨ds, rfl, hz, hn⟩ := ha
  refine ⟨by rw [← hl, List.length_map, sizeLine_eq]; exact hz, fun p hp => hk _ _ _ _ hn ?_⟩
  exact (q1.popn hl).new hp fun s => ⟨p, vs, rfl, upd_same, Reps.keep (Keep.of_same s) _ _ (q1.reps hl)⟩
theorem se_dnewK (h : k (.own μ.length) (μ ++ [.dK []])) : SE Xs c.K (.Dict [] [] pos) δ μ k :=
  ⟨fun en τ σ τv H Q q hk => ⟨tDNewK, fun i => pe_dnewK, fun p hp => hk _ _ _ _ h (q.new hp fun s => ⟨p, [], rfl, upd_same, .nil⟩)⟩⟩
theorem se_dnewT (h : k (.own μ.length) (μ ++ [.dT []])) : SE Xs c.K (.Dict [] [] pos) δ μ k :=
  ⟨fun en τ σ τv H Q q hk => ⟨tDNewT, fun i => pe_dnewT, fun p hp => hk _ _ _ _ h (q.new hp fun s => ⟨p, [], rfl, upd_same, .nil⟩)⟩⟩

/-! ### what is walked -/
def gd (ow : List (Nat × List D)) (μ : List M) : Prop := ∀ p ∈ ow, μ[p.1]? = some (.lst p.2)
structure SI {ι : Type} (Xs : ι → Cx) (K : PySem.W.Frag) (tg it : Expr) (δ : List (Option AV)) (μ : List M) (k : Nat → (Nat → D) → List (Nat × List D) → List M → Prop) : Prop where
  run : ∀ (en : Ent) (τ : List AV) (σ : L2.St) (τv : List V) (H : Hp) (R : It → Hp → Prop), Holds K en δ τ μ σ τv H →
    (∀ n f ow μ1 H1 (τx : List AV) (τvx : List V) J G Y, k n f ow μ1 → Holds K en δ (τx ++ τ) μ1 σ (τvx ++ τv) H1 → τx.length = τvx.length → (∀ a ∈ τx, ∀ k, a = .own k → ∃ ds, (k, ds) ∈ ow) → Walk J n G Y →
      (∀ δ' μ' σ' H', Holds K en δ' (τx ++ τ) μ' σ' (τvx ++ τv) H' → gd ow μ' → G H') →
      (∀ i x δ' μ' σ' H' H'', i < n → Holds K en δ' (τx ++ τ) μ' σ' (τvx ++ τv) H' → gd ow μ' → Y i H' x H'' → Holds K en δ' (.im (f i) :: (τx ++ τ)) μ' σ' (x :: (τvx ++ τv)) H'') → R J H1) → wI Xs tg it σ H R
variable {tg it : Expr} {ki : Nat → (Nat → D) → List (Nat × List D) → List M → Prop}
theorem si_range1 {xp : Pos} (ck : COk c kk N Xs) (hm : c.mg "range" = none) (h : SA Xs c.K [a] δ μ fun as μ1 => ∃ n : Int, as = [.im (.int n)] ∧ -(2 ^ 62) ≤ n ∧ n < 2 ^ 62 ∧ ki n.toNat (fun i => .int (0 + (i : Nat))) [] μ1) (hg : ∀ i, Gl (Xs i) "range" := by exact fun _ => rfl)
    (hs : ∀ i, starEach [a] (Xs i).env = [(false, eval a (Xs i).env)] := by intro _; rfl) : SI Xs c.K tg (.Call (.Name "range" xp) [a] [] pos) δ μ ki := by
  refine ⟨fun en τ σ τv H R q hk => ⟨iRng1 (wA Xs [a]), fun i => pi_range1 (hg i) (by rw [ck.mg i]; exact hm) (wA_ok i) (hs i), ?_⟩⟩
  refine h.run en τ σ τv H _ q fun as μ1 vs H1 ha hl q1 => ?_
  obtain ⟨n, rfl, h1, h2, hn⟩ := ha
  obtain ⟨v, rfl⟩ : ∃ v, vs = [v] := by match vs, hl with | [v], _ => exact ⟨v, rfl⟩
  have e1 := rep_int.mp q1.top
  subst e1
  refine ⟨n, rfl, h1, h2, hk _ _ [] μ1 H1 [] [] _ _ _ hn q1.pop rfl (fun _ h => by cases h) walk_range (fun _ _ _ _ _ _ => trivial) fun i x δ' μ' σ' H' H'' hi q2 _ y => ?_⟩
  obtain ⟨rfl, rfl⟩ := y
  exact q2.push (rep_int.mpr rfl)
theorem si_range2 {xp : Pos} (ck : COk c kk N Xs) (hm : c.mg "range" = none) (h : SA Xs c.K [a, b] δ μ fun as μ1 => ∃ m n : Int, as = [.im (.int m), .im (.int n)] ∧ (-(2 ^ 62) ≤ m ∧ m < 2 ^ 62 ∧ -(2 ^ 62) ≤ n ∧ n < 2 ^ 62) ∧ ki (n - m).toNat (fun i => .int (m + (i : Nat))) [] μ1)
    (hg : ∀ i, Gl (Xs i) "range" := by exact fun _ => rfl) (hs : ∀ i, starEach [a, b] (Xs i).env = [(false, eval a (Xs i).env), (false, eval b (Xs i).env)] := by intro _; rfl) (hs2 : ∀ i, starEach [b] (Xs i).env = [(false, eval b (Xs i).env)] := by intro _; rfl) :
    SI Xs c.K tg (.Call (.Name "range" xp) [a, b] [] pos) δ μ ki := by
  refine ⟨fun en τ σ τv H R q hk => ⟨iRng2 (wA Xs [a, b]), fun i => pi_range2 (hg i) (by rw [ck.mg i]; exact hm) (wA_ok i) (hs i) (hs2 i), ?_⟩⟩
  refine h.run en τ σ τv H _ q fun as μ1 vs H1 ha hl q1 => ?_
  obtain ⟨m, n, rfl, h1, hn⟩ := ha
  obtain ⟨v, w, rfl⟩ : ∃ v w, vs = [v, w] := by match vs, hl with | [v, w], _ => exact ⟨v, w, rfl⟩
  have e1 := rep_int.mp q1.top
  have e2 := rep_int.mp q1.pop.top
  subst e1
  subst e2
  refine ⟨m, n, rfl, h1, hk _ _ [] μ1 H1 [] [] _ _ _ hn q1.pop.pop rfl (fun _ h => by cases h) walk_range (fun _ _ _ _ _ _ => trivial) fun i x δ' μ' σ' H' H'' hi q2 _ y => ?_⟩
  obtain ⟨rfl, rfl⟩ := y
  exact q2.push (rep_int.mpr rfl)
theorem reps_at {K : PySem.W.Frag} {H : Hp} {ds : List D} {vs : List V} {i : Nat} {v : V} (h : Reps K H ds vs) (hv : vs[i]? = some v) : Rep K H (ds.getD i .non) v := by
  obtain ⟨d, e, r⟩ := pd_get' (reps_iff.mp h) hv
  rw [List.getD_eq_getElem?_getD, e]; exact r
theorem Holds.top_keep {K : PySem.W.Frag} {en : Ent} {τ : List AV} {σ : L2.St} {τv : List V} {H : Hp} {a : AV} {v : V} (q : Holds K en δ (a :: τ) μ σ (v :: τv) H) {w : AV} {wv : V} (r : ∀ fps, Hold K en δ (a :: τ) μ σ (v :: τv) H fps → AVR K H fps w wv) : Holds K en δ (w :: a :: τ) μ σ (wv :: v :: τv) H := by
  obtain ⟨fps, q⟩ := q
  exact ⟨fps, q.mu, q.dj, q.sl, .cons (r fps q) q.tm, q.fr, q.nw, q.hd⟩
/-- over a tuple of data -/
theorem si_tup (ck : COk c kk N Xs) (h : SE Xs c.K it δ μ fun a μ1 => ∃ ds : List D, a = .im (.tup ds) ∧ ki ds.length (fun i => ds.getD i .non) [] μ1) : SI Xs c.K tg it δ μ ki := by
  refine ⟨fun en τ σ τv H R q hk => ⟨iTup c.K (wE Xs it), fun i => by rw [← ck.K i]; exact pi_tup (wE_ok i), ?_⟩⟩
  refine h.run en τ σ τv H _ q fun a μ1 v H1 ha q1 => ?_
  obtain ⟨ds, rfl, hn⟩ := ha
  obtain ⟨p, vs, rfl, hq, hr⟩ := rep_tup.mp q1.top
  have tup_at : ∀ δ' μ' σ' H', Holds c.K en δ' ([.im (.tup ds)] ++ τ) μ' σ' ([.ref p] ++ τv) H' → ∃ ws, SqT c.K H' p ws ∧ Reps c.K H' ds ws := fun δ' μ' σ' H' q2 => by
    obtain ⟨p', ws, e, h1, h2⟩ := rep_tup.mp (show Rep c.K H' (.tup ds) (.ref p) from q2.top)
    cases e
    exact ⟨ws, h1, h2⟩
  -- the walk by what stands at each turn
  have W : Walk (Itt c.K p) ds.length (fun H' => ∃ ws, SqT c.K H' p ws ∧ Reps c.K H' ds ws) (fun i H' x H'' => H'' = H' ∧ ∀ ws, SqT c.K H' p ws → ws[i]? = some x) :=
    ⟨fun i H' hi ⟨ws, g1, g2⟩ => ⟨ws, ws[i]'(by rw [← g2.length]; exact hi), g1, by simp⟩, fun H' ⟨ws, g1, g2⟩ => ⟨ws, g1, by rw [← g2.length]; exact Nat.le_refl _⟩, fun i H' x H'' hi _ y => y⟩
  refine ⟨p, rfl, ⟨vs, hq⟩, hk _ _ [] μ1 H1 [.im (.tup ds)] [.ref p] _ _ _ hn q1 rfl (fun _ h _ e => by rw [List.mem_singleton.mp h] at e; cases e) W (fun δ' μ' σ' H' q2 _ => tup_at δ' μ' σ' H' q2) fun i x δ' μ' σ' H' H'' hi q2 _ y => ?_⟩
  obtain ⟨rfl, y⟩ := y
  obtain ⟨ws, g1, g2⟩ := tup_at δ' μ' σ' _ q2
  exact q2.push (reps_at g2 (y ws g1))
/-- over a list that nobody changes -/
theorem si_fl (ck : COk c kk N Xs) (h : SE Xs c.K it δ μ fun a μ1 => ∃ ds : List D, a = .im (.fl ds) ∧ ki ds.length (fun i => ds.getD i .non) [] μ1) : SI Xs c.K tg it δ μ ki := by
  refine ⟨fun en τ σ τv H R q hk => ⟨iList c.K (wE Xs it), fun i => by rw [← ck.K i]; exact pi_list (wE_ok i), ?_⟩⟩
  refine h.run en τ σ τv H _ q fun a μ1 v H1 ha q1 => ?_
  obtain ⟨ds, rfl, hn⟩ := ha
  obtain ⟨p, vs, rfl, hq, hr⟩ := rep_fl.mp q1.top
  have tup_at : ∀ δ' μ' σ' H', Holds c.K en δ' ([.im (.fl ds)] ++ τ) μ' σ' ([.ref p] ++ τv) H' → ∃ ws, SqL c.K H' p ws ∧ Reps c.K H' ds ws := fun δ' μ' σ' H' q2 => by
    obtain ⟨p', ws, e, h1, h2⟩ := rep_fl.mp (show Rep c.K H' (.fl ds) (.ref p) from q2.top)
    cases e
    exact ⟨ws, h1.sql, h2⟩
  have W : Walk (Itl c.K p) ds.length (fun H' => ∃ ws, SqL c.K H' p ws ∧ Reps c.K H' ds ws) (fun i H' x H'' => H'' = H' ∧ ∀ ws, SqL c.K H' p ws → ws[i]? = some x) :=
    ⟨fun i H' hi ⟨ws, g1, g2⟩ => ⟨ws, ws[i]'(by rw [← g2.length]; exact hi), g1, by simp⟩, fun H' ⟨ws, g1, g2⟩ => ⟨ws, g1, by rw [← g2.length]; exact Nat.le_refl _⟩, fun i H' x H'' hi _ y => y⟩
  refine ⟨p, rfl, ⟨vs, hq.sql⟩, hk _ _ [] μ1 H1 [.im (.fl ds)] [.ref p] _ _ _ hn q1 rfl (fun _ h _ e => by rw [List.mem_singleton.mp h] at e; cases e) W (fun δ' μ' σ' H' q2 _ => tup_at δ' μ' σ' H' q2) fun i x δ' μ' σ' H' H'' hi q2 _ y => ?_⟩
  obtain ⟨rfl, y⟩ := y
  obtain ⟨ws, g1, g2⟩ := tup_at δ' μ' σ' _ q2
  exact q2.push (reps_at g2 (y ws g1))
/-- what the k-th object is -/
theorem Holds.own_lst {K : PySem.W.Frag} {en : Ent} {τ : List AV} {σ : L2.St} {τv : List V} {H : Hp} {j : Nat} {v : V} {ds : List D} (q : Holds K en δ (.own j :: τ) μ σ (v :: τv) H) (hj : μ[j]? = some (.lst ds)) : ∃ p vs, v = .ref p ∧ H p = some (.lst vs) ∧ Reps K H ds vs := by
  obtain ⟨fps, q⟩ := q
  cases q.tm with
  | cons r t =>
    obtain ⟨p, rr, e1, rfl⟩ := r
    obtain ⟨fp, e2, p', vs, e3, e4, e5⟩ := pd_get q.mu hj
    rw [e1] at e2; cases e2
    cases e3
    exact ⟨p, vs, rfl, e4, e5⟩
/-- over an own list that the body leaves as it is -/
theorem si_own (ck : COk c kk N Xs) (h : SE Xs c.K it δ μ fun a μ1 => ∃ j ds, a = .own j ∧ μ1[j]? = some (.lst ds) ∧ ki ds.length (fun i => ds.getD i .non) [(j, ds)] μ1) : SI Xs c.K tg it δ μ ki := by
  refine ⟨fun en τ σ τv H R q hk => ⟨iList c.K (wE Xs it), fun i => by rw [← ck.K i]; exact pi_list (wE_ok i), ?_⟩⟩
  refine h.run en τ σ τv H _ q fun a μ1 v H1 ha q1 => ?_
  obtain ⟨j, ds, rfl, hj, hn⟩ := ha
  obtain ⟨p, vs, rfl, hq, hr⟩ := q1.own_lst hj
  have tup_at : ∀ δ' μ' σ' H', Holds c.K en δ' ([.own j] ++ τ) μ' σ' ([.ref p] ++ τv) H' → gd [(j, ds)] μ' → ∃ ws, SqL c.K H' p ws ∧ Reps c.K H' ds ws := fun δ' μ' σ' H' q2 g => by
    obtain ⟨p', ws, e, h1, h2⟩ := q2.own_lst (g (j, ds) (by simp))
    cases e
    exact ⟨ws, .inl (.inl h1), h2⟩
  have W : Walk (Itl c.K p) ds.length (fun H' => ∃ ws, SqL c.K H' p ws ∧ Reps c.K H' ds ws) (fun i H' x H'' => H'' = H' ∧ ∀ ws, SqL c.K H' p ws → ws[i]? = some x) :=
    ⟨fun i H' hi ⟨ws, g1, g2⟩ => ⟨ws, ws[i]'(by rw [← g2.length]; exact hi), g1, by simp⟩, fun H' ⟨ws, g1, g2⟩ => ⟨ws, g1, by rw [← g2.length]; exact Nat.le_refl _⟩, fun i H' x H'' hi _ y => y⟩
  refine ⟨p, rfl, ⟨vs, .inl (.inl hq)⟩, hk _ _ [(j, ds)] μ1 H1 [.own j] [.ref p] _ _ _ hn q1 rfl (fun _ h _ e => by rw [List.mem_singleton.mp h] at e; cases e; exact ⟨ds, List.mem_singleton.mpr rfl⟩) W (fun δ' μ' σ' H' q2 g => tup_at δ' μ' σ' H' q2 g) fun i x δ' μ' σ' H' H'' hi q2 g y => ?_⟩
  obtain ⟨rfl, y⟩ := y
  obtain ⟨ws, g1, g2⟩ := tup_at δ' μ' σ' _ q2 g
  exact q2.push (reps_at g2 (y ws g1))

/-! ### loops -/
/-- a state of a family, what lies beyond forgotten -/
def InvAt {P : Type} (n : Nat) (dl : P → List (Option AV)) (ml : P → List M) (inv : P → Prop) (δ : List (Option AV)) (μ : List M) : Prop := ∃ p, inv p ∧ Paired (FgO n) δ (dl p) ∧ μ.take n = ml p
theorem Holds.inv {K : PySem.W.Frag} {en : Ent} {τ : List AV} {σ : L2.St} {τv : List V} {H : Hp} {P : Type} {n : Nat} {dl : P → List (Option AV)} {ml : P → List M} {inv : P → Prop} (hz : en.Z.length ≤ n) (ht : ∀ a ∈ τ, ∀ k, a = .own k → k < n)
    (h : InvAt n dl ml inv δ μ) (q : Holds K en δ τ μ σ τv H) : ∃ p, inv p ∧ Holds K en (dl p) τ (ml p) σ τv H := by
  obtain ⟨p, hp, fg, e⟩ := h
  obtain ⟨fps, q⟩ := q
  exact ⟨p, hp, _, e ▸ q.cut hz fg ht⟩
theorem s1_for {P : Type} (dl : Nat → P → List (Option AV)) (ml : Nat → P → List M) (inv : Nat → P → Prop) (ck : COk c kk N Xs)
    (h : SI Xs c.K tg it δ μ fun n f ow μ1 => InvAt μ1.length (dl 0) (ml 0) (inv 0) δ μ1 ∧ (∀ i p, i ≤ n → inv i p → gd ow (ml i p)) ∧
      (∀ i p, i < n → inv i p → SG Xs c.K tg (.im (f i)) (dl i p) (ml i p) fun δ2 μ2 => SS Xs c.K sts δ2 μ2
        { zl := μ1.length, nx := InvAt μ1.length (dl (i + 1)) (ml (i + 1)) (inv (i + 1)), ct := InvAt μ1.length (dl (i + 1)) (ml (i + 1)) (inv (i + 1)), bk := E.nx, rt := E.rt }) ∧
      (∀ p, inv n p → E.nx (dl n p) (ml n p)))
    (hs : ∀ i x, foldedSetIterable it (Xs i).env x = pure x := by intro _ _; rfl) : S1 Xs c.K (.For tg it sts [] pos) δ μ E := by
  refine ⟨fun en τ σ τv H D q eo => ⟨tFor (wI Xs tg it) (wG Xs tg) (wSs Xs sts), fun i => ps_for (by rw [ck.xe i]; exact PassesOwn.never) (ck.calm i) (wI_ok i) (wG_ok i) (wSs_ok i) (hs i), ?_⟩⟩
  refine h.run en τ σ τv H _ q fun n f ow μ1 H1 τx τvx J G Y hn q1 hl hx W hG hY => ?_
  obtain ⟨h0, hgd, hstep, hend⟩ := hn
  have hz : en.Z.length ≤ μ1.length := by obtain ⟨fps, q1⟩ := q1; exact q1.zlt
  have ht : ∀ a ∈ τx ++ τ, ∀ k, a = .own k → k < μ1.length := by obtain ⟨fps, q1⟩ := q1; exact q1.tlt
  refine for_it W (fun i σ' H' => ∃ p, inv i p ∧ Holds c.K en (dl i p) (τx ++ τ) (ml i p) σ' (τvx ++ τv) H') (q1.inv hz ht h0) (fun i σ' H' hi ⟨p, hp, q2⟩ => hG _ _ _ _ q2 (hgd i p hi hp)) (fun i x σ' H' H'' hi ⟨p, hp, q2⟩ y => ?_) (fun σ' H' ⟨p, hp, q2⟩ => eo.nx _ _ _ _ (hend p hp) (q2.popn hl))
  have q3 := hY i x _ _ _ _ _ hi q2 (hgd i p (Nat.le_of_lt hi) hp) y
  refine (hstep i p hi hp).run en (τx ++ τ) σ' (τvx ++ τv) H'' x _ q3 fun δ2 μ2 σ2 H2 hb q4 => ?_
  exact hb.run en (τx ++ τ) σ2 (τvx ++ τv) H2 _ q4 ⟨fun δ' μ' σ' H' hn q => q.inv hz ht hn, eo.rt, fun δ' μ' σ' H' hn q => eo.nx _ _ _ _ hn (q.popn hl), fun δ' μ' σ' H' hn q => q.inv hz ht hn, ⟨hz, ht⟩⟩
theorem s1_while {P : Type} (dl : P → List (Option AV)) (ml : P → List M) (inv : P → Prop) (ms : P → Nat) (ck : COk c kk N Xs) (h0 : InvAt μ.length dl ml inv δ μ)
    (hs : ∀ p, inv p → ST Xs c.K e (dl p) (ml p) fun b μ1 => (b = true → SS Xs c.K sts (dl p) μ1 { zl := μ.length, nx := InvAt μ.length dl ml (fun p' => inv p' ∧ ms p' < ms p), ct := InvAt μ.length dl ml (fun p' => inv p' ∧ ms p' < ms p), bk := E.nx, rt := E.rt }) ∧ (b = false → E.nx (dl p) μ1)) :
    S1 Xs c.K (.While e sts [] pos) δ μ E := by
  refine ⟨fun en τ σ τv H D q eo => ⟨tWhile (wT Xs e) (wSs Xs sts), fun i => ps_while (by rw [ck.xe i]; exact PassesOwn.never) (wT_ok i) (wSs_ok i), ?_⟩⟩
  have hz : en.Z.length ≤ μ.length := by obtain ⟨fps, q⟩ := q; exact q.zlt
  have ht : ∀ a ∈ τ, ∀ k, a = .own k → k < μ.length := by obtain ⟨fps, q⟩ := q; exact q.tlt
  refine ⟨fun m σ' H' => ∃ p, ms p = m ∧ inv p ∧ Holds c.K en (dl p) τ (ml p) σ' τv H', ?_, fun m σ' H' ⟨p, hm, hp, q1⟩ => ?_⟩
  · obtain ⟨p, hp, q1⟩ := q.inv hz ht h0
    exact ⟨_, p, rfl, hp, q1⟩
  · refine (hs p hp).run en τ σ' τv H' _ q1 fun b μ1 H1 hb q2 => ?_
    cases b with
    | false => rw [if_neg Bool.false_ne_true]; exact eo.nx _ _ _ _ (hb.2 rfl) q2
    | true =>
      rw [if_pos rfl]
      refine ⟨fun σ'' H'' => ∃ p', (inv p' ∧ ms p' < ms p) ∧ Holds c.K en (dl p') τ (ml p') σ'' τv H'', fun σ'' H'' ⟨p', ⟨h1, h2⟩, q3⟩ => ⟨ms p', by omega, p', rfl, h1, q3⟩, ?_⟩
      exact (hb.1 rfl).run en τ σ' τv H1 _ q2 ⟨fun δ' μ' σ' H' hn q => q.inv hz ht hn, eo.rt, fun δ' μ' σ' H' hn q => eo.nx _ _ _ _ hn q, fun δ' μ' σ' H' hn q => q.inv hz ht hn, ⟨hz, ht⟩⟩

/-! ### calls of defs -/
structure Callee (c : Cfg) (x : Str) (k ar : Nat) (F : Ct) : Prop where
  ex : ∃ f fd ps, FnOk c.P c.w c.K c.mg c.base CX0 k f fd ps (spOf c.K F ar) ∧ c.mg x = some (.ref f) ∧ PySem.W.keepIn c.K (.ref f) = true ∧ Binds c.K fd ps []
/-- a contract used -/
def CL (F : Ct) (as : List AV) (μ : List M) (k : AV → List M → Prop) : Prop := ∃ (js : List Nat) (as0 : List AV) (μ0 : List M), js.Nodup ∧ Paired (fun j m => μ[j]? = some m) js μ0 ∧ Paired (AsC js) as0 as ∧ F as0 μ0 (fun a μ' => k (trA js μ.length a) (upds μ js μ'))
theorem pd_mem {α β : Type} {F : α → β → Prop} {as : List α} {bs : List β} (h : Paired F as bs) : as.length = bs.length := h.length
theorem call_run {K : PySem.W.Frag} {F : Ct} {ar : Nat} {en : Ent} {τ : List AV} {σ : L2.St} {τv : List V} {H : Hp} {as : List AV} {vs : List V} {Q : VK} {EX : XK} (hl : as.length = vs.length) (har : as.length = ar) (q : Holds K en δ (as ++ τ) μ σ (vs ++ τv) H) (h : CL F as μ k)
    (hk : ∀ a μ' v H', k a μ' → Holds K en δ (a :: τ) μ' σ (v :: τv) H' → Q v H') : spOf K F ar vs H Q EX := by
  obtain ⟨js, as0, μ0, nd, hm, hc, hF⟩ := h
  obtain ⟨fps, q1⟩ := q
  obtain ⟨sel, hs1, hs2⟩ := q1.selO hm
  refine ⟨by rw [← hl]; exact har, as0, μ0, sel, _, hF, hs2, sel_disj q1.dj nd hs1, args_of hs1 hc (pd_split hl q1.tm).1, fun a μ' v H' hp hb => ?_⟩
  have q2 : Hold K en δ τ μ σ τv H fps := ⟨q1.mu, q1.dj, q1.sl, (pd_split hl q1.tm).2, q1.fr, q1.nw, q1.hd⟩
  exact hk _ _ v H' hp (q2.back nd hs1 hb)
theorem se_call {F : Ct} {kf ar : Nat} {xp : Pos} (ck : COk c kk N Xs) (cl : Callee c x kf ar F) (hk : kf ≤ kk) (h : SA Xs c.K (a :: es) δ μ fun as μ1 => as.length = ar ∧ CL F as μ1 k) (hg : ∀ i, Gl (Xs i) x := by exact fun _ => rfl) (hdb : (x == ("__debug__" : Str)) = false := by decide)
    (he : ∀ i, starEach (a :: es) (Xs i).env = (false, eval a (Xs i).env) :: starEach es (Xs i).env := by intro _; rfl) (hpl : ∀ i, (backTo pos (starEach es (Xs i).env)).any (·.1) = false := by intro _; rfl) : SE Xs c.K (.Call (.Name x xp) (a :: es) [] pos) δ μ k := by
  obtain ⟨f, fd, ps, G, hm, kp, bd⟩ := cl.ex
  refine ⟨fun en τ σ τv H Q q hkk => ⟨tCall (spOf c.K F ar) [] E0 (wA Xs (a :: es)), fun i => ?_, ?_⟩⟩
  · have G' : FnOk (Xs i).prog (Xs i).w (Xs i).K (Xs i).mg (Xs i).base CX0 kf f fd ps (spOf c.K F ar) := by
      rw [ck.prog i, ck.w i, ck.K i, ck.mg i, ck.base i]; exact G
    exact pe_call G' ((ck.room i).mono hk) (hg i) (by rw [ck.mg i]; exact hm) (by rw [ck.K i]; exact kp) (by rw [ck.K i]; exact bd) .nil pass0 (wA_ok i) hdb (he i) (hpl i)
  · refine h.run en τ σ τv H _ q fun as μ1 vs H1 ha hl q1 => ?_
    show spOf c.K F ar (vs ++ []) H1 Q E0
    rw [List.append_nil]
    exact call_run hl ha.1 q1 ha.2 hkk
theorem se_call0 {F : Ct} {kf : Nat} {xp : Pos} (ck : COk c kk N Xs) (cl : Callee c x kf 0 F) (hk : kf ≤ kk) (h : CL F [] μ k) (hg : ∀ i, Gl (Xs i) x := by exact fun _ => rfl) (hdb : (x == ("__debug__" : Str)) = false := by decide) : SE Xs c.K (.Call (.Name x xp) [] [] pos) δ μ k := by
  obtain ⟨f, fd, ps, G, hm, kp, bd⟩ := cl.ex
  refine ⟨fun en τ σ τv H Q q hkk => ⟨tCall (spOf c.K F 0) [] E0 tNil, fun i => ?_, ?_⟩⟩
  · have G' : FnOk (Xs i).prog (Xs i).w (Xs i).K (Xs i).mg (Xs i).base CX0 kf f fd ps (spOf c.K F 0) := by
      rw [ck.prog i, ck.w i, ck.K i, ck.mg i, ck.base i]; exact G
    exact pe_call0 G' ((ck.room i).mono hk) (hg i) (by rw [ck.mg i]; exact hm) (by rw [ck.K i]; exact kp) (by rw [ck.K i]; exact bd) .nil pass0 hdb
  · exact call_run (as := []) (vs := []) (EX := E0) rfl rfl q h hkk

/-! ### a def by its body -/
/-- what a def's end wants, locals dropped -/
def retOf (n : Nat) (post : AV → List M → Prop) : AV → List M → Prop := fun a μ => match a with
  | .im d => post (.im d) (μ.take n)
  | .own j => if j < n then post (.own j) (μ.take n) else ∃ m, μ[j]? = some m ∧ post (.own n) (μ.take n ++ [m])
abbrev bodyX (c : Cfg) (N : List Str) (x : Str) (st : Stmt) (f : Addr) (cdv : Value) (A : Around) (outer : List Env) (s : Shared) (H : Hp) (EX : XK) : Unit → Cx := fun _ => (cxOf CX0 c.P c.w c.K c.mg c.base N x (defScope st) f cdv A outer s H EX).nox
def startA (N : List Str) (as : List AV) : List (Option AV) := as.map some ++ List.replicate (N.length - as.length) none
def endsOf (n : Nat) (post : AV → List M → Prop) : AE := { zl := n, nx := fun _ μ => retOf n post (.im .non) μ, rt := retOf n post }
theorem Disj.take {fps : List (List Addr)} (h : Disj fps) (n : Nat) : Disj (fps.take n) := fun i j fp fp' h1 h2 => by
  have lt : ∀ (i : Nat) (fp : List Addr), (fps.take n)[i]? = some fp → fps[i]? = some fp := fun i fp q => by
    rw [List.getElem?_take] at q
    split at q
    · exact q
    · cases q
  exact h i j fp fp' (lt i fp h1) (lt j fp' h2)
theorem Disj.snoc {fps : List (List Addr)} (h : Disj fps) {j n : Nat} {fp0 : List Addr} (hj : fps[j]? = some fp0) (hn : n ≤ j) : Disj (fps.take n ++ [fp0]) := by
  have hjl : j < fps.length := (List.getElem?_eq_some_iff.mp hj).1
  have hlen : (fps.take n).length = n := by rw [List.length_take]; omega
  have lt : ∀ (i : Nat) (fp : List Addr), (fps.take n ++ [fp0])[i]? = some fp → (i < n ∧ fps[i]? = some fp) ∨ (i = n ∧ fp = fp0) := fun i fp q => by
    by_cases hi : i < n
    · rw [List.getElem?_append_left (by omega), List.getElem?_take_of_lt hi] at q
      exact .inl ⟨hi, q⟩
    · rw [List.getElem?_append_right (by omega), hlen] at q
      have e : i - n = 0 := by
        by_cases z : i - n = 0
        · exact z
        · rw [List.getElem?_eq_none (by simp; omega)] at q; cases q
      rw [e] at q
      exact .inr ⟨by omega, (Option.some.inj q).symm⟩
  intro i k fp fp' h1 h2 hne b hb hb'
  rcases lt i fp h1 with ⟨a1, a2⟩ | ⟨a1, a2⟩
  · rcases lt k fp' h2 with ⟨b1, b2⟩ | ⟨b1, b2⟩
    · exact h i k fp fp' a2 b2 hne b hb hb'
    · subst b2; exact h i j fp _ a2 hj (by omega) b hb hb'
  · rcases lt k fp' h2 with ⟨b1, b2⟩ | ⟨b1, b2⟩
    · subst a2; exact h j k _ fp' hj b2 (by omega) b hb hb'
    · omega
theorem back_of {K : PySem.W.Frag} {H : Hp} {sel : List (List Addr)} {a : AV} {v : V} {H' : Hp} {post : AV → List M → Prop} (hr : retOf sel.length post a μ) (q : Holds K ⟨H, sel.flatten, sel.map List.head?⟩ [] [a] μ [] [v] H') : ∃ a' μ', post a' μ' ∧ Back K H sel a' μ' v H' := by
  obtain ⟨fps, q⟩ := q
  have fr : ∀ b o, (∀ fp ∈ sel, b ∉ fp) → H b = some o → H' b = some o := fun b o hb e => q.fr b o (fun z => by
    obtain ⟨fp, h1, h2⟩ := List.mem_flatten.mp z
    exact hb fp h1 h2) e
  have nw : ∀ fp ∈ fps, ∀ b ∈ fp, (∃ s ∈ sel, b ∈ s) ∨ H b = none := fun fp hfp b hb => by
    rcases q.nw fp hfp b hb with z | z
    · exact .inl (List.mem_flatten.mp z)
    · exact .inr z
  have hd : (fps.take sel.length).map List.head? = sel.map List.head? := by
    have h1 := q.hd
    simp only [List.length_map] at h1
    exact h1
  have av : AVR K H' fps a v := by cases q.tm with | cons r t => exact r
  have hlt : sel.length ≤ fps.length := by
    have := congrArg List.length hd
    rw [List.length_map, List.length_take, List.length_map] at this
    omega
  have cut : ∀ a', AVR K H' (fps.take sel.length) a' v → Back K H sel a' (μ.take sel.length) v H' := fun a' r =>
    ⟨fps.take sel.length, pd_take _ q.mu, q.dj.take _, r, fr, fun fp hfp b hb => nw fp (List.mem_of_mem_take hfp) b hb, by rw [List.take_take, Nat.min_self]; exact hd⟩
  cases a with
  | im d => exact ⟨.im d, _, hr, cut _ av⟩
  | own j =>
    obtain ⟨p, r, e1, rfl⟩ := av
    have hr : if j < sel.length then post (.own j) (μ.take sel.length) else ∃ m, μ[j]? = some m ∧ post (.own sel.length) (μ.take sel.length ++ [m]) := hr
    by_cases hj : j < sel.length
    · rw [if_pos hj] at hr
      exact ⟨_, _, hr, cut (.own j) ⟨p, r, by rw [List.getElem?_take_of_lt hj]; exact e1, rfl⟩⟩
    · rw [if_neg hj] at hr
      obtain ⟨m, hm, hp⟩ := hr
      obtain ⟨fp, e2, mr⟩ := pd_get q.mu hm
      rw [e1] at e2; cases e2
      refine ⟨_, _, hp, fps.take sel.length ++ [p :: r], pd_append (pd_take _ q.mu) (.cons mr .nil), q.dj.snoc e1 (by omega), ⟨p, r, ?_, rfl⟩, fr, fun fp hfp b hb => ?_, ?_⟩
      · rw [List.getElem?_append_right (by rw [List.length_take]; omega), List.length_take, Nat.min_eq_left hlt, Nat.sub_self]; rfl
      · rcases List.mem_append.mp hfp with z | z
        · exact nw fp (List.mem_of_mem_take z) b hb
        · have e3 : fp = p :: r := by simpa using z
          subst e3
          exact nw _ (List.mem_of_getElem? e1) b hb
      · rw [List.take_append_of_le_length (by rw [List.length_take]; omega), List.take_take, Nat.min_self]; exact hd
theorem startA_holds {K : PySem.W.Frag} {H : Hp} {N : List Str} {as : List AV} {vs : List V} {sel : List (List Addr)} (hm : Paired (MRep K H) μ sel) (hd : Disj sel) (ha : Paired (AVR K H sel) as vs) :
    Holds K ⟨H, sel.flatten, sel.map List.head?⟩ (startA N as) [] μ (L2.start N vs) [] H := by
  refine ⟨sel, hm, hd, ?_, .nil, fun _ _ _ e => e, fun fp hfp b hb => .inl (List.mem_flatten.mpr ⟨fp, hfp, hb⟩), ?_⟩
  · unfold startA L2.start
    have hl := ha.length
    rw [hl]
    refine pd_append ?_ ?_
    · have gen : ∀ {as : List AV} {vs : List V}, Paired (AVR K H sel) as vs → Paired (SlR K H sel) (as.map some) (vs.map some) := by
        intro as
        induction as with
        | nil => intro vs h; cases h; exact .nil
        | cons a l ih => intro vs h; cases h with | cons r t => exact .cons r (ih t)
      exact gen ha
    · have gen : ∀ n : Nat, Paired (SlR K H sel) (List.replicate n none) (List.replicate n none) := by
        intro n
        induction n with
        | zero => exact .nil
        | succ n ih => exact .cons True.intro ih
      exact gen _
  · rw [List.length_map, List.take_length]
theorem fn_abs {f : Addr} {fd : FuncData} {ps : List Str} {kf : Nat} {F : Ct} (Fn : Fun c.K x x st f fd) (S : FnScope N ps (defScope st)) (har : ∀ as μ post, F as μ post → as.length = ps.length)
    (hb : ∀ (cdv : Value) (A : Around) (outer : List Env) (s : Shared) (H : Hp) (EX : XK) (as : List AV) (μ : List M) (post : AV → List M → Prop), F as μ post → COk c kf N (bodyX c N x st f cdv A outer s H EX) →
      SS (bodyX c N x st f cdv A outer s H EX) c.K (defBody st) (startA N as) μ (endsOf μ.length post)) : FnOk c.P c.w c.K c.mg c.base CX0 (kf + 1) f fd ps (spOf c.K F ps.length) := by
  refine Fn.ok S (fun vs H Q EX h => h.1) (fun cdv A outer s H vs Q EX hr h => ?_)
  obtain ⟨hl, as, μ, sel, post, hF, hm, hd, ha, hq⟩ := h
  have ck : COk c kf N (bodyX c N x st f cdv A outer s H EX) := ⟨fun _ => rfl, fun _ => rfl, fun _ => rfl, fun _ => rfl, fun _ => rfl, fun _ => hr, fun _ => rfl, fun _ => rfl, S.nd, fun _ => rfl⟩
  have hml : μ.length = sel.length := hm.length
  refine ⟨wSs (bodyX c N x st f cdv A outer s H EX) (defBody st), wSs_ok (Xs := bodyX c N x st f cdv A outer s H EX) (), ?_⟩
  refine (hb cdv A outer s H EX as μ post hF ck).run ⟨H, sel.flatten, sel.map List.head?⟩ [] (L2.start N vs) [] H _ (startA_holds hm hd ha) ⟨fun δ' μ' σ' H' hn q => ?_, fun a μ' v H' hr q => ?_, fun _ _ _ _ h _ => h, fun _ _ _ _ h _ => h, ⟨by rw [List.length_map, hm.length]; exact Nat.le_refl _, fun _ h => by cases h⟩⟩
  · have hn : retOf sel.length post (.im .non) μ' := by rw [← hml]; exact hn
    obtain ⟨a', μ'', hp, bk⟩ := back_of hn (q.push (rep_non.mpr rfl)).ret
    exact hq a' μ'' _ _ hp bk
  · have hr : retOf sel.length post a μ' := by rw [← hml]; exact hr
    obtain ⟨a', μ'', hp, bk⟩ := back_of hr q
    exact hq a' μ'' _ _ hp bk
end
end AL
namespace AL
open PySem PySem.Spec PyProof.Rows L2

section
variable {ι : Type} {Xs : ι → Cx} {c : Cfg} {kk : Nat} {N : List Str} {δ : List (Option AV)} {μ : List M} {k : AV → List M → Prop} {kb : Bool → List M → Prop} {ka : List AV → List M → Prop} {E : AE} {e a b cc : Expr} {es : List Expr} {pos pos' p : Pos} {x y z : Str} {i j : Int}

/-! ### operators -/
theorem op_I {f : Value → Value → Sem Value} {C : Int → Int → Prop} {g : Int → Int → V} {d : D} (ho : ∀ ii, OpR (Xs ii) f (rI C g)) (hc : C i j) (hr : ∀ H, Rep c.K H d (g i j)) (h : k (.im d) μ) : OP Xs c.K f (.im (.int i)) (.im (.int j)) μ k :=
  ⟨fun en δ τ σ τv H vx vy Q q hk => ⟨_, ho, i, j, rep_int.mp q.top2, rep_int.mp q.top, hc, hk _ _ _ _ h (q.pop.pop.push (hr H))⟩⟩
theorem op_I0 {f : Value → Value → Sem Value} {g : Int → Int → V} {d : D} (ho : ∀ ii, OpR (Xs ii) f (rI0 g)) (hr : ∀ H, Rep c.K H d (g i j)) (h : k (.im d) μ) : OP Xs c.K f (.im (.int i)) (.im (.int j)) μ k :=
  ⟨fun en δ τ σ τv H vx vy Q q hk => ⟨_, ho, i, j, rep_int.mp q.top2, rep_int.mp q.top, hk _ _ _ _ h (q.pop.pop.push (hr H))⟩⟩
theorem op_addI (h : k (.im (.int (i + j))) μ) : OP Xs c.K (binaryOp .Add) (.im (.int i)) (.im (.int j)) μ k := op_I0 (fun _ => op_add) (fun _ => rep_int.mpr rfl) h
theorem op_subI (h : k (.im (.int (i - j))) μ) : OP Xs c.K (binaryOp .Sub) (.im (.int i)) (.im (.int j)) μ k := op_I0 (fun _ => op_sub) (fun _ => rep_int.mpr rfl) h
theorem op_mulI (hc : CMul i j) (h : k (.im (.int (i * j))) μ) : OP Xs c.K (binaryOp .Mult) (.im (.int i)) (.im (.int j)) μ k := op_I (fun _ => op_mul) hc (fun _ => rep_int.mpr rfl) h
theorem op_mulXI (hc : CMulX i j) (h : k (.im (.int (i * j))) μ) : OP Xs c.K (binaryOp .Mult) (.im (.int i)) (.im (.int j)) μ k := op_I (fun _ => op_mulX) hc (fun _ => rep_int.mpr rfl) h
theorem op_divI (hc : CDiv i j) (h : k (.im (.int (i / j))) μ) : OP Xs c.K (binaryOp .FloorDiv) (.im (.int i)) (.im (.int j)) μ k := op_I (fun _ => op_fdiv) hc (fun _ => rep_int.mpr rfl) h
theorem op_divWI (hc : CDivW i j) (h : k (.im (.int (i / j))) μ) : OP Xs c.K (binaryOp .FloorDiv) (.im (.int i)) (.im (.int j)) μ k := op_I (fun _ => op_fdivW) hc (fun _ => rep_int.mpr rfl) h
theorem op_modI (hc : 0 < j) (h : k (.im (.int (i % j))) μ) : OP Xs c.K (binaryOp .Mod) (.im (.int i)) (.im (.int j)) μ k := op_I (fun _ => op_mod) hc (fun _ => rep_int.mpr rfl) h
theorem op_powI (hc : CPow i j) (h : k (.im (.int (i ^ j.toNat))) μ) : OP Xs c.K (binaryOp .Pow) (.im (.int i)) (.im (.int j)) μ k := op_I (fun _ => op_pow) hc (fun _ => rep_int.mpr rfl) h
theorem op_shlI (hc : CShl i j) (h : k (.im (.int (i * 2 ^ j.toNat))) μ) : OP Xs c.K (binaryOp .LShift) (.im (.int i)) (.im (.int j)) μ k := op_I (fun _ => op_shlW) hc (fun _ => rep_int.mpr rfl) h
theorem op_xorI (h : k (.im (.int (Builtin.bitXor i j))) μ) : OP Xs c.K (binaryOp .BitXor) (.im (.int i)) (.im (.int j)) μ k := op_I0 (fun _ => op_xor) (fun _ => rep_int.mpr rfl) h
theorem op_ltI (h : k (.im (.bl (decide (i < j)))) μ) : OP Xs c.K (compareOp .Lt) (.im (.int i)) (.im (.int j)) μ k := op_I0 (fun _ => op_lt) (fun _ => rep_bl.mpr rfl) h
theorem op_leI (h : k (.im (.bl (decide (i ≤ j)))) μ) : OP Xs c.K (compareOp .LtE) (.im (.int i)) (.im (.int j)) μ k := op_I0 (fun _ => op_le) (fun _ => rep_bl.mpr rfl) h
theorem op_gtI (h : k (.im (.bl (decide (j < i)))) μ) : OP Xs c.K (compareOp .Gt) (.im (.int i)) (.im (.int j)) μ k := op_I0 (fun _ => op_gt) (fun _ => rep_bl.mpr rfl) h
theorem op_geI (h : k (.im (.bl (decide (j ≤ i)))) μ) : OP Xs c.K (compareOp .GtE) (.im (.int i)) (.im (.int j)) μ k := op_I0 (fun _ => op_ge) (fun _ => rep_bl.mpr rfl) h
/-- == of scalars -/
def scV : D → Option V
  | .non => some .non
  | .bl b => some (.bl b)
  | .int i => some (.int i)
  | .str x => some (.str x)
  | _ => none
theorem scV_rep {K : PySem.W.Frag} {H : Hp} {d : D} {v w : V} (h : scV d = some w) (r : Rep K H d v) : v = w := by
  cases d with
  | non => cases h; exact rep_non.mp r
  | bl b => cases h; exact rep_bl.mp r
  | int b => cases h; exact rep_int.mp r
  | str b => cases h; exact rep_str.mp r
  | _ => cases h
theorem op_eqS {d1 d2 : D} {v1 v2 : V} (h1 : scV d1 = some v1) (h2 : scV d2 = some v2) (hs : scal v1 v2 = true) {r : Bool} (hr : decide (v1 = v2) = r) (h : k (.im (.bl r)) μ) : OP Xs c.K (compareOp .Eq) (.im d1) (.im d2) μ k := by
  refine ⟨fun en δ τ σ τv H vx vy Q q hk => ⟨rEq, fun _ => op_eq, ?_⟩⟩
  obtain rfl := scV_rep h1 q.top2
  obtain rfl := scV_rep h2 q.top
  exact ⟨hs, hk _ _ _ _ h (q.pop.pop.push (by rw [hr]; exact rep_bl.mpr rfl))⟩
theorem op_neS {d1 d2 : D} {v1 v2 : V} (h1 : scV d1 = some v1) (h2 : scV d2 = some v2) (hs : scal v1 v2 = true) {r : Bool} (hr : (!decide (v1 = v2)) = r) (h : k (.im (.bl r)) μ) : OP Xs c.K (compareOp .NotEq) (.im d1) (.im d2) μ k := by
  refine ⟨fun en δ τ σ τv H vx vy Q q hk => ⟨rNe, fun _ => op_ne, ?_⟩⟩
  obtain rfl := scV_rep h1 q.top2
  obtain rfl := scV_rep h2 q.top
  exact ⟨hs, hk _ _ _ _ h (q.pop.pop.push (by rw [hr]; exact rep_bl.mpr rfl))⟩
theorem dec_vint {i j : Int} : decide (V.int i = V.int j) = decide (i = j) := by
  by_cases h : i = j
  · subst h; simp
  · rw [decide_eq_false h, decide_eq_false (fun z => h (V.int.inj z))]
theorem dec_vbl {i j : Bool} : decide (V.bl i = V.bl j) = decide (i = j) := by
  by_cases h : i = j
  · subst h; simp
  · rw [decide_eq_false h, decide_eq_false (fun z => h (V.bl.inj z))]
theorem dec_vstr {i j : Str} : decide (V.str i = V.str j) = decide (i = j) := by
  by_cases h : i = j
  · subst h; simp
  · rw [decide_eq_false h, decide_eq_false (fun z => h (V.str.inj z))]
theorem op_eqI (h : k (.im (.bl (decide (i = j)))) μ) : OP Xs c.K (compareOp .Eq) (.im (.int i)) (.im (.int j)) μ k := op_eqS rfl rfl rfl dec_vint h
theorem op_neI (h : k (.im (.bl (!decide (i = j)))) μ) : OP Xs c.K (compareOp .NotEq) (.im (.int i)) (.im (.int j)) μ k := op_neS rfl rfl rfl (by rw [dec_vint]) h
theorem op_eqB {b1 b2 : Bool} (h : k (.im (.bl (decide (b1 = b2)))) μ) : OP Xs c.K (compareOp .Eq) (.im (.bl b1)) (.im (.bl b2)) μ k := op_eqS rfl rfl rfl dec_vbl h
theorem op_eqT {b1 b2 : Str} (h : k (.im (.bl (decide (b1 = b2)))) μ) : OP Xs c.K (compareOp .Eq) (.im (.str b1)) (.im (.str b2)) μ k := op_eqS rfl rfl rfl dec_vstr h
/-- is None -/
def isNon : AV → Bool
  | .im .non => true
  | _ => false
theorem avr_non {K : PySem.W.Frag} {H : Hp} {fps : List (List Addr)} {w : AV} {v : V} (r : AVR K H fps w v) : decide (v = .non) = isNon w := by
  cases w with
  | own k => obtain ⟨a, r, _, rfl⟩ := r; rfl
  | im d =>
    have r : Rep K H d v := r
    cases d with
    | non => rw [rep_non.mp r]; rfl
    | bl b => rw [rep_bl.mp r]; rfl
    | int b => rw [rep_int.mp r]; rfl
    | str b => rw [rep_str.mp r]; rfl
    | ty b => rw [rep_ty.mp r]; rfl
    | adr b => rw [rep_adr.mp r]; rfl
    | tk ks => obtain ⟨a, rfl, _⟩ := rep_tk.mp r; rfl
    | tup ds => obtain ⟨a, vs, rfl, _⟩ := rep_tup.mp r; rfl
    | fl ds => obtain ⟨a, vs, rfl, _⟩ := rep_fl.mp r; rfl
theorem op_isNone {w : AV} (h : k (.im (.bl (isNon w))) μ) : OP Xs c.K (compareOp .Is) w (.im .non) μ k := by
  refine ⟨fun en δ τ σ τv H vx vy Q q hk => ⟨_, fun _ => op_isN, rep_non.mp q.top, ?_⟩⟩
  obtain ⟨fps, q1⟩ := q.pop
  cases q1.tm with
  | cons r t => rw [avr_non r]; exact hk _ _ _ _ h (q.pop.pop.push (rep_bl.mpr rfl))
theorem op_isNotNone {w : AV} (h : k (.im (.bl (!isNon w))) μ) : OP Xs c.K (compareOp .IsNot) w (.im .non) μ k := by
  refine ⟨fun en δ τ σ τv H vx vy Q q hk => ⟨_, fun _ => op_notN, rep_non.mp q.top, ?_⟩⟩
  obtain ⟨fps, q1⟩ := q.pop
  cases q1.tm with
  | cons r t => rw [avr_non r]; exact hk _ _ _ _ h (q.pop.pop.push (rep_bl.mpr rfl))

/-! ### == of data at any depth -/
mutual
def D.py : D → PyData
  | .non => .none
  | .bl b => .bool b
  | .int i => .int i
  | .str x => .str x
  | .tup ds => .tuple (pys ds)
  | .fl ds => .list (pys ds)
  | .ty _ => .dict []
  | .adr _ => .dict []
  | .tk _ => .dict []
def pys : List D → List PyData
  | [] => []
  | d :: ds => D.py d :: pys ds
end
mutual
def D.plain : D → Bool
  | .ty _ => false
  | .adr _ => false
  | .tk _ => false
  | .tup ds => plains ds
  | .fl ds => plains ds
  | _ => true
def plains : List D → Bool
  | [] => true
  | d :: ds => D.plain d && plains ds
end
mutual
theorem dp_of {K : PySem.W.Frag} {H : Hp} : ∀ (d : D) (v : V), d.plain = true → Rep K H d v → Dp K H v d.py
  | .non, v, _, r => by rw [rep_non.mp r, D.py]; exact .non
  | .bl b, v, _, r => by rw [rep_bl.mp r, D.py]; exact .bl b
  | .int b, v, _, r => by rw [rep_int.mp r, D.py]; exact .int b
  | .str b, v, _, r => by rw [rep_str.mp r, D.py]; exact .str b
  | .tup ds, v, p, r => by
    obtain ⟨a, vs, rfl, q, rs⟩ := rep_tup.mp r
    rw [D.plain] at p
    rw [D.py]
    exact .tup q (dps_of ds vs p rs)
  | .fl ds, v, p, r => by
    obtain ⟨a, vs, rfl, q, rs⟩ := rep_fl.mp r
    rw [D.plain] at p
    rw [D.py]
    exact .lst q.sql (dps_of ds vs p rs)
  | .ty _, v, p, r => by rw [D.plain] at p; cases p
  | .adr _, v, p, r => by rw [D.plain] at p; cases p
  | .tk _, v, p, r => by rw [D.plain] at p; cases p
theorem dps_of {K : PySem.W.Frag} {H : Hp} : ∀ (ds : List D) (vs : List V), plains ds = true → Reps K H ds vs → DpAll K H vs (pys ds)
  | [], vs, _, r => by rw [reps_nil.mp r, pys]; exact .nil
  | d :: ds, vs, p, r => by
    obtain ⟨v, r', rfl, h1, h2⟩ := reps_cons.mp r
    rw [plains, Bool.and_eq_true] at p
    rw [pys]
    exact .cons (dp_of d v p.1 h1) (dps_of ds r' p.2 h2)
end
/-- a value as data: what it is now -/
def pyOf (μ : List M) : AV → Option PyData
  | .im d => if d.plain then some d.py else none
  | .own k => match μ[k]? with
    | some (.lst ds) => if plains ds then some (.list (pys ds)) else none
    | _ => none
theorem dp_av {K : PySem.W.Frag} {en : Ent} {τ : List AV} {σ : L2.St} {τv : List V} {H : Hp} {w : AV} {v : V} {d : PyData} (h : pyOf μ w = some d) (q : Holds K en δ (w :: τ) μ σ (v :: τv) H) : Dp K H v d := by
  cases w with
  | im d' =>
    have h : (if d'.plain then some d'.py else none) = some d := h
    cases hp : d'.plain with
    | false => rw [hp] at h; cases h
    | true => rw [hp] at h; cases h; exact dp_of d' v hp q.top
  | own j =>
    have h : (match μ[j]? with | some (.lst ds) => if plains ds then some (.list (pys ds)) else none | _ => none) = some d := h
    cases hj : μ[j]? with
    | none => rw [hj] at h; cases h
    | some m =>
      cases m with
      | lst ds =>
        rw [hj] at h
        have h : (if plains ds then some (PyData.list (pys ds)) else none) = some d := h
        cases hp : plains ds with
        | false => rw [hp] at h; cases h
        | true =>
          rw [hp] at h; cases h
          obtain ⟨p, vs, rfl, h1, h2⟩ := q.own_lst hj
          exact .lst (.inl (.inl h1)) (dps_of ds vs hp h2)
      | dK _ => rw [hj] at h; cases h
      | dT _ => rw [hj] at h; cases h
      | drw _ => rw [hj] at h; cases h
      | lsA _ _ => rw [hj] at h; cases h
theorem op_eqG {w1 w2 : AV} {d1 d2 : PyData} (ck : COk c kk N Xs) (h1 : pyOf μ w1 = some d1) (h2 : pyOf μ w2 = some d2) (s1 : SeqAt.shaped d1 = true) (s2 : SeqAt.shaped d2 = true) {r : Bool} (hr : PyData.eqv d1 d2 = r) (h : k (.im (.bl r)) μ) : OP Xs c.K (compareOp .Eq) w1 w2 μ k :=
  ⟨fun en δ τ σ τv H vx vy Q q hk => ⟨rEqD c.K, fun i => by rw [← ck.K i]; exact op_eqD (ck.hu64 i), d1, d2, dp_av h1 q.pop, dp_av h2 q, s1, s2, hk _ _ _ _ h (q.pop.pop.push (by rw [hr]; exact rep_bl.mpr rfl))⟩⟩
theorem op_neG {w1 w2 : AV} {d1 d2 : PyData} (ck : COk c kk N Xs) (h1 : pyOf μ w1 = some d1) (h2 : pyOf μ w2 = some d2) (s1 : SeqAt.shaped d1 = true) (s2 : SeqAt.shaped d2 = true) {r : Bool} (hr : (!PyData.eqv d1 d2) = r) (h : k (.im (.bl r)) μ) : OP Xs c.K (compareOp .NotEq) w1 w2 μ k :=
  ⟨fun en δ τ σ τv H vx vy Q q hk => ⟨rNeD c.K, fun i => by rw [← ck.K i]; exact op_neD (ck.hu64 i), d1, d2, dp_av h1 q.pop, dp_av h2 q, s1, s2, hk _ _ _ _ h (q.pop.pop.push (by rw [hr]; exact rep_bl.mpr rfl))⟩⟩
end
end AL
namespace AL
open PySem PySem.Spec PyProof.Rows L2

/-! ### tables of data -/
section
variable {κ : Type} [DecidableEq κ]
def valD (kvs : List (κ × D)) (k : κ) : Option D := (kvs.find? fun kv => decide (kv.1 = k)).map (·.2)
def putD (kvs : List (κ × D)) (k : κ) (v : D) : List (κ × D) :=
  if (kvs.any fun q => decide (q.1 = k)) = true then kvs.map (fun q => if q.1 = k then (q.1, v) else q) else kvs ++ [(k, v)]
theorem krep_val {K : PySem.W.Frag} {H : Hp} {k : κ} : ∀ {ks : List (κ × D)} {ws : List (κ × V)}, KRep K H ks ws → (∀ d, valD ks k = some d → ∃ v, valV ws k = some v ∧ Rep K H d v) ∧ (valD ks k = none → valV ws k = none)
  | [], _, .nil => ⟨(fun _ h => by cases h), (fun _ => rfl)⟩
  | p :: ks, q :: ws, .cons r t => by
    obtain ⟨i1, i2⟩ := krep_val (k := k) t
    unfold valD valV
    rw [List.find?_cons, List.find?_cons, ← r.1]
    by_cases h : p.1 = k
    · rw [decide_eq_true h]
      exact ⟨(fun d e => ⟨q.2, rfl, by cases e; exact r.2⟩), (fun e => by cases e)⟩
    · rw [decide_eq_false h]
      exact ⟨i1, i2⟩
theorem krep_any {K : PySem.W.Frag} {H : Hp} {k : κ} : ∀ {ks : List (κ × D)} {ws : List (κ × V)}, KRep K H ks ws → (ks.any fun kv => decide (kv.1 = k)) = (ws.any fun kv => decide (kv.1 = k))
  | [], _, .nil => rfl
  | p :: ks, q :: ws, .cons r t => by rw [List.any_cons, List.any_cons, ← r.1, krep_any t]
theorem krep_put {K : PySem.W.Frag} {H : Hp} {k : κ} {d : D} {v : V} (rv : Rep K H d v) {ks : List (κ × D)} {ws : List (κ × V)} (h : KRep K H ks ws) : KRep K H (putD ks k d) (putK ws k v) := by
  unfold putD putK
  rw [krep_any h]
  split
  · have gen : ∀ {ks : List (κ × D)} {ws : List (κ × V)}, KRep K H ks ws → KRep K H (ks.map fun kv => if kv.1 = k then (kv.1, d) else kv) (ws.map fun kv => if kv.1 = k then (kv.1, v) else kv) := by
      intro ks
      induction ks with
      | nil => intro ws h; cases h; exact .nil
      | cons p l ih =>
        intro ws h
        cases h with
        | cons r t =>
          refine .cons ?_ (ih t)
          rename_i q _
          show (if p.1 = k then (p.1, d) else p).1 = (if q.1 = k then (q.1, v) else q).1 ∧ Rep K H (if p.1 = k then (p.1, d) else p).2 (if q.1 = k then (q.1, v) else q).2
          rw [← r.1]
          split
          · exact ⟨rfl, rv⟩
          · exact r
    exact gen h
  · exact pd_append h (.cons ⟨rfl, rv⟩ .nil)
theorem krep_len {K : PySem.W.Frag} {H : Hp} {ks : List (κ × D)} {ws : List (κ × V)} (h : KRep K H ks ws) : ks.length = ws.length := Paired.length h
end
def kD : Key → D
  | .inl i => .int i
  | .inr x => .str x
theorem rep_kD {K : PySem.W.Frag} {H : Hp} {key : Key} {v : V} : Rep K H (kD key) v ↔ v = kV key := by
  cases key with
  | inl i => exact rep_int
  | inr x => exact rep_str

/-- a subscript by a dict -/
theorem ix_dict {X : Cx} (hu : X.A.units + 1 < cLine) : IxR X (fun x y H Q => ∃ a v, x = .ref a ∧ DGet H a y (some v) ∧ Q v H) := by
  intro value slice pins s σ H x y v u Q I rx ry h hs
  obtain ⟨a, w, rfl, g, q⟩ := h
  obtain rfl : v = Value.ref a := rx
  exact tail_any (dict_typeIs I g) PySem.F.slot_dict_getitem.lookup (d_getItem hu I g ry fun w' s3 I3 rw' => ⟨w, H, I3, rw', q⟩) hs
theorem op_inDict {X : Cx} (hu : X.A.units + 1 < cLine) : OpR X (compareOp .In) (fun y x H Q => ∃ a o, x = .ref a ∧ DGet H a y o ∧ Q (.bl o.isSome) H) := by
  intro pins s σ H y x u v Q I ry rx h
  obtain ⟨a, o, rfl, g, q⟩ := h
  obtain rfl : v = Value.ref a := rx
  exact d_in hu I g ry fun s3 I3 => ⟨.bl o.isSome, H, I3, rfl, q⟩
theorem op_notInDict {X : Cx} (hu : X.A.units + 1 < cLine) : OpR X (compareOp .NotIn) (fun y x H Q => ∃ a o, x = .ref a ∧ DGet H a y o ∧ Q (.bl (!o.isSome)) H) := by
  intro pins s σ H y x u v Q I ry rx h
  obtain ⟨a, o, rfl, g, q⟩ := h
  obtain rfl : v = Value.ref a := rx
  exact d_notIn hu I g ry fun s3 I3 => ⟨.bl (!o.isSome), H, I3, rfl, q⟩
theorem set_dict {X : Cx} (hu : X.A.units + 1 < cLine) : PSet X (fun o i v H Q => ∃ a H', o = .ref a ∧ DPut H a i v H' ∧ Q H') := by
  intro pins s σ H o i v ov iv u Q I ro ri rv h
  obtain ⟨a, H', rfl, g, q⟩ := h
  obtain rfl : ov = Value.ref a := ro
  exact d_setItem hu I g ri rv fun s4 I4 => ⟨H', I4, q⟩

section
variable {ι : Type} {Xs : ι → Cx} {c : Cfg} {kk : Nat} {N : List Str} {δ : List (Option AV)} {μ : List M} {k : AV → List M → Prop} {kb : Bool → List M → Prop} {ka : List AV → List M → Prop} {E : AE} {e a b cc : Expr} {es : List Expr} {pos pos' p p2 : Pos} {x y z : Str} {i j : Int} {jo : Nat}

/-! ### subscripts -/
structure IX {ι : Type} (Xs : ι → Cx) (K : PySem.W.Frag) (x y : AV) (μ : List M) (k : AV → List M → Prop) : Prop where
  run : ∀ (en : Ent) (δ : List (Option AV)) (τ : List AV) (σ : L2.St) (τv : List V) (H : Hp) (vx vy : V) (Q : VK), Holds K en δ (y :: x :: τ) μ σ (vy :: vx :: τv) H →
    (∀ a μ' v H', k a μ' → Holds K en δ (a :: τ) μ' σ (v :: τv) H' → Q v H') → ∃ r : R2, (∀ i, IxR (Xs i) r) ∧ r vx vy H Q
theorem se_ix (h : SE Xs c.K a δ μ fun x μ1 => SE Xs c.K b δ μ1 fun y μ2 => IX Xs c.K x y μ2 k) (hs : PlainIx b := by exact fun _ _ => rfl) : SE Xs c.K (.Subscript a b pos) δ μ k := by
  refine ⟨fun en τ σ τv H Q q hk => ⟨tOp (fun x y H Q => ∃ r : R2, (∀ i, IxR (Xs i) r) ∧ r x y H Q) (wE Xs a) (wE Xs b), fun i => pe_ix (fun value slice pins s σ H x y v u Q I rx ry ⟨r, h1, h2⟩ hs => h1 i value slice pins s σ H x y v u Q I rx ry h2 hs) (wE_ok i) (wE_ok i) hs, ?_⟩⟩
  refine h.run en τ σ τv H _ q fun x μ1 vx H1 hx q1 => ?_
  refine hx.run en (x :: τ) σ (vx :: τv) H1 _ q1 fun y μ2 vy H2 hy q2 => ?_
  exact hy.run en δ τ σ τv H2 vx vy Q q2 hk
theorem atI_reps {K : PySem.W.Frag} {H : Hp} {ds : List D} {vs : List V} {n : Int} {d : D} (hr : Reps K H ds vs) (h : atI ds n = some d) : ∃ v, atI vs n = some v ∧ Rep K H d v := by
  unfold atI at h ⊢
  rw [hr.length] at h
  cases e : ixN vs.length n with
  | none => rw [e] at h; cases h
  | some t =>
    rw [e] at h
    obtain ⟨v, h1, h2⟩ := pd_get (reps_iff.mp hr) (show ds[t]? = some d from h)
    exact ⟨v, h1, h2⟩
theorem ix_tupA {ds : List D} {d : D} (ck : COk c kk N Xs) (hd : atI ds i = some d) (h : k (.im d) μ) : IX Xs c.K (.im (.tup ds)) (.im (.int i)) μ k := by
  refine ⟨fun en δ τ σ τv H vx vy Q q hk => ⟨rIxT c.K, fun ii => by rw [← ck.K ii]; exact ix_tup, ?_⟩⟩
  obtain ⟨p, vs, rfl, hq, hr⟩ := rep_tup.mp q.top2
  obtain ⟨v, h1, h2⟩ := atI_reps hr hd
  exact ⟨p, vs, i, v, rfl, rep_int.mp q.top, hq, h1, hk _ _ _ _ h (q.pop.pop.push h2)⟩
theorem ix_flA {ds : List D} {d : D} (ck : COk c kk N Xs) (hd : atI ds i = some d) (h : k (.im d) μ) : IX Xs c.K (.im (.fl ds)) (.im (.int i)) μ k := by
  refine ⟨fun en δ τ σ τv H vx vy Q q hk => ⟨rIxL c.K, fun ii => by rw [← ck.K ii]; exact ix_list, ?_⟩⟩
  obtain ⟨p, vs, rfl, hq, hr⟩ := rep_fl.mp q.top2
  obtain ⟨v, h1, h2⟩ := atI_reps hr hd
  exact ⟨p, vs, i, v, rfl, rep_int.mp q.top, hq.sql, h1, hk _ _ _ _ h (q.pop.pop.push h2)⟩
theorem ix_ownA {ds : List D} {d : D} (ck : COk c kk N Xs) (hj : μ[jo]? = some (.lst ds)) (hd : atI ds i = some d) (h : k (.im d) μ) : IX Xs c.K (.own jo) (.im (.int i)) μ k := by
  refine ⟨fun en δ τ σ τv H vx vy Q q hk => ⟨rIxL c.K, fun ii => by rw [← ck.K ii]; exact ix_list, ?_⟩⟩
  obtain ⟨p, vs, rfl, hq, hr⟩ := q.pop.own_lst hj
  obtain ⟨v, h1, h2⟩ := atI_reps hr hd
  exact ⟨p, vs, i, v, rfl, rep_int.mp q.top, .inl (.inl hq), h1, hk _ _ _ _ h (q.pop.pop.push h2)⟩
theorem Holds.own_dK {K : PySem.W.Frag} {en : Ent} {τ : List AV} {σ : L2.St} {τv : List V} {H : Hp} {j : Nat} {v : V} {ds : List (Key × D)} (q : Holds K en δ (.own j :: τ) μ σ (v :: τv) H) (hj : μ[j]? = some (.dK ds)) : ∃ p ws, v = .ref p ∧ H p = some (.dK ws) ∧ KRep K H ds ws := by
  obtain ⟨fps, q⟩ := q
  cases q.tm with
  | cons r t =>
    obtain ⟨p, rr, e1, rfl⟩ := r
    obtain ⟨fp, e2, p', vs, e3, e4, e5⟩ := pd_get q.mu hj
    rw [e1] at e2; cases e2
    cases e3
    exact ⟨p, vs, rfl, e4, e5⟩
theorem ix_dKA {ds : List (Key × D)} {d : D} {key : Key} (ck : COk c kk N Xs) (hj : μ[jo]? = some (.dK ds)) (hd : valD ds key = some d) (h : k (.im d) μ) : IX Xs c.K (.own jo) (.im (kD key)) μ k := by
  refine ⟨fun en δ τ σ τv H vx vy Q q hk => ⟨_, fun ii => ix_dict (ck.hu ii), ?_⟩⟩
  obtain ⟨p, ws, rfl, hq, hr⟩ := q.pop.own_dK hj
  obtain ⟨v, h1, h2⟩ := (krep_val hr).1 d hd
  have e1 := rep_kD.mp q.top
  subst e1
  exact ⟨p, v, rfl, by rw [← h1]; exact DGet.k hq, hk _ _ _ _ h (q.pop.pop.push h2)⟩
theorem op_inDK {ds : List (Key × D)} {key : Key} {r : Bool} (ck : COk c kk N Xs) (hj : μ[jo]? = some (.dK ds)) (hr : (valD ds key).isSome = r) (h : k (.im (.bl r)) μ) : OP Xs c.K (compareOp .In) (.im (kD key)) (.own jo) μ k := by
  refine ⟨fun en δ τ σ τv H vx vy Q q hk => ⟨_, fun ii => op_inDict (ck.hu ii), ?_⟩⟩
  obtain ⟨p, ws, rfl, hq, hkr⟩ := q.own_dK hj
  have e1 := rep_kD.mp q.top2
  subst e1
  refine ⟨p, _, rfl, DGet.k hq, ?_⟩
  have e2 : (valV ws key).isSome = r := by
    rw [← hr]
    cases e : valD ds key with
    | none => rw [(krep_val hkr).2 e]; rfl
    | some d => obtain ⟨v, h1, _⟩ := (krep_val hkr).1 d e; rw [h1]; rfl
  rw [e2]
  exact hk _ _ _ _ h (q.pop.pop.push (rep_bl.mpr rfl))

/-! ### stores -/
theorem sto_lst {ds : List D} {d : D} {t : Nat} {ks : List M → Prop} (hj : μ[jo]? = some (.lst ds)) (ht : ixN ds.length i = some t) (h : ks (μ.set jo (.lst (ds.set t d)))) : STO Xs c.K (.own jo) (.im (.int i)) (.im d) μ ks := by
  refine ⟨fun en δ τ σ τv H vx vy va Q q hk => ⟨rSetL, fun ii => set_list, ?_⟩⟩
  obtain ⟨p, vs, rfl, hq, hr⟩ := q.pop.own_lst hj
  have rv : Rep c.K H d va := q.pop.pop.top
  refine ⟨p, vs, i, t, rfl, rep_int.mp q.top, hq, by rw [← hr.length]; exact ht, hk _ _ h ?_⟩
  obtain ⟨fps, q1⟩ := q.pop
  obtain ⟨fp, e1, p', ws, e2, e3, e4⟩ := pd_get q1.mu hj
  subst e2
  have ep : p = p' := by
    cases q1.tm with
    | cons r _ =>
      obtain ⟨p'', r', e5, e6⟩ := r
      rw [e1] at e5; cases e5
      cases e6; rfl
  subst ep
  have q2 := q1.chg (o := .lst (vs.set t va)) (m' := .lst (ds.set t d)) e1 fun kp => ⟨p, _, rfl, upd_same, reps_iff.mpr (pd_set (Rep.keep kp _ _ rv) t (reps_iff.mp (Reps.keep kp _ _ hr)))⟩
  exact (Holds.pop (Holds.pop ⟨fps, q2⟩))
theorem sto_dK {ds : List (Key × D)} {d : D} {key : Key} {ks : List M → Prop} (ck : COk c kk N Xs) (hj : μ[jo]? = some (.dK ds)) (hl : ds.length < 16777216) (h : ks (μ.set jo (.dK (putD ds key d)))) : STO Xs c.K (.own jo) (.im (kD key)) (.im d) μ ks := by
  refine ⟨fun en δ τ σ τv H vx vy va Q q hk => ⟨_, fun ii => set_dict (ck.hu ii), ?_⟩⟩
  obtain ⟨p, ws, rfl, hq, hr⟩ := q.pop.own_dK hj
  have rv : Rep c.K H d va := q.pop.pop.top
  have e1 := rep_kD.mp q.top
  subst e1
  refine ⟨p, _, rfl, DPut.k hq (by rw [← krep_len hr, sizeLine_eq]; exact hl), hk _ _ h ?_⟩
  obtain ⟨fps, q1⟩ := q.pop
  obtain ⟨fp, e1, p', ws', e2, e3, e4⟩ := pd_get q1.mu hj
  subst e2
  have ep : p = p' := by
    cases q1.tm with
    | cons r _ =>
      obtain ⟨p'', r', e5, e6⟩ := r
      rw [e1] at e5; cases e5
      cases e6; rfl
  subst ep
  have q2 := q1.chg (o := .dK (putK ws key va)) (m' := .dK (putD ds key d)) e1 fun kp => ⟨p, _, rfl, upd_same, krep_put (Rep.keep kp _ _ rv) (KRep.keep kp hr)⟩
  exact (Holds.pop (Holds.pop ⟨fps, q2⟩))

/-! ### slices -/
structure SO {ι : Type} (Xs : ι → Cx) (K : PySem.W.Frag) (o : Option Expr) (δ : List (Option AV)) (μ : List M) (k : Option Int → List M → Prop) : Prop where
  run : ∀ (en : Ent) (τ : List AV) (σ : L2.St) (τv : List V) (H : Hp) (Q : Option Int → Hp → Prop), Holds K en δ τ μ σ τv H → (∀ o μ' H', k o μ' → Holds K en δ τ μ' σ τv H' → Q o H') → ∃ t : TO, (∀ i, PO (Xs i) o t) ∧ t σ H Q
theorem so_none {ko : Option Int → List M → Prop} (h : ko none μ) : SO Xs c.K none δ μ ko := ⟨fun en τ σ τv H Q q hk => ⟨tNoPart, fun i => po_none, hk _ _ _ h q⟩⟩
theorem so_some {ko : Option Int → List M → Prop} (h : SE Xs c.K a δ μ fun x μ1 => ∃ n, x = .im (.int n) ∧ ko (some n) μ1) : SO Xs c.K (some a) δ μ ko := by
  refine ⟨fun en τ σ τv H Q q hk => ⟨tPart (wE Xs a), fun i => po_some (wE_ok i), ?_⟩⟩
  refine h.run en τ σ τv H _ q fun x μ1 vx H1 hx q1 => ?_
  obtain ⟨n, rfl, hn⟩ := hx
  exact ⟨n, rep_int.mp q1.top, hk _ _ _ hn q1.pop⟩
structure SLI {ι : Type} (Xs : ι → Cx) (K : PySem.W.Frag) (x : AV) (lo hi : Option Int) (μ : List M) (k : AV → List M → Prop) : Prop where
  run : ∀ (en : Ent) (δ : List (Option AV)) (τ : List AV) (σ : L2.St) (τv : List V) (H : Hp) (vx : V) (Q : VK), Holds K en δ (x :: τ) μ σ (vx :: τv) H →
    (∀ a μ' v H', k a μ' → Holds K en δ (a :: τ) μ' σ (v :: τv) H' → Q v H') → ∃ r : V → Option Int → Option Int → Hp → VK → Prop, (∀ i, L2.SlR (Xs i) r) ∧ r vx lo hi H Q
theorem POw {o : Option Expr} (i : ι) : PO (Xs i) o (fun σ H Q => ∃ t : TO, (∀ i, PO (Xs i) o t) ∧ t σ H Q) := ⟨fun pins s σ H Q I ⟨t, h, q⟩ => (h i).run pins s σ H Q I q⟩
theorem se_slice {lo hi : Option Expr} (h : SE Xs c.K e δ μ fun x μ1 => SO Xs c.K lo δ μ1 fun l μ2 => SO Xs c.K hi δ μ2 fun u μ3 => SLI Xs c.K x l u μ3 k) : SE Xs c.K (.Subscript e (.Slice lo hi none p2) pos) δ μ k := by
  refine ⟨fun en τ σ τv H Q q hk => ⟨tSl (fun x l u H Q => ∃ r : V → Option Int → Option Int → Hp → VK → Prop, (∀ i, L2.SlR (Xs i) r) ∧ r x l u H Q) (wE Xs e) _ _,
    fun i => pe_slice (fun pins s σ H x v vl vu lo hi sl Q I rx hs pl pu ⟨r, h1, h2⟩ => h1 i pins s σ H x v vl vu lo hi sl Q I rx hs pl pu h2) (wE_ok i) (POw i) (POw i), ?_⟩⟩
  refine h.run en τ σ τv H _ q fun x μ1 vx H1 hx q1 => ?_
  refine hx.run en (x :: τ) σ (vx :: τv) H1 _ q1 fun l μ2 H2 hl q2 => ?_
  refine hl.run en (x :: τ) σ (vx :: τv) H2 _ q2 fun u μ3 H3 hu q3 => ?_
  exact hu.run en δ τ σ τv H3 vx Q q3 hk
def cutD (xs : List D) (lo hi : Option Int) : List D := (xs.drop (HT.sIx xs.length 0 lo)).take (HT.sIx xs.length xs.length hi - HT.sIx xs.length 0 lo)
theorem cut_reps {K : PySem.W.Frag} {H : Hp} {ds : List D} {vs : List V} {lo hi : Option Int} (h : Reps K H ds vs) : Reps K H (cutD ds lo hi) (cutV vs lo hi) := by
  unfold cutD cutV
  rw [h.length]
  exact reps_iff.mpr (pd_take _ (pd_drop _ (reps_iff.mp h)))
theorem sli_tup {ds : List D} {lo hi : Option Int} (ck : COk c kk N Xs) (h : k (.im (.tup (cutD ds lo hi))) μ) : SLI Xs c.K (.im (.tup ds)) lo hi μ k := by
  refine ⟨fun en δ τ σ τv H vx Q q hk => ⟨rSlA c.K, fun ii => by rw [← ck.K ii]; exact sl_tupA, ?_⟩⟩
  obtain ⟨p, vs, rfl, hq, hr⟩ := rep_tup.mp q.top
  refine ⟨p, vs, rfl, hq, fun hw => hk _ _ _ _ h (q.pop.push (rep_tup.mpr ⟨p, vs, rfl, hq, ?_⟩)), fun hw p' hp' => hk _ _ _ _ h ?_⟩
  · have e : cutD ds lo hi = ds := by
      unfold cutD
      rw [hr.length, hw.1, hw.2, List.drop_zero, Nat.sub_zero, ← hr.length, List.take_length]
    rw [e]; exact hr
  · have s : Same H (upd H p' (.tup (cutV vs lo hi))) := same_new hp'
    exact (q.pop.ext s).push (rep_tup.mpr ⟨p', _, rfl, .inl (.inl upd_same), Reps.keep (Keep.of_same s) _ _ (cut_reps hr)⟩)
theorem sli_own {ds : List D} {lo hi : Option Int} (ck : COk c kk N Xs) (hj : μ[jo]? = some (.lst ds)) (h : k (.own μ.length) (μ ++ [.lst (cutD ds lo hi)])) : SLI Xs c.K (.own jo) lo hi μ k := by
  refine ⟨fun en δ τ σ τv H vx Q q hk => ⟨rSlL c.K, fun ii => by rw [← ck.K ii]; exact sl_list, ?_⟩⟩
  obtain ⟨p, vs, rfl, hq, hr⟩ := q.own_lst hj
  exact ⟨p, vs, rfl, .inl (.inl hq), fun p' hp' => hk _ _ _ _ h (q.pop.new hp' fun s => ⟨p', _, rfl, upd_same, Reps.keep (Keep.of_same s) _ _ (cut_reps hr)⟩)⟩

/-! ### sums of lists, of tuples -/
theorem op_catL {d1 d2 : List D} {j1 j2 : Nat} (h1 : μ[j1]? = some (.lst d1)) (h2 : μ[j2]? = some (.lst d2)) (hz : d1.length + d2.length ≤ 16777216) (h : k (.own μ.length) (μ ++ [.lst (d1 ++ d2)])) : OP Xs c.K (binaryOp .Add) (.own j1) (.own j2) μ k := by
  refine ⟨fun en δ τ σ τv H vx vy Q q hk => ⟨rCat, fun _ => op_cat, ?_⟩⟩
  obtain ⟨p1, v1, rfl, hq1, hr1⟩ := q.pop.own_lst h1
  obtain ⟨p2, v2, rfl, hq2, hr2⟩ := q.own_lst h2
  exact ⟨p1, p2, v1, v2, rfl, rfl, hq1, hq2, by rw [← hr1.length, ← hr2.length, sizeLine_eq]; exact hz, fun p' hp' => hk _ _ _ _ h (q.pop.pop.new hp' fun s => ⟨p', _, rfl, upd_same, Reps.keep (Keep.of_same s) _ _ (reps_iff.mpr (pd_append (reps_iff.mp hr1) (reps_iff.mp hr2)))⟩)⟩
theorem op_catT' {d1 d2 : List D} (ck : COk c kk N Xs) (hz : d1.length + d2.length ≤ 16777216) (h : k (.im (.tup (d1 ++ d2))) μ) : OP Xs c.K (binaryOp .Add) (.im (.tup d1)) (.im (.tup d2)) μ k := by
  refine ⟨fun en δ τ σ τv H vx vy Q q hk => ⟨rCatA c.K, fun ii => by rw [← ck.K ii]; exact op_catA, ?_⟩⟩
  obtain ⟨p1, v1, rfl, hq1, hr1⟩ := rep_tup.mp q.top2
  obtain ⟨p2, v2, rfl, hq2, hr2⟩ := rep_tup.mp q.top
  refine ⟨p1, p2, v1, v2, rfl, rfl, hq1, hq2, by rw [← hr1.length, ← hr2.length, sizeLine_eq]; exact hz, fun e => ?_, fun _ e => ?_, fun _ _ p' hp' => ?_⟩
  · subst e
    have e1 : d1 = [] := by have := hr1.length; cases d1 with | nil => rfl | cons _ _ => simp at this
    subst e1
    exact hk _ _ _ _ h (q.pop.pop.push q.top)
  · subst e
    have e1 : d2 = [] := by have := hr2.length; cases d2 with | nil => rfl | cons _ _ => simp at this
    subst e1
    rw [List.append_nil] at h
    exact hk _ _ _ _ h (q.pop.pop.push q.top2)
  · have s : Same H (upd H p' (.tup (v1 ++ v2))) := same_new hp'
    exact hk _ _ _ _ h ((q.pop.pop.ext s).push (rep_tup.mpr ⟨p', _, rfl, .inl (.inl upd_same), Reps.keep (Keep.of_same s) _ _ (reps_iff.mpr (pd_append (reps_iff.mp hr1) (reps_iff.mp hr2)))⟩))

/-! ### built-ins by name -/
theorem se_bltn {id : String} {xp : Pos} (ck : COk c kk N Xs) (hB : bootBuiltins x = some (.builtin id)) (hm : c.mg x = none) (h : SA Xs c.K (a :: es) δ μ fun as μ1 => CB Xs c.K (.builtin id) as μ1 k) (hg : ∀ i, Gl (Xs i) x := by exact fun _ => rfl) (hn : x ≠ "__name__" := by decide) (hdb : (x == ("__debug__" : Str)) = false := by decide)
    (he : ∀ i, starEach (a :: es) (Xs i).env = (false, eval a (Xs i).env) :: starEach es (Xs i).env := by intro _; rfl) (hpl : ∀ i, (backTo pos (starEach es (Xs i).env)).any (·.1) = false := by intro _; rfl) : SE Xs c.K (.Call (.Name x xp) (a :: es) [] pos) δ μ k := by
  refine ⟨fun en τ σ τv H Q q hk => ⟨tCB (fun vs H Q => ∃ r : List V → Hp → VK → Prop, (∀ i, CallR (Xs i) (.builtin id) r) ∧ r vs H Q) (wA Xs (a :: es)), fun i => pe_callB (fun pins s σ H xs us Q I r ⟨rr, h1, h2⟩ => h1 i pins s σ H xs us Q I r h2) (hg i) (by rw [ck.mg i]; exact hm) hB (wA_ok i) hn hdb (he i) (hpl i), ?_⟩⟩
  exact h.run en τ σ τv H _ q fun as μ1 vs H1 ha hl q1 => ha.run en δ τ σ τv H1 vs Q hl q1 hk
theorem se_bltnT {T : String} {xp : Pos} (ck : COk c kk N Xs) (hB : bootBuiltins x = some (.type T)) (hm : c.mg x = none) (h : SA Xs c.K (a :: es) δ μ fun as μ1 => CB Xs c.K (.type T) as μ1 k) (hg : ∀ i, Gl (Xs i) x := by exact fun _ => rfl) (hn : x ≠ "__name__" := by decide) (hdb : (x == ("__debug__" : Str)) = false := by decide)
    (he : ∀ i, starEach (a :: es) (Xs i).env = (false, eval a (Xs i).env) :: starEach es (Xs i).env := by intro _; rfl) (hpl : ∀ i, (backTo pos (starEach es (Xs i).env)).any (·.1) = false := by intro _; rfl) : SE Xs c.K (.Call (.Name x xp) (a :: es) [] pos) δ μ k := by
  refine ⟨fun en τ σ τv H Q q hk => ⟨tCB (fun vs H Q => ∃ r : List V → Hp → VK → Prop, (∀ i, CallR (Xs i) (.type T) r) ∧ r vs H Q) (wA Xs (a :: es)), fun i => pe_callTy (fun pins s σ H xs us Q I r ⟨rr, h1, h2⟩ => h1 i pins s σ H xs us Q I r h2) (hg i) (by rw [ck.mg i]; exact hm) hB (wA_ok i) hn hdb (he i) (hpl i), ?_⟩⟩
  exact h.run en τ σ τv H _ q fun as μ1 vs H1 ha hl q1 => ha.run en δ τ σ τv H1 vs Q hl q1 hk
theorem bb_len : bootBuiltins "len" = some (.builtin "len") := by decide +kernel
theorem bb_abs : bootBuiltins "abs" = some (.builtin "abs") := by decide +kernel
theorem bb_max : bootBuiltins "max" = some (.builtin "max") := by decide +kernel
theorem bb_min : bootBuiltins "min" = some (.builtin "min") := by decide +kernel
theorem bb_all : bootBuiltins "all" = some (.builtin "all") := by decide +kernel
theorem bb_any : bootBuiltins "any" = some (.builtin "any") := by decide +kernel
theorem bb_sum : bootBuiltins "sum" = some (.builtin "sum") := by decide +kernel
theorem bb_isi : bootBuiltins "isinstance" = some (.builtin "isinstance") := by decide +kernel
theorem bb_sorted : bootBuiltins "sorted" = some (.builtin "sorted") := by decide +kernel
theorem bb_int : bootBuiltins "int" = some (.type "int") := by decide +kernel
theorem bb_bool : bootBuiltins "bool" = some (.type "bool") := by decide +kernel
theorem bb_str : bootBuiltins "str" = some (.type "str") := by decide +kernel
theorem bb_tuple : bootBuiltins "tuple" = some (.type "tuple") := by decide +kernel
theorem bb_list : bootBuiltins "list" = some (.type "list") := by decide +kernel
theorem bb_dict : bootBuiltins "dict" = some (.type "dict") := by decide +kernel
theorem bb_set : bootBuiltins "set" = some (.type "set") := by decide +kernel
theorem se_len {xp : Pos} (ck : COk c kk N Xs) (hm : c.mg "len" = none) (h : SA Xs c.K [a] δ μ fun as μ1 => CB Xs c.K (.builtin "len") as μ1 k) (hg : ∀ i, Gl (Xs i) "len") (he : ∀ i, starEach (a :: []) (Xs i).env = (false, eval a (Xs i).env) :: starEach [] (Xs i).env) (hp : ∀ i, (backTo pos (starEach [] (Xs i).env)).any (·.1) = false) : SE Xs c.K (.Call (.Name "len" xp) [a] [] pos) δ μ k := se_bltn ck bb_len hm h hg (by decide) (by decide) he hp
theorem se_abs {xp : Pos} (ck : COk c kk N Xs) (hm : c.mg "abs" = none) (h : SA Xs c.K [a] δ μ fun as μ1 => CB Xs c.K (.builtin "abs") as μ1 k) (hg : ∀ i, Gl (Xs i) "abs") (he : ∀ i, starEach (a :: []) (Xs i).env = (false, eval a (Xs i).env) :: starEach [] (Xs i).env) (hp : ∀ i, (backTo pos (starEach [] (Xs i).env)).any (·.1) = false) : SE Xs c.K (.Call (.Name "abs" xp) [a] [] pos) δ μ k := se_bltn ck bb_abs hm h hg (by decide) (by decide) he hp
theorem se_max2 {xp : Pos} (ck : COk c kk N Xs) (hm : c.mg "max" = none) (h : SA Xs c.K [a, b] δ μ fun as μ1 => CB Xs c.K (.builtin "max") as μ1 k) (hg : ∀ i, Gl (Xs i) "max") (he : ∀ i, starEach (a :: [b]) (Xs i).env = (false, eval a (Xs i).env) :: starEach [b] (Xs i).env) (hp : ∀ i, (backTo pos (starEach [b] (Xs i).env)).any (·.1) = false) : SE Xs c.K (.Call (.Name "max" xp) [a, b] [] pos) δ μ k := se_bltn ck bb_max hm h hg (by decide) (by decide) he hp
theorem se_min2 {xp : Pos} (ck : COk c kk N Xs) (hm : c.mg "min" = none) (h : SA Xs c.K [a, b] δ μ fun as μ1 => CB Xs c.K (.builtin "min") as μ1 k) (hg : ∀ i, Gl (Xs i) "min") (he : ∀ i, starEach (a :: [b]) (Xs i).env = (false, eval a (Xs i).env) :: starEach [b] (Xs i).env) (hp : ∀ i, (backTo pos (starEach [b] (Xs i).env)).any (·.1) = false) : SE Xs c.K (.Call (.Name "min" xp) [a, b] [] pos) δ μ k := se_bltn ck bb_min hm h hg (by decide) (by decide) he hp
theorem se_max1 {xp : Pos} (ck : COk c kk N Xs) (hm : c.mg "max" = none) (h : SA Xs c.K [a] δ μ fun as μ1 => CB Xs c.K (.builtin "max") as μ1 k) (hg : ∀ i, Gl (Xs i) "max") (he : ∀ i, starEach (a :: []) (Xs i).env = (false, eval a (Xs i).env) :: starEach [] (Xs i).env) (hp : ∀ i, (backTo pos (starEach [] (Xs i).env)).any (·.1) = false) : SE Xs c.K (.Call (.Name "max" xp) [a] [] pos) δ μ k := se_bltn ck bb_max hm h hg (by decide) (by decide) he hp
theorem se_all {xp : Pos} (ck : COk c kk N Xs) (hm : c.mg "all" = none) (h : SA Xs c.K [a] δ μ fun as μ1 => CB Xs c.K (.builtin "all") as μ1 k) (hg : ∀ i, Gl (Xs i) "all") (he : ∀ i, starEach (a :: []) (Xs i).env = (false, eval a (Xs i).env) :: starEach [] (Xs i).env) (hp : ∀ i, (backTo pos (starEach [] (Xs i).env)).any (·.1) = false) : SE Xs c.K (.Call (.Name "all" xp) [a] [] pos) δ μ k := se_bltn ck bb_all hm h hg (by decide) (by decide) he hp
theorem se_any {xp : Pos} (ck : COk c kk N Xs) (hm : c.mg "any" = none) (h : SA Xs c.K [a] δ μ fun as μ1 => CB Xs c.K (.builtin "any") as μ1 k) (hg : ∀ i, Gl (Xs i) "any") (he : ∀ i, starEach (a :: []) (Xs i).env = (false, eval a (Xs i).env) :: starEach [] (Xs i).env) (hp : ∀ i, (backTo pos (starEach [] (Xs i).env)).any (·.1) = false) : SE Xs c.K (.Call (.Name "any" xp) [a] [] pos) δ μ k := se_bltn ck bb_any hm h hg (by decide) (by decide) he hp
theorem se_sum {xp : Pos} (ck : COk c kk N Xs) (hm : c.mg "sum" = none) (h : SA Xs c.K [a] δ μ fun as μ1 => CB Xs c.K (.builtin "sum") as μ1 k) (hg : ∀ i, Gl (Xs i) "sum") (he : ∀ i, starEach (a :: []) (Xs i).env = (false, eval a (Xs i).env) :: starEach [] (Xs i).env) (hp : ∀ i, (backTo pos (starEach [] (Xs i).env)).any (·.1) = false) : SE Xs c.K (.Call (.Name "sum" xp) [a] [] pos) δ μ k := se_bltn ck bb_sum hm h hg (by decide) (by decide) he hp
theorem se_sorted {xp : Pos} (ck : COk c kk N Xs) (hm : c.mg "sorted" = none) (h : SA Xs c.K [a] δ μ fun as μ1 => CB Xs c.K (.builtin "sorted") as μ1 k) (hg : ∀ i, Gl (Xs i) "sorted") (he : ∀ i, starEach (a :: []) (Xs i).env = (false, eval a (Xs i).env) :: starEach [] (Xs i).env) (hp : ∀ i, (backTo pos (starEach [] (Xs i).env)).any (·.1) = false) : SE Xs c.K (.Call (.Name "sorted" xp) [a] [] pos) δ μ k := se_bltn ck bb_sorted hm h hg (by decide) (by decide) he hp
theorem se_isi {xp : Pos} (ck : COk c kk N Xs) (hm : c.mg "isinstance" = none) (h : SA Xs c.K [a, b] δ μ fun as μ1 => CB Xs c.K (.builtin "isinstance") as μ1 k) (hg : ∀ i, Gl (Xs i) "isinstance") (he : ∀ i, starEach (a :: [b]) (Xs i).env = (false, eval a (Xs i).env) :: starEach [b] (Xs i).env) (hp : ∀ i, (backTo pos (starEach [b] (Xs i).env)).any (·.1) = false) : SE Xs c.K (.Call (.Name "isinstance" xp) [a, b] [] pos) δ μ k := se_bltn ck bb_isi hm h hg (by decide) (by decide) he hp
theorem se_toInt {xp : Pos} (ck : COk c kk N Xs) (hm : c.mg "int" = none) (h : SA Xs c.K [a] δ μ fun as μ1 => CB Xs c.K (.type "int") as μ1 k) (hg : ∀ i, Gl (Xs i) "int") (he : ∀ i, starEach (a :: []) (Xs i).env = (false, eval a (Xs i).env) :: starEach [] (Xs i).env) (hp : ∀ i, (backTo pos (starEach [] (Xs i).env)).any (·.1) = false) : SE Xs c.K (.Call (.Name "int" xp) [a] [] pos) δ μ k := se_bltnT ck bb_int hm h hg (by decide) (by decide) he hp
theorem se_toTuple {xp : Pos} (ck : COk c kk N Xs) (hm : c.mg "tuple" = none) (h : SA Xs c.K [a] δ μ fun as μ1 => CB Xs c.K (.type "tuple") as μ1 k) (hg : ∀ i, Gl (Xs i) "tuple") (he : ∀ i, starEach (a :: []) (Xs i).env = (false, eval a (Xs i).env) :: starEach [] (Xs i).env) (hp : ∀ i, (backTo pos (starEach [] (Xs i).env)).any (·.1) = false) : SE Xs c.K (.Call (.Name "tuple" xp) [a] [] pos) δ μ k := se_bltnT ck bb_tuple hm h hg (by decide) (by decide) he hp
theorem se_toList {xp : Pos} (ck : COk c kk N Xs) (hm : c.mg "list" = none) (h : SA Xs c.K [a] δ μ fun as μ1 => CB Xs c.K (.type "list") as μ1 k) (hg : ∀ i, Gl (Xs i) "list") (he : ∀ i, starEach (a :: []) (Xs i).env = (false, eval a (Xs i).env) :: starEach [] (Xs i).env) (hp : ∀ i, (backTo pos (starEach [] (Xs i).env)).any (·.1) = false) : SE Xs c.K (.Call (.Name "list" xp) [a] [] pos) δ μ k := se_bltnT ck bb_list hm h hg (by decide) (by decide) he hp
theorem se_toDict {xp : Pos} (ck : COk c kk N Xs) (hm : c.mg "dict" = none) (h : SA Xs c.K [a] δ μ fun as μ1 => CB Xs c.K (.type "dict") as μ1 k) (hg : ∀ i, Gl (Xs i) "dict") (he : ∀ i, starEach (a :: []) (Xs i).env = (false, eval a (Xs i).env) :: starEach [] (Xs i).env) (hp : ∀ i, (backTo pos (starEach [] (Xs i).env)).any (·.1) = false) : SE Xs c.K (.Call (.Name "dict" xp) [a] [] pos) δ μ k := se_bltnT ck bb_dict hm h hg (by decide) (by decide) he hp
/-- a built-in class by its name, as a value -/
theorem se_bty {T : String} (ck : COk c kk N Xs) (hB : bootBuiltins x = some (.type T)) (hm : c.mg x = none) (h : k (.im (.ty T)) μ) (hg : ∀ i, Gl (Xs i) x := by exact fun _ => rfl) (hn : x ≠ "__name__" := by decide) (hdb : (x == ("__debug__" : Str)) = false := by decide) : SE Xs c.K (.Name x pos) δ μ k :=
  se_lit h (fun _ => rep_ty.mpr rfl) fun i => pe_bltn (hg i) (by rw [ck.mg i]; exact hm) hB rfl hn hdb
theorem se_nInt (ck : COk c kk N Xs) (hm : c.mg "int" = none) (h : k (.im (.ty "int")) μ) (hg : ∀ i, Gl (Xs i) "int" := by exact fun _ => rfl) : SE Xs c.K (.Name "int" pos) δ μ k := se_bty ck bb_int hm h hg
theorem se_nBool (ck : COk c kk N Xs) (hm : c.mg "bool" = none) (h : k (.im (.ty "bool")) μ) (hg : ∀ i, Gl (Xs i) "bool" := by exact fun _ => rfl) : SE Xs c.K (.Name "bool" pos) δ μ k := se_bty ck bb_bool hm h hg
theorem se_nStr (ck : COk c kk N Xs) (hm : c.mg "str" = none) (h : k (.im (.ty "str")) μ) (hg : ∀ i, Gl (Xs i) "str" := by exact fun _ => rfl) : SE Xs c.K (.Name "str" pos) δ μ k := se_bty ck bb_str hm h hg
theorem se_nTuple (ck : COk c kk N Xs) (hm : c.mg "tuple" = none) (h : k (.im (.ty "tuple")) μ) (hg : ∀ i, Gl (Xs i) "tuple" := by exact fun _ => rfl) : SE Xs c.K (.Name "tuple" pos) δ μ k := se_bty ck bb_tuple hm h hg

theorem Holds.one {K : PySem.W.Frag} {en : Ent} {τ : List AV} {σ : L2.St} {τv : List V} {H : Hp} {w : AV} {vs : List V} (hl : [w].length = vs.length) (q : Holds K en δ ([w] ++ τ) μ σ (vs ++ τv) H) : ∃ v, vs = [v] ∧ Holds K en δ (w :: τ) μ σ (v :: τv) H := by
  match vs, hl with
  | [v], _ => exact ⟨v, rfl, q⟩
theorem Holds.two {K : PySem.W.Frag} {en : Ent} {τ : List AV} {σ : L2.St} {τv : List V} {H : Hp} {w1 w2 : AV} {vs : List V} (hl : [w1, w2].length = vs.length) (q : Holds K en δ ([w1, w2] ++ τ) μ σ (vs ++ τv) H) : ∃ v1 v2, vs = [v1, v2] ∧ Holds K en δ (w1 :: w2 :: τ) μ σ (v1 :: v2 :: τv) H := by
  match vs, hl with
  | [v1, v2], _ => exact ⟨v1, v2, rfl, q⟩
theorem cb_len_tup {ds : List D} (ck : COk c kk N Xs) (h : k (.im (.int ds.length)) μ) : CB Xs c.K (.builtin "len") [.im (.tup ds)] μ k := by
  refine ⟨fun en δ τ σ τv H vs Q hl q hk => ⟨fun xs H Q => ∃ p ys, xs = [.ref p] ∧ (SqL c.K H p ys ∨ SqT c.K H p ys) ∧ Q (.int ys.length) H, fun ii => by rw [← ck.K ii]; exact call_len_seq, ?_⟩⟩
  obtain ⟨v, rfl, q⟩ := q.one hl
  obtain ⟨p, vs, rfl, hq, hr⟩ := rep_tup.mp q.top
  exact ⟨p, vs, rfl, .inr hq, hk _ _ _ _ h (q.pop.push (by rw [hr.length]; exact rep_int.mpr rfl))⟩
theorem cb_len_fl {ds : List D} (ck : COk c kk N Xs) (h : k (.im (.int ds.length)) μ) : CB Xs c.K (.builtin "len") [.im (.fl ds)] μ k := by
  refine ⟨fun en δ τ σ τv H vs Q hl q hk => ⟨fun xs H Q => ∃ p ys, xs = [.ref p] ∧ (SqL c.K H p ys ∨ SqT c.K H p ys) ∧ Q (.int ys.length) H, fun ii => by rw [← ck.K ii]; exact call_len_seq, ?_⟩⟩
  obtain ⟨v, rfl, q⟩ := q.one hl
  obtain ⟨p, vs, rfl, hq, hr⟩ := rep_fl.mp q.top
  exact ⟨p, vs, rfl, .inl hq.sql, hk _ _ _ _ h (q.pop.push (by rw [hr.length]; exact rep_int.mpr rfl))⟩
theorem cb_len_own {ds : List D} (ck : COk c kk N Xs) (hj : μ[jo]? = some (.lst ds)) (h : k (.im (.int ds.length)) μ) : CB Xs c.K (.builtin "len") [.own jo] μ k := by
  refine ⟨fun en δ τ σ τv H vs Q hl q hk => ⟨fun xs H Q => ∃ p ys, xs = [.ref p] ∧ (SqL c.K H p ys ∨ SqT c.K H p ys) ∧ Q (.int ys.length) H, fun ii => by rw [← ck.K ii]; exact call_len_seq, ?_⟩⟩
  obtain ⟨v, rfl, q⟩ := q.one hl
  obtain ⟨p, vs, rfl, hq, hr⟩ := q.own_lst hj
  exact ⟨p, vs, rfl, .inl (.inl (.inl hq)), hk _ _ _ _ h (q.pop.push (by rw [hr.length]; exact rep_int.mpr rfl))⟩
theorem cb_abs (h : k (.im (.int (if i < 0 then -i else i))) μ) : CB Xs c.K (.builtin "abs") [.im (.int i)] μ k := by
  refine ⟨fun en δ τ σ τv H vs Q hl q hk => ⟨_, fun ii => call_abs, ?_⟩⟩
  obtain ⟨v, rfl, q⟩ := q.one hl
  exact ⟨i, by rw [rep_int.mp q.top], hk _ _ _ _ h (q.pop.push (rep_int.mpr rfl))⟩
theorem cb_max2 (ck : COk c kk N Xs) (h : k (.im (.int (if j > i then j else i))) μ) : CB Xs c.K (.builtin "max") [.im (.int i), .im (.int j)] μ k := by
  refine ⟨fun en δ τ σ τv H vs Q hl q hk => ⟨_, fun ii => call_max2 (ck.calm ii), ?_⟩⟩
  obtain ⟨v, w, rfl, q⟩ := q.two hl
  exact ⟨i, j, by rw [rep_int.mp q.top, rep_int.mp q.pop.top], hk _ _ _ _ h (q.pop.pop.push (rep_int.mpr rfl))⟩
theorem cb_min2 (ck : COk c kk N Xs) (h : k (.im (.int (if j < i then j else i))) μ) : CB Xs c.K (.builtin "min") [.im (.int i), .im (.int j)] μ k := by
  refine ⟨fun en δ τ σ τv H vs Q hl q hk => ⟨_, fun ii => call_min2 (ck.calm ii), ?_⟩⟩
  obtain ⟨v, w, rfl, q⟩ := q.two hl
  exact ⟨i, j, by rw [rep_int.mp q.top, rep_int.mp q.pop.top], hk _ _ _ _ h (q.pop.pop.push (rep_int.mpr rfl))⟩
theorem cb_int (h : k (.im (.int i)) μ) : CB Xs c.K (.type "int") [.im (.int i)] μ k := by
  refine ⟨fun en δ τ σ τv H vs Q hl q hk => ⟨_, fun ii => call_int1, ?_⟩⟩
  obtain ⟨v, rfl, q⟩ := q.one hl
  exact .inl ⟨i, by rw [rep_int.mp q.top], hk _ _ _ _ h (q.pop.push (rep_int.mpr rfl))⟩
theorem cb_all {bs : List Bool} (ck : COk c kk N Xs) (hj : μ[jo]? = some (.lst (bs.map D.bl))) (h : k (.im (.bl (bs.all id))) μ) : CB Xs c.K (.builtin "all") [.own jo] μ k := by
  refine ⟨fun en δ τ σ τv H vs Q hl q hk => ⟨rAll c.K, fun ii => by rw [← ck.K ii]; exact cr_all (ck.calm ii), ?_⟩⟩
  obtain ⟨v, rfl, q⟩ := q.one hl
  obtain ⟨p, vs, rfl, hq, hr⟩ := q.own_lst hj
  rw [reps_bls.mp hr] at hq
  exact ⟨p, bs, rfl, .inl (.inl hq), hk _ _ _ _ h (q.pop.push (rep_bl.mpr rfl))⟩
theorem cb_any {bs : List Bool} (ck : COk c kk N Xs) (hj : μ[jo]? = some (.lst (bs.map D.bl))) (h : k (.im (.bl (bs.any id))) μ) : CB Xs c.K (.builtin "any") [.own jo] μ k := by
  refine ⟨fun en δ τ σ τv H vs Q hl q hk => ⟨rAny c.K, fun ii => by rw [← ck.K ii]; exact L2.cr_any (ck.calm ii), ?_⟩⟩
  obtain ⟨v, rfl, q⟩ := q.one hl
  obtain ⟨p, vs, rfl, hq, hr⟩ := q.own_lst hj
  rw [reps_bls.mp hr] at hq
  exact ⟨p, bs, rfl, .inl (.inl hq), hk _ _ _ _ h (q.pop.push (rep_bl.mpr rfl))⟩
theorem cb_sum {ns : List Int} (ck : COk c kk N Xs) (hj : μ[jo]? = some (.lst (ns.map D.int))) (h : k (.im (.int ns.sum)) μ) : CB Xs c.K (.builtin "sum") [.own jo] μ k := by
  refine ⟨fun en δ τ σ τv H vs Q hl q hk => ⟨rSum c.K, fun ii => by rw [← ck.K ii]; exact cr_sum (ck.calm ii), ?_⟩⟩
  obtain ⟨v, rfl, q⟩ := q.one hl
  obtain ⟨p, vs, rfl, hq, hr⟩ := q.own_lst hj
  rw [reps_ints.mp hr] at hq
  exact ⟨p, ns, rfl, .inl (.inl hq), hk _ _ _ _ h (q.pop.push (rep_int.mpr rfl))⟩
theorem cb_max {ns : List Int} (ck : COk c kk N Xs) (hj : μ[jo]? = some (.lst (ns.map D.int))) (hne : 0 < ns.length) (h : ∀ m, m ∈ ns → (∀ y, y ∈ ns → y ≤ m) → k (.im (.int m)) μ) : CB Xs c.K (.builtin "max") [.own jo] μ k := by
  refine ⟨fun en δ τ σ τv H vs Q hl q hk => ⟨rMax c.K, fun ii => by rw [← ck.K ii]; exact L2.cr_max (ck.calm ii), ?_⟩⟩
  obtain ⟨v, rfl, q⟩ := q.one hl
  obtain ⟨p, vs, rfl, hq, hr⟩ := q.own_lst hj
  rw [reps_ints.mp hr] at hq
  exact ⟨p, ns, rfl, .inl (.inl hq), hne, fun m h1 h2 => hk _ _ _ _ (h m h1 h2) (q.pop.push (rep_int.mpr rfl))⟩
theorem cb_sorted {ns : List Int} (ck : COk c kk N Xs) (hj : μ[jo]? = some (.lst (ns.map D.int))) (hz : ns.length < 64) (h : ∀ ms : List Int, ms.Perm ns → ms.Pairwise (· ≤ ·) → k (.own μ.length) (μ ++ [.lst (ms.map D.int)])) : CB Xs c.K (.builtin "sorted") [.own jo] μ k := by
  refine ⟨fun en δ τ σ τv H vs Q hl q hk => ⟨rSorted c.K, fun ii => by rw [← ck.K ii]; exact cr_sorted, ?_⟩⟩
  obtain ⟨v, rfl, q⟩ := q.one hl
  obtain ⟨p, vs, rfl, hq, hr⟩ := q.own_lst hj
  rw [reps_ints.mp hr] at hq
  refine ⟨p, ns, rfl, .inl (.inl hq), hz, ?_⟩
  intro ms p' h1 h2 hp'
  exact hk _ _ _ _ (h ms h1 h2) (q.pop.new hp' fun s => ⟨p', _, rfl, upd_same, reps_ints.mpr rfl⟩)
theorem cb_tup_own {ds : List D} (ck : COk c kk N Xs) (hj : μ[jo]? = some (.lst ds)) (h : k (.im (.tup ds)) μ) : CB Xs c.K (.type "tuple") [.own jo] μ k := by
  refine ⟨fun en δ τ σ τv H vs Q hl q hk => ⟨fun xs H Q => ∃ p ys, xs = [.ref p] ∧ ((SqL c.K H p ys ∧ ∀ l, H l = none → Q (.ref l) (upd H l (.tup ys))) ∨ (SqT c.K H p ys ∧ Q (.ref p) H)), fun ii => by rw [← ck.K ii]; exact call_tuple_of, ?_⟩⟩
  obtain ⟨v, rfl, q⟩ := q.one hl
  obtain ⟨p, vs, rfl, hq, hr⟩ := q.own_lst hj
  refine ⟨p, vs, rfl, .inl ⟨.inl (.inl hq), fun p' hp' => ?_⟩⟩
  have s : Same H (upd H p' (.tup vs)) := same_new hp'
  exact hk _ _ _ _ h ((q.pop.ext s).push (rep_tup.mpr ⟨p', _, rfl, .inl (.inl upd_same), Reps.keep (Keep.of_same s) _ _ hr⟩))
theorem cb_lst_tup {ds : List D} (ck : COk c kk N Xs) (h : k (.own μ.length) (μ ++ [.lst ds])) : CB Xs c.K (.type "list") [.im (.tup ds)] μ k := by
  refine ⟨fun en δ τ σ τv H vs Q hl q hk => ⟨fun xs H Q => ∃ p ys, xs = [.ref p] ∧ (SqL c.K H p ys ∨ SqT c.K H p ys) ∧ ∀ l, H l = none → Q (.ref l) (upd H l (.lst ys)), fun ii => by rw [← ck.K ii]; exact call_list_of, ?_⟩⟩
  obtain ⟨v, rfl, q⟩ := q.one hl
  obtain ⟨p, vs, rfl, hq, hr⟩ := rep_tup.mp q.top
  exact ⟨p, vs, rfl, .inr hq, fun p' hp' => hk _ _ _ _ h (q.pop.new hp' fun s => ⟨p', _, rfl, upd_same, Reps.keep (Keep.of_same s) _ _ hr⟩)⟩
theorem cb_lst_fl {ds : List D} (ck : COk c kk N Xs) (h : k (.own μ.length) (μ ++ [.lst ds])) : CB Xs c.K (.type "list") [.im (.fl ds)] μ k := by
  refine ⟨fun en δ τ σ τv H vs Q hl q hk => ⟨fun xs H Q => ∃ p ys, xs = [.ref p] ∧ (SqL c.K H p ys ∨ SqT c.K H p ys) ∧ ∀ l, H l = none → Q (.ref l) (upd H l (.lst ys)), fun ii => by rw [← ck.K ii]; exact call_list_of, ?_⟩⟩
  obtain ⟨v, rfl, q⟩ := q.one hl
  obtain ⟨p, vs, rfl, hq, hr⟩ := rep_fl.mp q.top
  exact ⟨p, vs, rfl, .inl hq.sql, fun p' hp' => hk _ _ _ _ h (q.pop.new hp' fun s => ⟨p', _, rfl, upd_same, Reps.keep (Keep.of_same s) _ _ hr⟩)⟩
/-- isinstance -/
def tyName : D → String
  | .non => "NoneType"
  | .bl _ => "bool"
  | .int _ => "int"
  | .str _ => "str"
  | .tup _ => "tuple"
  | .fl _ => "list"
  | .ty _ => "type"
  | .adr _ => "?"
  | .tk _ => "tuple"
theorem tyx_of {K : PySem.W.Frag} {H : Hp} {d : D} {v : V} (hd : ∀ n, d ≠ .ty n) (hf : ∀ ds, d ≠ .fl ds) (ha : ∀ a, d ≠ .adr a) (r : Rep K H d v) : TyX K H v (.type (tyName d)) := by
  cases d with
  | non => rw [rep_non.mp r]; exact .base .non
  | bl b => rw [rep_bl.mp r]; exact .base (.bl b)
  | int b => rw [rep_int.mp r]; exact .base (.int b)
  | str b => rw [rep_str.mp r]; exact .base (.str b)
  | tup ds =>
    obtain ⟨a, vs, rfl, q, _⟩ := rep_tup.mp r
    rcases q with (q | ⟨o, q⟩) | ⟨o, its, n, q1, q2, _⟩
    · exact .base (.tup q)
    · exact .fTuple q
    · exact .kTuple q1 q2
  | fl ds => exact absurd rfl (hf ds)
  | ty n => exact absurd rfl (hd n)
  | adr a => exact absurd rfl (ha a)
  | tk ks =>
    obtain ⟨a, rfl, q⟩ := rep_tk.mp r
    exact .base (.tup q)
theorem cb_isi {d : D} {T : String} {r : Bool} (ck : COk c kk N Xs) (hr : kitB (tyName d) T = some r) (h : k (.im (.bl r)) μ) (hd : ∀ n, d ≠ .ty n := by intro _ z; cases z) (hf : ∀ ds, d ≠ .fl ds := by intro _ z; cases z) (ha : ∀ a, d ≠ .adr a := by intro _ z; cases z) : CB Xs c.K (.builtin "isinstance") [.im d, .im (.ty T)] μ k := by
  refine ⟨fun en δ τ σ τv H vs Q hl q hk => ⟨rIsi c.K, fun ii => by rw [← ck.K ii]; exact call_isi, ?_⟩⟩
  obtain ⟨v, w, rfl, q⟩ := q.two hl
  exact ⟨v, w, _, .type T, r, rfl, by rw [rep_ty.mp q.pop.top]; exact .ty T, tyx_of hd hf ha q.top, kit_ty hr, hk _ _ _ _ h (q.pop.pop.push (rep_bl.mpr rfl))⟩
theorem kit_ii : kitB "int" "int" = some true := by decide +kernel
theorem kit_bi : kitB "bool" "int" = some true := by decide +kernel
theorem kit_ib : kitB "int" "bool" = some false := by decide +kernel
theorem kit_bb : kitB "bool" "bool" = some true := by decide +kernel
theorem kit_tt : kitB "tuple" "tuple" = some true := by decide +kernel
theorem kit_it : kitB "int" "tuple" = some false := by decide +kernel
theorem kit_bt : kitB "bool" "tuple" = some false := by decide +kernel
theorem kit_nt : kitB "NoneType" "tuple" = some false := by decide +kernel
theorem kit_st : kitB "str" "tuple" = some false := by decide +kernel
theorem kit_is : kitB "int" "str" = some false := by decide +kernel
theorem kit_bs : kitB "bool" "str" = some false := by decide +kernel
theorem kit_ss : kitB "str" "str" = some true := by decide +kernel
theorem kit_ns : kitB "NoneType" "str" = some false := by decide +kernel
theorem kit_ts : kitB "tuple" "str" = some false := by decide +kernel
theorem kit_ti : kitB "tuple" "int" = some false := by decide +kernel

/-! ### methods -/
theorem Holds.chgL {K : PySem.W.Frag} {en : Ent} {τ : List AV} {σ : L2.St} {τv : List V} {H : Hp} {ds ds' : List D} {p : Addr} {vs' : List V} (q : Holds K en δ (.own jo :: τ) μ σ (.ref p :: τv) H) (hj : μ[jo]? = some (.lst ds)) (hr : Keep H (upd H p (.lst vs')) → Reps K (upd H p (.lst vs')) ds' vs') :
    Holds K en δ τ (μ.set jo (.lst ds')) σ τv (upd H p (.lst vs')) := by
  obtain ⟨fps, q1⟩ := q
  obtain ⟨fp, e1, p', ws, e2, e3, e4⟩ := pd_get q1.mu hj
  subst e2
  have ep : p = p' := by
    cases q1.tm with
    | cons r _ =>
      obtain ⟨p'', r', e5, e6⟩ := r
      rw [e1] at e5; cases e5
      cases e6; rfl
  subst ep
  have q2 := q1.chg (o := .lst vs') (m' := .lst ds') e1 fun kp => ⟨p, _, rfl, upd_same, hr kp⟩
  exact Holds.pop ⟨fps, q2⟩
theorem se_append {apos : Pos} (ck : COk c kk N Xs) (h : SE Xs c.K a δ μ fun x μ1 => ∃ jo, x = .own jo ∧ (∃ d0, μ1[jo]? = some (.lst d0)) ∧ SE Xs c.K b δ μ1 fun y μ2 => ∃ d ds, y = .im d ∧ μ2[jo]? = some (.lst ds) ∧ ds.length < 16777216 ∧ k (.im .non) (μ2.set jo (.lst (ds ++ [d]))))
    (hbase : ∀ i, attributeBase a "append" (Xs i).env (eval a (Xs i).env) = eval a (Xs i).env := by intro _; rfl)
    (hfew : ∀ i, ((backTo pos (starEach (b :: []) (Xs i).env)).all (fun x => !x.1) && (backToKw pos (keywordEach [] (Xs i).env)).all (fun x => x.1.isSome)
      && decide ((b :: ([] : List Expr)).length + ([] : List Keyword).length + (if ([] : List Keyword).isEmpty then 0 else 1) < 30)) = true := by intro _; rfl)
    (hline : (apos.endLine == pos.line) = true := by rfl) (hs : ∀ i, starEach (b :: []) (Xs i).env = (false, eval b (Xs i).env) :: starEach [] (Xs i).env := by intro _; rfl) (hplain : ∀ i, (backTo pos (starEach [] (Xs i).env)).any (·.1) = false := by intro _; rfl) :
    SE Xs c.K (.Call (.Attribute a "append" apos) [b] [] pos) δ μ k := by
  refine ⟨fun en τ σ τv H Q q hk => ⟨tBM c.K "list" rAppend (wE Xs a) (tCons (wE Xs b) tNil), fun i => by rw [← ck.K i]; exact pe_bm PySem.F.plainAttrs_list PySem.F.slot_list_append PySem.F.type_list_append mt_append (wE_ok i) (pa_cons (wE_ok i) pa_nil (hs i)) (hbase i) (hfew i) hline (hs i) (hplain i), ?_⟩⟩
  refine h.run en τ σ τv H _ q fun x μ1 vx H1 hx q1 => ?_
  obtain ⟨jo, rfl, ⟨d0, h0⟩, hb⟩ := hx
  obtain ⟨p, vs, rfl, hq, hr⟩ := q1.own_lst h0
  refine ⟨.inl ⟨rfl, vs, .inl (.inl hq)⟩, ?_⟩
  refine hb.run en (.own jo :: τ) σ (.ref p :: τv) H1 _ q1 fun y μ2 vy H2 hy q2 => ?_
  obtain ⟨d, ds, rfl, hj, hz, hn⟩ := hy
  have rv := q2.top
  obtain ⟨p', vs', e1, hq', hr'⟩ := q2.pop.own_lst hj
  cases e1
  refine ⟨p, vs', vy, rfl, rfl, hq', by rw [← hr'.length, sizeLine_eq]; exact hz, hk _ _ _ _ hn ?_⟩
  exact (q2.pop.chgL hj fun kp => reps_iff.mpr (pd_append (reps_iff.mp (Reps.keep kp _ _ hr')) (.cons (Rep.keep kp _ _ rv) .nil))).push (rep_non.mpr rfl)
theorem se_extend {apos : Pos} (ck : COk c kk N Xs) (h : SE Xs c.K a δ μ fun x μ1 => ∃ jo, x = .own jo ∧ (∃ d0, μ1[jo]? = some (.lst d0)) ∧ SE Xs c.K b δ μ1 fun y μ2 => ∃ j2 ds es, y = .own j2 ∧ μ2[jo]? = some (.lst ds) ∧ μ2[j2]? = some (.lst es) ∧ ds.length + es.length ≤ 16777216 ∧ k (.im .non) (μ2.set jo (.lst (ds ++ es))))
    (hbase : ∀ i, attributeBase a "extend" (Xs i).env (eval a (Xs i).env) = eval a (Xs i).env := by intro _; rfl)
    (hfew : ∀ i, ((backTo pos (starEach (b :: []) (Xs i).env)).all (fun x => !x.1) && (backToKw pos (keywordEach [] (Xs i).env)).all (fun x => x.1.isSome)
      && decide ((b :: ([] : List Expr)).length + ([] : List Keyword).length + (if ([] : List Keyword).isEmpty then 0 else 1) < 30)) = true := by intro _; rfl)
    (hline : (apos.endLine == pos.line) = true := by rfl) (hs : ∀ i, starEach (b :: []) (Xs i).env = (false, eval b (Xs i).env) :: starEach [] (Xs i).env := by intro _; rfl) (hplain : ∀ i, (backTo pos (starEach [] (Xs i).env)).any (·.1) = false := by intro _; rfl) :
    SE Xs c.K (.Call (.Attribute a "extend" apos) [b] [] pos) δ μ k := by
  refine ⟨fun en τ σ τv H Q q hk => ⟨tBM c.K "list" rExtend (wE Xs a) (tCons (wE Xs b) tNil), fun i => by rw [← ck.K i]; exact pe_bm PySem.F.plainAttrs_list PySem.F.slot_list_extend PySem.F.type_list_extend mt_extend (wE_ok i) (pa_cons (wE_ok i) pa_nil (hs i)) (hbase i) (hfew i) hline (hs i) (hplain i), ?_⟩⟩
  refine h.run en τ σ τv H _ q fun x μ1 vx H1 hx q1 => ?_
  obtain ⟨jo, rfl, ⟨d0, h0⟩, hb⟩ := hx
  obtain ⟨p, vs, rfl, hq, hr⟩ := q1.own_lst h0
  refine ⟨.inl ⟨rfl, vs, .inl (.inl hq)⟩, ?_⟩
  refine hb.run en (.own jo :: τ) σ (.ref p :: τv) H1 _ q1 fun y μ2 vy H2 hy q2 => ?_
  obtain ⟨j2, ds, es, rfl, hj, hj2, hz, hn⟩ := hy
  obtain ⟨p2, vs2, rfl, hq2, hr2⟩ := q2.own_lst hj2
  obtain ⟨p', vs', e1, hq', hr'⟩ := q2.pop.own_lst hj
  cases e1
  refine ⟨p, p2, vs', vs2, rfl, rfl, hq', hq2, by rw [← hr'.length, ← hr2.length, sizeLine_eq]; exact hz, hk _ _ _ _ hn ?_⟩
  exact (q2.pop.chgL hj fun kp => reps_iff.mpr (pd_append (reps_iff.mp (Reps.keep kp _ _ hr')) (reps_iff.mp (Reps.keep kp _ _ hr2)))).push (rep_non.mpr rfl)
end
end AL
namespace PySem
open Sem (wp)
/-! ### enumerate of a tuple: what the call makes -/
/-- the two cells behind enumerate(t) -/
abbrev cellT (t : Addr) : Obj := { cls := .type "tuple_iterator", data := .fields #[.ref t, .int 0 0] }
abbrev cellE (a : Addr) : Obj := { cls := .type "enumerate", data := .fields #[.none, .bool false, .ref a, rawInt 0, .none, .none] }
set_option maxHeartbeats 800000 in
theorem enumT_made (t : Addr) (items : Array Value) : Meets (Builtin.«enumerate.__new__» ⟨[.type "enumerate", .ref t], []⟩) (fun _ R z => z.heap.IsTuple t items ∧
    R (.ok (.ret (.ref (z.heap.push (cellT t)).objs.size))) { z with heap := (z.heap.push (cellT t)).push (cellE z.heap.objs.size) }) := by
  refine .of_wp fun P w A R z hz => ?_
  rcases z with ⟨hp, gn, dr, tk, so⟩
  rcases hz with ⟨ht, hR⟩
  have begun : ∀ {A' : Around} {E' : Value → Shared → Prop} {Q' : Value → Shared → Prop}, Q' (.ref hp.objs.size) ⟨hp.push (cellT t), gn, dr, tk, so⟩ → wpAny (model P w) A' (pyIter (.ref t)) Q' E' ⟨hp, gn, dr, tk, so⟩ :=
    fun q => (begins_tuple t items).iter P w _ _ _ _ ht q
  have := sub_enumerate
  wp_walk using begun
  refine wpAny_stack_any fun _ => wpAny_pure ?_
  split
  rename_i cl _ _ _ _ _
  cases (cl == Value.type "enumerate")
  all_goals (wp_walk using begun; exact ⟨_, rfl, hR⟩)
theorem enumT_call {prog : Program} {w : World} {A : Around} {E : Value → Shared → Prop} {z : Shared} {t : Addr} {items : Array Value} {Q : Value → Shared → Prop} (ht : z.heap.IsTuple t items)
    (h : ∀ hp, IsEnum hp (z.heap.objs.size + 1) z.heap.objs.size 0 .none → hp.get? z.heap.objs.size = some (cellT t) → (∀ b o, z.heap.get? b = some o → hp.get? b = some o) → Q (.ref (z.heap.objs.size + 1)) { z with heap := hp }) :
    wpAny (model prog w) A (call (.type "enumerate") [.ref t]) Q E z := by
  have two : (z.heap.push (cellT t)).objs.size = z.heap.objs.size + 1 := Heap.size_push ..
  have own : ((z.heap.push (cellT t)).push (cellE z.heap.objs.size)).get? (z.heap.objs.size + 1) = some (cellE z.heap.objs.size) := by
    rw [← two]; exact Heap.get?_push_size _ rfl
  have is : IsEnum ((z.heap.push (cellT t)).push (cellE z.heap.objs.size)) (z.heap.objs.size + 1) z.heap.objs.size 0 .none := own
  refine callType_new F.called_enumerate (by decide) (F.typeCall_enumerate_1 _) (F.newCall_enumerate_1 _) (fun o => F.args_object_init_2 o _) F.entry_enumerate_new (enumT_made t items) ⟨ht, ?_⟩
  show _ ∧ _
  rw [two]
  exact ⟨⟨_, is, rfl⟩, h _ is (Heap.get?_push_of_some _ (Heap.get?_push_size _ rfl)) fun b o e => Heap.get?_push_of_some _ (Heap.get?_push_of_some _ e)⟩
end PySem

namespace AL
open PySem PySem.Spec PyProof.Rows L2

/-- the tuple at a, each item in a new pair -/
def IteT (K : PySem.W.Frag) (a : Addr) : It :=
  ⟨fun i H => ∃ (xs : List V) (x : V), SqT K H a xs ∧ xs[i]? = some x, fun i H v H' => ∃ T x, v = .ref T ∧ H T = none ∧ H' = upd H T (.tup [.int (i : Nat), x]) ∧ ∀ xs, SqT K H a xs → xs[i]? = some x, fun i H => ∃ xs : List V, SqT K H a xs ∧ xs.length = i⟩
/-- what stands at turn i: the enumerate at e over the tuple's iterator at it -/
def StT (a e it : Addr) (i : Nat) (hp : Heap) : Prop := (∃ old, IsEnum hp e it ((i : Nat) : Int) old) ∧ hp.IsTupleIter it a i ∧ e ≠ it
theorem StT.cells {a e it : Addr} {i : Nat} {hp : Heap} (st : StT a e it i hp) {b : Addr} (hb : b = e ∨ b = it) : ∃ o, hp.get? b = some o ∧ ∀ v, o.data ≠ .cell v := by
  obtain ⟨⟨old, g1⟩, ⟨o, g2, _, g3⟩, _⟩ := st
  rcases hb with rfl | rfl
  · exact ⟨_, g1, fun v z => by cases z⟩
  · exact ⟨o, g2, fun v z => by rw [g3] at z; cases z⟩
theorem StT.below {a e it : Addr} {i : Nat} {hp : Heap} (st : StT a e it i hp) {b : Addr} (hb : b = e ∨ b = it) : b < hp.objs.size := let ⟨_, g, _⟩ := st.cells hb; Heap.lt_size g
/-- the tuple is none of the two -/
theorem StT.apart {a e it : Addr} {i : Nat} {hp : Heap} {items : Array Value} (st : StT a e it i hp) (ht : hp.IsTuple a items) : a ≠ it ∧ a ≠ e := by
  obtain ⟨⟨old, g1⟩, ⟨o2, g2, c2, _⟩, _⟩ := st
  obtain ⟨o, g, cl, _⟩ := ht
  refine ⟨fun z => ?_, fun z => ?_⟩
  · subst z
    rw [g] at g2; cases g2
    rw [cl] at c2
    revert c2; decide
  · subst z
    have g1 : hp.get? a = _ := g1
    rw [g] at g1; cases g1
    revert cl
    show ¬ (Value.type "enumerate" = Value.type "tuple")
    decide
theorem turn_enumT {P : Program} {w : World} {K : PySem.W.Frag} {elts : List Expr} {kk : Nat} {tpos : Pos} (a e it : Addr) : Turn P w K (.Tuple elts kk tpos) (IteT K a) [e, it] e (StT a e it) where
  mem := List.mem_cons_self ..
  obj := fun i hp st b hb => st.cells (by simpa using hb)
  keep := fun i hp hp' st k => ⟨st.1.imp fun old g => k e (List.mem_cons_self ..) _ g, st.2.1.at fun o g => k it (by simp) o g, st.2.2⟩
  self := fun A i s Q E st h => wpAny_pyIter_enum st.1.choose_spec h
  done := by
    rintro X rfl rfl rfl hc i pins s σ H E I hf st ⟨xs, hq, hx⟩
    obtain ⟨its, rv, p, _⟩ := I.tuple hq
    have pt : s.heap.IsTuple a its.toArray := p
    obtain ⟨g0, g1, g2, g3, g4, g5⟩ := hf it (List.mem_cons_of_mem _ (List.mem_cons_self ..))
    obtain ⟨old, he⟩ := st.1
    have hn : i = its.toArray.size := by rw [← hx, rv.length]; rfl
    subst hn
    exact wpAny_pyNext_enum_endD (Draws.tuple (A := X.A.in1) (I.ok.hd hc) it a (st.apart pt).1 its.toArray) he ⟨st.2.1, pt⟩ fun hp eb => ⟨rfl, I.turned (t' := s.toks) (fun b o hb q => eb b o hb q) g0 g1 g3 g4 g5⟩
  item := by
    rintro X rfl rfl rfl hc i pins s σ H E I hf st ⟨xs, x, hq, hx⟩
    obtain ⟨its, rv, p, _⟩ := I.tuple hq
    obtain ⟨u, hu, ru⟩ := rv.get hx
    have pt : s.heap.IsTuple a its.toArray := p
    have ap := st.apart pt
    obtain ⟨⟨old, he⟩, hit, hne⟩ := id st
    have hlt : i < its.toArray.size := (List.getElem?_eq_some_iff.mp hu).1
    have fresh := I.hok.fresh (Nat.le_refl s.heap.objs.size)
    refine wpAny_pyNext_enum_itemD (Draws.tuple (A := X.A.in1) (I.ok.hd hc) it a ap.1 its.toArray) he ⟨hit, pt⟩ hlt hne (by simp [hne, Ne.symm ap.2]) fun y hp tk hy ho hst hT _ hk => ?_
    obtain rfl : y = u := by
      have hy : its.toArray[i]? = some y := hy
      rw [List.getElem?_toArray, hu] at hy
      exact (Option.some.inj hy).symm
    refine ⟨_, rfl, wpAny_letOwnedTupleGo_enum (s := { s with heap := hp, toks := tk + 1 }) ho fun hp2 he2 sb => ?_⟩
    have pair : hp2.get? s.heap.objs.size = some { cls := .type "tuple", data := .seq #[.int i tk, y] } := by
      rw [sb.2 _ (Nat.ne_of_gt (st.below (.inl rfl)))]; exact hT
    have J : Inv X pins σ (upd H s.heap.objs.size (.tup [.int (i : Nat), x])) { s with heap := hp2, toks := tk + 1 } := by
      refine I.turnedNew (ch := [e, it]) (fun b o hb q => ?_) hf (Nat.le_refl _) ⟨(show 2 ≤ sizeLine by decide), [.int i tk, y], .cons ⟨_, rfl⟩ (.cons ru .nil), ⟨_, pair, rfl, _, rfl⟩⟩
      have hb1 : b ≠ e := fun z => hb (by simp [z])
      have hb2 : b ≠ it := fun z => hb (by simp [z])
      rw [sb.2 b hb1]; exact hk b o hb1 hb2 q
    refine ⟨.ref s.heap.objs.size, _, J, rfl, ⟨_, x, rfl, fresh, rfl, fun ys hy => by rw [I.tuple_inj hy hq]; exact hx⟩, ⟨⟨y, ?_⟩, hst.1.at fun o q => ?_, hne⟩, fun b hb => ?_⟩
    · have e1 : ((i + 1 : Nat) : Int) = (i : Int) + 1 := Int.natCast_succ i
      rw [e1]; exact he2
    · rw [sb.2 it (Ne.symm hne)]; exact q
    · have hb2 : b = e ∨ b = it := by simpa using hb
      rw [upd_ne (Nat.ne_of_lt (st.below hb2))]
      exact (hf b hb).1

def iEnumT (K : PySem.W.Frag) (ta : TA) : TI := fun σ H R => ta σ H fun vs H1 => ∃ a xs, vs = [.ref a] ∧ SqT K H1 a xs ∧ R (IteT K a) H1
theorem pi_enumT {X : Cx} {e : Expr} {ta : TA} {p pos tpos : Pos} {elts : List Expr} {kk : Nat} (hg : Gl X "enumerate") (hm : X.mg "enumerate" = none) (ha : PA X [e] ta) (hs : starEach [e] X.env = [(false, eval e X.env)] := by rfl) :
    PI X (.Tuple elts kk tpos) (.Call (.Name "enumerate" p) [e] [] pos) (iEnumT X.K ta) := by
  constructor
  intro pins s σ H R I h
  refine Call_ (ld_blt I hg hm boot_enumerate (PyProof.Rows.callWith_type1 (thn (ha.run pos pins s σ H _ I h) fun us z ⟨vs, H1, J, rel, mine⟩ => ?_) hs rfl))
  obtain ⟨a, xs, ev, hq, q⟩ := mine
  subst ev
  cases rel with
  | cons rr rest =>
  cases rest
  cases rr
  obtain ⟨its, _, p', _⟩ := J.tuple hq
  refine enumT_call (show z.heap.IsTuple a its.toArray from p') fun hp is cell hk => wpAny_pyIter_enum is ?_
  have J2 : Inv X pins σ H1 { z with heap := hp } := J.kept (t' := z.toks) hk
  refine ⟨z.heap.objs.size + 1, [z.heap.objs.size + 1, z.heap.objs.size], _, _, H1, rfl, J2, turn_enumT a (z.heap.objs.size + 1) z.heap.objs.size, ⟨⟨.none, is⟩, ⟨_, cell, rfl, rfl⟩, Nat.succ_ne_self _⟩, fun b hb => ?_, q⟩
  have hle : z.heap.objs.size ≤ b := by
    rcases (show b = z.heap.objs.size + 1 ∨ b = z.heap.objs.size by simpa using hb) with q1 | q1 <;> rw [q1]
    · exact Nat.le_succ _
    · exact Nat.le_refl _
  exact J.fpOk hle (J.hok.fresh hle)

/-! ### d.update(e), two dicts -/
theorem mt_update {X : Cx} : MtR X "dict.update" (fun x xs H Q => ∃ a b kvs more, x = .ref a ∧ xs = [.ref b] ∧ a ≠ b ∧ H a = some (.dK kvs) ∧ H b = some (.dK more) ∧ kvs.length + more.length ≤ sizeLine ∧ Q .non (upd H a (.dK (mergeK kvs more)))) := by
  intro pins s σ H x xs v us Q I rx rv h
  obtain ⟨a, b, kvs, more, rfl, rfl, hab, ha, hb, hz, q⟩ := h
  cases rx
  obtain ⟨u, rfl, ru⟩ := rv.one
  cases ru
  obtain ⟨z1, hd1, vs1, rel1, dd1⟩ := dk_of I.hok ha
  obtain ⟨z2, hd2, vs2, rel2, dd2⟩ := dk_of I.hok hb
  refine call_meetsIn PySem.F.slot_dict_update dd1.typeIs PySem.F.entry_dict_update (PySem.F.args_dict_update_2 _ _) (meets_dict_update (mixKind X.prog X.w) a b hab hd2)
    ⟨vs1, vs2, dd1, dd2, by rw [← rel1.length, ← rel2.length]; exact hz, fun h' d1 d2 sb => ?_⟩
  have he : ∃ q, h'.get? a = some q := let ⟨q, _, _, hq, _⟩ := d1; ⟨q, hq⟩
  refine ⟨.non, _, d_write I (by rw [ha]; exact True.intro) sb he (dk_new (Nat.le_trans (length_mergeK more kvs) hz) hd1 (KV.merge rel2 rel1) d1), rfl, q⟩

section
variable {ι : Type} {Xs : ι → Cx} {c : Cfg} {kk : Nat} {N : List Str} {δ : List (Option AV)} {μ : List M} {k : AV → List M → Prop} {kb : Bool → List M → Prop} {ka : List AV → List M → Prop} {E : AE} {e a b cc : Expr} {es : List Expr} {pos pos' p p2 : Pos} {x y z : Str} {i j : Int} {jo : Nat} {tg it : Expr} {ki : Nat → (Nat → D) → List (Nat × List D) → List M → Prop}

/-- enumerate of a tuple of data -/
theorem si_enumT {xp tpos : Pos} {elts : List Expr} {kn : Nat} (ck : COk c kk N Xs) (hm : c.mg "enumerate" = none) (h : SE Xs c.K a δ μ fun v μ1 => ∃ ds : List D, v = .im (.tup ds) ∧ ki ds.length (fun i => .tup [.int (i : Nat), ds.getD i .non]) [] μ1)
    (hg : ∀ i, Gl (Xs i) "enumerate" := by exact fun _ => rfl) (hs : ∀ i, starEach [a] (Xs i).env = [(false, eval a (Xs i).env)] := by intro _; rfl) (hs' : ∀ i, starEach [a] (Xs i).env = (false, eval a (Xs i).env) :: starEach [] (Xs i).env := by intro _; rfl) :
    SI Xs c.K (.Tuple elts kn tpos) (.Call (.Name "enumerate" xp) [a] [] pos) δ μ ki := by
  refine ⟨fun en τ σ τv H R q hk => ⟨iEnumT c.K (tCons (wE Xs a) tNil), fun i => by rw [← ck.K i]; exact pi_enumT (hg i) (by rw [ck.mg i]; exact hm) (pa_cons (wE_ok i) pa_nil (hs' i)) (hs i), ?_⟩⟩
  refine h.run en τ σ τv H _ q fun v μ1 vv H1 ha q1 => ?_
  obtain ⟨ds, rfl, hn⟩ := ha
  obtain ⟨p, vs, rfl, hq, hr⟩ := rep_tup.mp q1.top
  have tup_at : ∀ δ' μ' σ' H', Holds c.K en δ' ([.im (.tup ds)] ++ τ) μ' σ' ([.ref p] ++ τv) H' → ∃ ws, SqT c.K H' p ws ∧ Reps c.K H' ds ws := fun δ' μ' σ' H' q2 => by
    obtain ⟨p', ws, e, h1, h2⟩ := rep_tup.mp (show Rep c.K H' (.tup ds) (.ref p) from q2.top)
    cases e
    exact ⟨ws, h1, h2⟩
  have W : Walk (IteT c.K p) ds.length (fun H' => ∃ ws, SqT c.K H' p ws ∧ Reps c.K H' ds ws) (fun i H' v H'' => ∃ T x, v = .ref T ∧ H' T = none ∧ H'' = upd H' T (.tup [.int (i : Nat), x]) ∧ ∀ xs, SqT c.K H' p xs → xs[i]? = some x) :=
    ⟨fun i H' hi ⟨ws, g1, g2⟩ => ⟨ws, ws[i]'(by rw [← g2.length]; exact hi), g1, by simp⟩, fun H' ⟨ws, g1, g2⟩ => ⟨ws, g1, g2.length.symm⟩, fun i H' x H'' hi _ y => y⟩
  refine ⟨p, vs, rfl, hq, hk _ _ [] μ1 H1 [.im (.tup ds)] [.ref p] _ _ _ hn q1 rfl (fun _ h _ e => by rw [List.mem_singleton.mp h] at e; cases e) W (fun δ' μ' σ' H' q2 _ => tup_at δ' μ' σ' H' q2) fun i x δ' μ' σ' H' H'' hi q2 _ y => ?_⟩
  obtain ⟨T, w, rfl, hT, rfl, y⟩ := y
  obtain ⟨ws, g1, g2⟩ := tup_at δ' μ' σ' _ q2
  have s : Same H' (upd H' T (.tup [.int (i : Nat), w])) := same_new hT
  refine (q2.ext s).push (rep_tup.mpr ⟨T, _, rfl, .inl (.inl upd_same), reps_cons.mpr ⟨_, _, rfl, rep_int.mpr rfl, reps_cons.mpr ⟨_, _, rfl, Rep.keep (Keep.of_same s) _ _ (reps_at g2 (y ws g1)), reps_nil.mpr rfl⟩⟩⟩)

/-! ### comprehensions -/
theorem wipe_set {σ : L2.St} {j : Nat} {w : Option V} : ∀ {vs : List Nat}, j ∈ vs → wipe (σ.set j w) vs = wipe σ vs
  | [], h => by cases h
  | v :: vs, h => by
    show (wipe (σ.set j w) vs).set v none = (wipe σ vs).set v none
    by_cases hv : j ∈ vs
    · rw [wipe_set hv]
    · have hj : j = v := by
        rcases List.mem_cons.mp h with z | z
        · exact z
        · exact absurd z hv
      subst hj
      have gen : ∀ {σ : L2.St} {w : Option V} {vs : List Nat}, j ∉ vs → wipe (σ.set j w) vs = (wipe σ vs).set j w := by
        intro σ w vs
        induction vs with
        | nil => intro _; rfl
        | cons u us ih =>
          intro hn
          simp only [List.mem_cons, not_or] at hn
          show (wipe (σ.set j w) us).set u none = ((wipe σ us).set u none).set j w
          rw [ih hn.2, List.set_comm _ _ hn.1]
      rw [gen hv, List.set_set]
theorem wipe_wipe {σ : L2.St} : ∀ {vs us : List Nat}, (∀ v ∈ us, v ∈ vs) → wipe (wipe σ us) vs = wipe σ vs
  | vs, [], _ => rfl
  | vs, u :: us, h => by
    show wipe ((wipe σ us).set u none) vs = wipe σ vs
    rw [wipe_set (h u (by simp)), wipe_wipe fun v hv => h v (by simp [hv])]
def wipeA (δ : List (Option AV)) : List Nat → List (Option AV)
  | [] => δ
  | v :: vs => (wipeA δ vs).set v none
theorem Holds.wiped {K : PySem.W.Frag} {en : Ent} {τ : List AV} {σ : L2.St} {τv : List V} {H : Hp} (q : Holds K en δ τ μ σ τv H) (vs : List Nat) : Holds K en (wipeA δ vs) τ μ (wipe σ vs) τv H := by
  obtain ⟨fps, q⟩ := q
  have gen : ∀ vs : List Nat, Paired (SlR K H fps) (wipeA δ vs) (wipe σ vs) := by
    intro vs
    induction vs with
    | nil => exact q.sl
    | cons v vs ih => exact pd_set (F := SlR K H fps) (x := none) (y := none) True.intro v ih
  exact ⟨fps, q.mu, q.dj, gen vs, q.tm, q.fr, q.nw, q.hd⟩
/-- the contexts of a block -/
abbrev blkX (Xs : ι → Cx) (scope : Scope) : (ι × Shared × Hp × Addr × List (Str × Addr) × List Addr) → Cx := fun j => (Xs j.1).blk j.2.1 j.2.2.1 scope (compEnvC scope j.2.2.2.2.1 j.2.2.2.1 (Xs j.1).env) j.2.2.2.2.2
theorem COk.blk {scope : Scope} (ck : COk c kk N Xs) : COk c kk N (blkX Xs scope) :=
  ⟨fun j => ck.prog j.1, fun j => ck.w j.1, fun j => ck.K j.1, fun j => ck.mg j.1, fun j => ck.base j.1, fun j => ck.room j.1, fun j => ck.calm j.1, fun j => ck.nm j.1, ck.nd, fun _ => rfl⟩
theorem gd_app {ow : List (Nat × List D)} {ms more : List M} (h : gd ow ms) : gd ow (ms ++ more) := fun p hp => by
  have := h p hp
  rw [List.getElem?_append_left (List.getElem?_eq_some_iff.mp this).1]
  exact this
theorem gd_take {ow : List (Nat × List D)} {ms : List M} {n : Nat} (h : gd ow (ms.take n)) : gd ow ms := fun p hp => by
  have := h p hp
  rw [List.getElem?_take] at this
  split at this
  · exact this
  · cases this
/-- a turn's end in a comprehension: all but the list, whose place is n -/
def LcAt {P : Type} (n : Nat) (ml : P → List M) (inv : P → Prop) (acc : P → List D) (acc0 : List D) (d : Option D) (μ : List M) : Prop :=
  ∃ p, inv p ∧ μ.take (n + 1) = ml p ++ [.lst acc0] ∧ (ml p).length = n ∧ acc p = (match d with | some d => acc0 ++ [d] | none => acc0)
/-- forgetting the last objects -/
theorem Holds.cutN {K : PySem.W.Frag} {en : Ent} {τ : List AV} {σ : L2.St} {τv : List V} {H : Hp} {n : Nat} {δ' : List (Option AV)} (q : Holds K en δ τ μ σ τv H) (hn : en.Z.length ≤ n) (fg : Paired (FgO n) δ δ') (ht : ∀ a ∈ τ, ∀ k, a = .own k → k < n) : Holds K en δ' τ (μ.take n) σ τv H := by
  obtain ⟨fps, q⟩ := q
  exact ⟨_, q.cut hn fg ht⟩
theorem fgO_refl {K : PySem.W.Frag} {H : Hp} {fps : List (List Addr)} {n : Nat} (hn : fps.length ≤ n) : ∀ {δ : List (Option AV)} {σ : L2.St}, Paired (SlR K H fps) δ σ → Paired (FgO n) δ δ
  | [], _, .nil => .nil
  | a :: l, _, .cons (b := v) r t => by
    refine .cons ?_ (fgO_refl hn t)
    cases a with
    | none => exact True.intro
    | some a =>
      cases a with
      | im d => exact rfl
      | own j =>
        cases v with
        | none => exact (r : False).elim
        | some v =>
          obtain ⟨p, rr, e, _⟩ := (r : ∃ p rr, fps[j]? = some (p :: rr) ∧ v = .ref p)
          exact ⟨rfl, Nat.lt_of_lt_of_le (List.getElem?_eq_some_iff.mp e).1 hn⟩
/-- the slots kept as temps -/
theorem slots_temps {K : PySem.W.Frag} {H : Hp} {fps : List (List Addr)} : ∀ {δ : List (Option AV)} {σ : L2.St}, Paired (SlR K H fps) δ σ →
    ∃ (τs : List AV) (vs : List V), τs.length = vs.length ∧ Paired (AVR K H fps) τs vs ∧ ∀ H' fps', Paired (AVR K H' fps') τs vs → Paired (SlR K H' fps') δ σ
  | [], _, .nil => ⟨[], [], rfl, .nil, fun _ _ _ => .nil⟩
  | a :: l, _, .cons (b := ov) r t => by
    obtain ⟨τs, vs, hl, h1, h2⟩ := slots_temps t
    cases a with
    | none => exact ⟨τs, vs, hl, h1, fun H' fps' q => .cons True.intro (h2 H' fps' q)⟩
    | some a =>
      cases ov with
      | none => exact (r : False).elim
      | some v =>
        refine ⟨a :: τs, v :: vs, by simp [hl], .cons r h1, fun H' fps' q => ?_⟩
        cases q with
        | cons r' t' => exact .cons r' (h2 H' fps' t')
theorem Holds.to_slots {K : PySem.W.Frag} {en : Ent} {τ τE : List AV} {σ : L2.St} {τv vE : List V} {H : Hp} (hl : τE.length = vE.length) (q : Holds K en δ (τE ++ τ) μ σ (vE ++ τv) H) : Holds K en (δ ++ τE.map some) τ μ (σ ++ vE.map some) τv H := by
  obtain ⟨fps, q⟩ := q
  obtain ⟨h1, h2⟩ := pd_split hl q.tm
  have gen : ∀ {as : List AV} {vs : List V}, Paired (AVR K H fps) as vs → Paired (SlR K H fps) (as.map some) (vs.map some) := by
    intro as
    induction as with
    | nil => intro vs h; cases h; exact .nil
    | cons a l ih => intro vs h; cases h with | cons r t => exact .cons r (ih t)
  exact ⟨fps, q.mu, q.dj, pd_append q.sl (gen h1), h2, q.fr, q.nw, q.hd⟩
theorem Holds.of_slots {K : PySem.W.Frag} {en : Ent} {τ τE : List AV} {σ : L2.St} {τv vE : List V} {H : Hp} {w : AV} {wv : V} (hδ : δ.length = σ.length) (hl : τE.length = vE.length) (q : Holds K en (δ ++ τE.map some) (w :: τ) μ (σ ++ vE.map some) (wv :: τv) H) : Holds K en δ (w :: (τE ++ τ)) μ σ (wv :: (vE ++ τv)) H := by
  obtain ⟨fps, q⟩ := q
  obtain ⟨h1, h2⟩ := pd_split hδ q.sl
  have gen : ∀ {as : List AV} {vs : List V}, as.length = vs.length → Paired (SlR K H fps) (as.map some) (vs.map some) → Paired (AVR K H fps) as vs := by
    intro as
    induction as with
    | nil => intro vs hl h; cases vs with | nil => exact .nil | cons _ _ => cases hl
    | cons a l ih =>
      intro vs hl h
      cases vs with
      | nil => cases hl
      | cons v vs => cases h with | cons r t => exact .cons r (ih (by simpa using hl) t)
  cases q.tm with
  | cons r t => exact ⟨fps, q.mu, q.dj, h1, .cons r (pd_append (gen hl h2) t), q.fr, q.nw, q.hd⟩
/-- [elt for tg in it if ifs]: the invariant by the turn over a family of states -/
theorem lc_body {P : Type} {ifs : List Expr} {scope : Scope} {own : List (Str × Nat)} (ml : Nat → P → List M) (inv : Nat → P → Prop) (acc : Nat → P → List D) {g : TG} {gA : D → List (Option AV) → List (Option AV)}
    (hgw : ∀ en τ σ τv H d v μ' δ' (Q : L2.St → Hp → Prop), Holds c.K en δ' (.im d :: τ) μ' σ (v :: τv) H → (∀ σ', wipe σ' (own.map (·.2)) = wipe σ (own.map (·.2)) → Holds c.K en (gA d δ') τ μ' σ' τv H → Q σ' H) → g v σ H Q)
    (h : SI Xs c.K tg it δ μ fun n f ow μ1 =>
      (∃ p0, inv 0 p0 ∧ ml 0 p0 = μ1 ∧ acc 0 p0 = []) ∧ (∀ i p, i ≤ n → inv i p → gd ow (ml i p) ∧ (ml i p).length = μ1.length ∧ (acc i p).length < 16777216) ∧
      (∀ i p, i < n → inv i p → STs (blkX Xs scope) c.K ifs (gA (f i) (wipeA δ (own.map (·.2)))) (ml i p ++ [.lst (acc i p)]) fun b μ2 =>
        (b = true → SE (blkX Xs scope) c.K e (gA (f i) (wipeA δ (own.map (·.2)))) μ2 fun w μ3 => ∃ d, w = .im d ∧ LcAt μ1.length (ml (i + 1)) (inv (i + 1)) (acc (i + 1)) (acc i p) (some d) μ3) ∧
        (b = false → LcAt μ1.length (ml (i + 1)) (inv (i + 1)) (acc (i + 1)) (acc i p) none μ2)) ∧
      (∀ p, inv n p → k (.own μ1.length) (ml n p ++ [.lst (acc n p)]))) :
    ∀ (en : Ent) (τ : List AV) (σ : L2.St) (τv : List V) (H : Hp) (Q : VK), Holds c.K en δ τ μ σ τv H → (∀ a μ' v H', k a μ' → Holds c.K en δ (a :: τ) μ' σ (v :: τv) H' → Q v H') →
      tLc (wI Xs tg it) g (wTs (blkX Xs scope) ifs) (wE (blkX Xs scope) e) (own.map (·.2)) σ H Q := by
  intro en τ σ τv H Q q hk
  obtain ⟨τs, vs, hls, hback, qs⟩ : ∃ (τs : List AV) (vs : List V), τs.length = vs.length ∧ (∀ H' fps', Paired (AVR c.K H' fps') τs vs → Paired (SlR c.K H' fps') δ σ) ∧ Holds c.K en δ (τs ++ τ) μ σ (vs ++ τv) H := by
    obtain ⟨fps, q⟩ := q
    obtain ⟨τs, vs, h1, h2, h3⟩ := slots_temps q.sl
    exact ⟨τs, vs, h1, h3, fps, q.mu, q.dj, q.sl, pd_append h2 q.tm, q.fr, q.nw, q.hd⟩
  have hδ : δ.length = σ.length := by obtain ⟨fps, q⟩ := q; exact q.sl.length
  refine h.run en (τs ++ τ) σ (vs ++ τv) H _ qs fun n f ow μ1 H1 τx τvx J G Y hn q1 hl hx W hG hY => ?_
  obtain ⟨⟨p0, hp0, hml0, hacc0⟩, hgd, hstep, hend⟩ := hn
  intro Dl hD
  have hz : en.Z.length ≤ μ1.length + 1 := by obtain ⟨fps, q1⟩ := q1; have := q1.zlt; omega
  have ht : ∀ a ∈ AV.own μ1.length :: (τx ++ (τs ++ τ)), ∀ k, a = .own k → k < μ1.length + 1 := by
    intro a ha k e1
    rcases List.mem_cons.mp ha with z | z
    · rw [e1] at z; cases z; exact Nat.lt_succ_self _
    · obtain ⟨fps, q1⟩ := q1
      have := q1.tlt a z k e1
      omega
  have fgw : Paired (FgO (μ1.length + 1)) δ δ := by
    obtain ⟨fps, q1⟩ := q1
    exact fgO_refl (by rw [← q1.mu.length]; exact Nat.le_succ _) q1.sl
  have st0 : Holds c.K en δ (.own μ1.length :: (τx ++ (τs ++ τ))) (μ1 ++ [.lst []]) σ (.ref Dl :: (τvx ++ (vs ++ τv))) (upd H1 Dl (.lst [])) := q1.new hD fun s => ⟨Dl, [], rfl, upd_same, reps_nil.mpr rfl⟩
  -- the frame's own slots again
  have reslot : ∀ {δ2 : List (Option AV)} {σ2 : L2.St} {μ2 : List M} {H2 : Hp} {τE : List AV} {vE : List V}, τE.length = vE.length → Holds c.K en δ2 (τE ++ .own μ1.length :: (τx ++ (τs ++ τ))) μ2 σ2 (vE ++ .ref Dl :: (τvx ++ (vs ++ τv))) H2 →
      Holds c.K en δ (τE ++ .own μ1.length :: (τx ++ (τs ++ τ))) μ2 σ (vE ++ .ref Dl :: (τvx ++ (vs ++ τv))) H2 := fun hlE q2 => by
    obtain ⟨fps, q2⟩ := q2
    have h1 := (pd_split hlE q2.tm).2
    cases h1 with
    | cons r t => exact ⟨fps, q2.mu, q2.dj, hback _ _ (pd_split hls (pd_split hl t).2).1, q2.tm, q2.fr, q2.nw, q2.hd⟩
  refine lc_it W (fun i H' => ∃ p, inv i p ∧ Holds c.K en δ (.own μ1.length :: (τx ++ (τs ++ τ))) (ml i p ++ [.lst (acc i p)]) σ (.ref Dl :: (τvx ++ (vs ++ τv))) H') ⟨p0, hp0, by rw [hml0, hacc0]; exact st0⟩
    (fun i H' hi ⟨p, hp, q2⟩ => hG _ _ _ _ q2.pop (gd_app (hgd i p hi hp).1)) (fun i x H' H'' hi ⟨p, hp, q2⟩ y => ?_) (fun H' ⟨p, hp, q2⟩ => ?_)
  · obtain ⟨hg1, hg2, hg3⟩ := hgd i p (Nat.le_of_lt hi) hp
    have q3 : Holds c.K en δ (.im (f i) :: ([.own μ1.length] ++ (τx ++ (τs ++ τ)))) (ml i p ++ [.lst (acc i p)]) σ (x :: ([.ref Dl] ++ (τvx ++ (vs ++ τv)))) H'' :=
      (hY i x _ _ _ H' H'' hi (q2.to_slots (τE := [.own μ1.length]) (vE := [.ref Dl]) rfl) (gd_app hg1) y).of_slots hδ rfl
    refine hgw en _ _ _ _ _ _ _ _ _ (q3.wiped (own.map (·.2))) fun σ' hw q5 => ⟨by rw [hw, wipe_wipe fun v hv => hv], ?_⟩
    refine (hstep i p hi hp).run en _ σ' _ H'' _ q5 fun b μ2 H3 hb q6 => ?_
    cases b with
    | false =>
      rw [if_neg Bool.false_ne_true]
      obtain ⟨p', hp', e1, e2, e3⟩ := hb.2 rfl
      have e3 : acc (i + 1) p' = acc i p := e3
      refine ⟨p', hp', ?_⟩
      have q7 := (reslot (τE := []) (vE := []) rfl q6).cutN hz fgw ht
      rw [e1, ← e3] at q7
      exact q7
    | true =>
      rw [if_pos rfl]
      refine (hb.1 rfl).run en _ σ' _ H3 _ q6 fun w μ3 v H4 hw3 q7 => ?_
      obtain ⟨d, rfl, p', hp', e1, e2, e3⟩ := hw3
      have e3 : acc (i + 1) p' = acc i p ++ [d] := e3
      have q8 : Holds c.K en δ (.im d :: .own μ1.length :: (τx ++ (τs ++ τ))) μ3 σ (v :: .ref Dl :: (τvx ++ (vs ++ τv))) H4 := reslot (τE := [.im d]) (vE := [v]) rfl q7
      have hj : μ3[μ1.length]? = some (.lst (acc i p)) := by
        have h1 : (μ3.take (μ1.length + 1))[μ1.length]? = some (.lst (acc i p)) := by
          rw [e1, List.getElem?_append_right (by omega), e2, Nat.sub_self]; rfl
        rw [List.getElem?_take_of_lt (Nat.lt_succ_self _)] at h1
        exact h1
      obtain ⟨p1, ws, e4, hq, hr⟩ := q8.pop.own_lst hj
      cases e4
      refine ⟨ws, hq, by rw [← hr.length, sizeLine_eq]; exact hg3, p', hp', ?_⟩
      have rv := q8.top
      have q9 : Holds c.K en δ (.own μ1.length :: .own μ1.length :: (τx ++ (τs ++ τ))) μ3 σ (.ref Dl :: .ref Dl :: (τvx ++ (vs ++ τv))) H4 := by
        obtain ⟨fps, q8⟩ := q8.pop
        cases q8.tm with
        | cons r t => exact ⟨fps, q8.mu, q8.dj, q8.sl, .cons r (.cons r t), q8.fr, q8.nw, q8.hd⟩
      have q10 := (q9.chgL (ds' := acc i p ++ [d]) (vs' := ws ++ [v]) hj fun kp => reps_iff.mpr (pd_append (reps_iff.mp (Reps.keep kp _ _ hr)) (.cons (Rep.keep kp _ _ rv) .nil))).cutN hz fgw ht
      have e5 : (μ3.set μ1.length (.lst (acc i p ++ [d]))).take (μ1.length + 1) = ml (i + 1) p' ++ [.lst (acc (i + 1) p')] := by
        rw [List.take_set, e1, e3]
        rw [List.set_append_right _ _ (by omega), e2, Nat.sub_self]
        rfl
      rw [e5] at q10
      exact q10
  · have q3 : Holds c.K en δ (.own μ1.length :: τ) (ml n p ++ [.lst (acc n p)]) σ (.ref Dl :: τv) H' := by
      obtain ⟨fps, q2⟩ := q2
      cases q2.tm with
      | cons r t => exact ⟨fps, q2.mu, q2.dj, q2.sl, .cons r (pd_split hls (pd_split hl t).2).2, q2.fr, q2.nw, q2.hd⟩
    exact hk _ _ _ _ (hend p hp) q3
/-- the target a name of the block -/
theorem se_lc {P : Type} {ifs : List Expr} {scope : Scope} (own : List (Str × Nat)) {j : Nat} {px : Pos} (ml : Nat → P → List M) (inv : Nat → P → Prop) (acc : Nat → P → List D) (ck : COk c kk N Xs) (hj : At N j x) (hown : j ∈ own.map (·.2))
    (ok : ∀ i, BlkOk (Xs i).N (Xs i).env.scope scope own) (hx : ∀ i, Loc (blkX Xs scope i).env.scope x) (hf : ∀ i, (blkX Xs scope i).fn x = true ∨ (blkX Xs scope i).env.scope.names.lookup x = some .local)
    (h : SI Xs c.K (.Name x px) it δ μ fun n f ow μ1 =>
      (∃ p0, inv 0 p0 ∧ ml 0 p0 = μ1 ∧ acc 0 p0 = []) ∧ (∀ i p, i ≤ n → inv i p → gd ow (ml i p) ∧ (ml i p).length = μ1.length ∧ (acc i p).length < 16777216) ∧
      (∀ i p, i < n → inv i p → STs (blkX Xs scope) c.K ifs ((wipeA δ (own.map (·.2))).set j (some (.im (f i)))) (ml i p ++ [.lst (acc i p)]) fun b μ2 =>
        (b = true → SE (blkX Xs scope) c.K e ((wipeA δ (own.map (·.2))).set j (some (.im (f i)))) μ2 fun w μ3 => ∃ d, w = .im d ∧ LcAt μ1.length (ml (i + 1)) (inv (i + 1)) (acc (i + 1)) (acc i p) (some d) μ3) ∧
        (b = false → LcAt μ1.length (ml (i + 1)) (inv (i + 1)) (acc (i + 1)) (acc i p) none μ2)) ∧
      (∀ p, inv n p → k (.own μ1.length) (ml n p ++ [.lst (acc n p)])))
    (hs : ∀ i x, foldedSetIterable it (Xs i).env x = pure x := by intro _ _; rfl) : SE Xs c.K (.ListComp e [⟨.Name x px, it, ifs, 0⟩] scope pos) δ μ k := by
  refine ⟨fun en τ σ τv H Q q hk => ⟨tLc (wI Xs (.Name x px) it) (gName j) (wTs (blkX Xs scope) ifs) (wE (blkX Xs scope) e) (own.map (·.2)), fun i => ?_, ?_⟩⟩
  · exact pe_lc (ck.calm i) (by rw [ck.nm i]; exact ck.nd) (wI_ok i) (ok i) (fun s H C cl fp => pg_name (by rw [show ((Xs i).blk s H scope (compEnvC scope cl C (Xs i).env) fp).N = N from ck.nm i]; exact ck.nd) (by rw [show ((Xs i).blk s H scope (compEnvC scope cl C (Xs i).env) fp).N = N from ck.nm i]; exact hj.get) (hx (i, s, H, C, cl, fp)) (hf (i, s, H, C, cl, fp)))
      (fun s H C cl fp => wTs_ok (Xs := blkX Xs scope) (i, s, H, C, cl, fp)) (fun s H C cl fp => wE_ok (Xs := blkX Xs scope) (i, s, H, C, cl, fp)) (hs i)
  · exact lc_body (gA := fun d δ' => δ'.set j (some (.im d))) ml inv acc (fun en τ σ τv H d v μ' δ' Q q hq => hq _ (wipe_set hown) (q.store j)) h en τ σ τv H Q q hk
/-- y = [..], the name a plain local -/
theorem s1_setLc {P : Type} {ifs : List Expr} {scope : Scope} (own : List (Str × Nat)) {j jy : Nat} {px py : Pos} (ml : Nat → P → List M) (inv : Nat → P → Prop) (acc : Nat → P → List D) (ck : COk c kk N Xs) (hj : At N j x) (hy : At N jy y) (hown : j ∈ own.map (·.2))
    (ok : ∀ i, BlkOk (Xs i).N (Xs i).env.scope scope own) (hx : ∀ i, Loc (blkX Xs scope i).env.scope x) (hf : ∀ i, (blkX Xs scope i).fn x = true ∨ (blkX Xs scope i).env.scope.names.lookup x = some .local)
    (hyl : ∀ i, (Xs i).env.scope.names.lookup y = some .local) (hsw : ∀ i, swapsWith (.ListComp e [⟨.Name x px, it, ifs, 0⟩] scope pos) (some (.Name y py)) pos'.line (Xs i).env = pure true)
    (h : SI Xs c.K (.Name x px) it δ μ fun n f ow μ1 =>
      (∃ p0, inv 0 p0 ∧ ml 0 p0 = μ1 ∧ acc 0 p0 = []) ∧ (∀ i p, i ≤ n → inv i p → gd ow (ml i p) ∧ (ml i p).length = μ1.length ∧ (acc i p).length < 16777216) ∧
      (∀ i p, i < n → inv i p → STs (blkX Xs scope) c.K ifs ((wipeA δ (own.map (·.2))).set j (some (.im (f i)))) (ml i p ++ [.lst (acc i p)]) fun b μ2 =>
        (b = true → SE (blkX Xs scope) c.K e ((wipeA δ (own.map (·.2))).set j (some (.im (f i)))) μ2 fun w μ3 => ∃ d, w = .im d ∧ LcAt μ1.length (ml (i + 1)) (inv (i + 1)) (acc (i + 1)) (acc i p) (some d) μ3) ∧
        (b = false → LcAt μ1.length (ml (i + 1)) (inv (i + 1)) (acc (i + 1)) (acc i p) none μ2)) ∧
      (∀ p, inv n p → E.nx (δ.set jy (some (.own μ1.length))) (ml n p ++ [.lst (acc n p)])))
    (hs : ∀ i x, foldedSetIterable it (Xs i).env x = pure x := by intro _ _; rfl) : S1 Xs c.K (.Assign [.Name y py] (.ListComp e [⟨.Name x px, it, ifs, 0⟩] scope pos) pos') δ μ E := by
  refine ⟨fun en τ σ τv H D q eo => ⟨tAsg (tLc (wI Xs (.Name x px) it) (gName j) (wTs (blkX Xs scope) ifs) (wE (blkX Xs scope) e) (own.map (·.2))) (gName jy), fun i => ?_, ?_⟩⟩
  · exact ps_setLc (ck.calm i) (by rw [ck.nm i]; exact ck.nd) (by rw [ck.nm i]; exact hy.get) (hyl i) (hsw i) (wI_ok i) (ok i) (fun s H C cl fp => pg_name (by rw [show ((Xs i).blk s H scope (compEnvC scope cl C (Xs i).env) fp).N = N from ck.nm i]; exact ck.nd) (by rw [show ((Xs i).blk s H scope (compEnvC scope cl C (Xs i).env) fp).N = N from ck.nm i]; exact hj.get) (hx (i, s, H, C, cl, fp)) (hf (i, s, H, C, cl, fp)))
      (fun s H C cl fp => wTs_ok (Xs := blkX Xs scope) (i, s, H, C, cl, fp)) (fun s H C cl fp => wE_ok (Xs := blkX Xs scope) (i, s, H, C, cl, fp)) (hs i)
  · exact lc_body (k := fun w μ' => ∃ n, w = .own n ∧ E.nx (δ.set jy (some (.own n))) μ') (gA := fun d δ' => δ'.set j (some (.im d))) ml inv acc (fun en τ σ τv H d v μ' δ' Q q hq => hq _ (wipe_set hown) (q.store j))
      ⟨fun en τ σ τv H R q hk => h.run en τ σ τv H R q fun n f ow μ1 H1 τx τvx J G Y hn => hk n f ow μ1 H1 τx τvx J G Y ⟨hn.1, hn.2.1, hn.2.2.1, fun p hp => ⟨_, rfl, hn.2.2.2 p hp⟩⟩⟩ en τ σ τv H _ q
      fun a μ' v H' ha q1 => by obtain ⟨n, rfl, hn⟩ := ha; exact eo.nx _ _ _ _ hn (q1.store jy)
end
end AL
namespace AL
open PySem PySem.Spec PyProof.Rows L2
theorem if_dec {P A B : Prop} [Decidable P] (h1 : P → A) (h2 : ¬ P → B) : (decide P = true → A) ∧ (decide P = false → B) := ⟨fun h => h1 (of_decide_eq_true h), fun h => h2 (of_decide_eq_false h)⟩
theorem if_ndec {P A B : Prop} [Decidable P] (h1 : ¬ P → A) (h2 : P → B) : ((!decide P) = true → A) ∧ ((!decide P) = false → B) :=
  ⟨fun h => h1 (by simpa using h), fun h => h2 (by simpa using h)⟩
theorem if_tt {A B : Prop} (h : A) : (true = true → A) ∧ (true = false → B) := ⟨(fun _ => h), (fun z => nomatch z)⟩
theorem if_ff {A B : Prop} (h : B) : (false = true → A) ∧ (false = false → B) := ⟨(fun z => nomatch z), (fun _ => h)⟩
theorem if_b {b : Bool} {A B : Prop} (h1 : b = true → A) (h2 : b = false → B) : (b = true → A) ∧ (b = false → B) := ⟨h1, h2⟩
theorem rt_im {n : Nat} {post : AV → List M → Prop} {d : D} {μ μ' : List M} (e : μ.take n = μ' := by rfl) (h : post (.im d) μ') : (endsOf n post).rt (.im d) μ := by
  show post (.im d) (μ.take n)
  rw [e]; exact h
theorem rt_new {n j : Nat} {post : AV → List M → Prop} {m : M} {μ μ' : List M} (hj : μ[j]? = some m) (hn : n ≤ j) (e : μ.take n = μ') (h : post (.own n) (μ' ++ [m])) : (endsOf n post).rt (.own j) μ := by
  show if j < n then post (.own j) (μ.take n) else ∃ m, μ[j]? = some m ∧ post (.own n) (μ.take n ++ [m])
  rw [if_neg (by omega), e]
  exact ⟨m, hj, h⟩
theorem nx_non {n : Nat} {post : AV → List M → Prop} {δ : List (Option AV)} {μ μ' : List M} (e : μ.take n = μ') (h : post (.im .non) μ') : (endsOf n post).nx δ μ := by
  show post (.im .non) (μ.take n)
  rw [e]; exact h
/-- a call of data alone -/
theorem cl_pure {F : Ct} {as : List AV} {μ : List M} {k : AV → List M → Prop} (ha : Paired (AsC []) as as) (h : F as [] (fun a μ' => k (trA [] μ.length a) (μ ++ μ'))) : CL F as μ k :=
  ⟨[], as, [], List.nodup_nil, .nil, ha, h⟩
/-- a call that speaks of one object -/
theorem cl_one {F : Ct} {as as0 : List AV} {μ : List M} {m : M} {k : AV → List M → Prop} (j : Nat) (hj : μ[j]? = some m) (ha : Paired (AsC [j]) as0 as) (h : F as0 [m] (fun a μ' => k (trA [j] μ.length a) (upds μ [j] μ'))) : CL F as μ k :=
  ⟨[j], as0, [m], by simp, .cons hj .nil, ha, h⟩
theorem cl_two {F : Ct} {as as0 : List AV} {μ : List M} {m1 m2 : M} {k : AV → List M → Prop} (j1 j2 : Nat) (hne : j1 ≠ j2) (h1 : μ[j1]? = some m1) (h2 : μ[j2]? = some m2) (ha : Paired (AsC [j1, j2]) as0 as) (h : F as0 [m1, m2] (fun a μ' => k (trA [j1, j2] μ.length a) (upds μ [j1, j2] μ'))) : CL F as μ k :=
  ⟨[j1, j2], as0, [m1, m2], by simp [hne], .cons h1 (.cons h2 .nil), ha, h⟩
theorem asc_im {js : List Nat} {d : D} : AsC js (.im d) (.im d) := rfl
theorem asc_0 {j : Nat} {r : List Nat} : AsC (j :: r) (.own 0) (.own j) := rfl
theorem asc_1 {i j : Nat} {r : List Nat} : AsC (i :: j :: r) (.own 1) (.own j) := rfl
end AL
namespace AL
open PySem PySem.Spec PyProof.Rows L2

/-! ### tables as sets of keys -/
section
variable {κ : Type} [DecidableEq κ]
def hasD (kvs : List (κ × D)) (j : κ) : Bool := kvs.any fun kv => decide (kv.1 = j)
theorem valD_has (j : κ) : ∀ kvs : List (κ × D), (valD kvs j).isSome = hasD kvs j
  | [] => rfl
  | p :: r => by
    unfold valD hasD
    rw [List.find?_cons, List.any_cons]
    by_cases e : p.1 = j
    · rw [decide_eq_true e]; rfl
    · rw [decide_eq_false e, Bool.false_or]; exact valD_has j r
theorem hasD_put (kvs : List (κ × D)) (k j : κ) (y : D) : hasD (putD kvs k y) j = (hasD kvs j || decide (k = j)) := by
  unfold hasD putD
  by_cases a : (kvs.any fun kv => decide (kv.1 = k)) = true
  · rw [if_pos a]
    have e1 : (kvs.map fun kv => if kv.1 = k then (kv.1, y) else kv).any (fun kv => decide (kv.1 = j)) = kvs.any fun kv => decide (kv.1 = j) := by
      rw [List.any_map]
      congr 1
      funext kv
      show decide ((if kv.1 = k then (kv.1, y) else kv).1 = j) = _
      by_cases e : kv.1 = k
      · rw [if_pos e]
      · rw [if_neg e]
    rw [e1]
    by_cases e : k = j
    · subst e; rw [a]; rfl
    · rw [decide_eq_false e, Bool.or_false]
  · rw [if_neg a, List.any_append, List.any_cons, List.any_nil, Bool.or_false]
theorem len_putD (kvs : List (κ × D)) (k : κ) (y : D) : (putD kvs k y).length ≤ kvs.length + 1 := by
  unfold putD
  split
  · rw [List.length_map]; omega
  · rw [List.length_append]; exact Nat.le_refl _
def mergeD (kvs more : List (κ × D)) : List (κ × D) := more.foldl (fun acc kv => putD acc kv.1 kv.2) kvs
theorem hasD_merge (more : List (κ × D)) (j : κ) : ∀ kvs : List (κ × D), hasD (mergeD kvs more) j = (hasD kvs j || hasD more j) := by
  induction more with
  | nil => intro kvs; show hasD kvs j = (hasD kvs j || false); rw [Bool.or_false]
  | cons p r ih =>
    intro kvs
    show hasD (mergeD (putD kvs p.1 p.2) r) j = _
    rw [ih, hasD_put, Bool.or_assoc]
    rfl
theorem len_mergeD (more : List (κ × D)) : ∀ kvs : List (κ × D), (mergeD kvs more).length ≤ kvs.length + more.length := by
  induction more with
  | nil => intro kvs; exact Nat.le_refl _
  | cons p r ih =>
    intro kvs
    have h1 := ih (putD kvs p.1 p.2)
    have h2 := len_putD kvs p.1 p.2
    show (mergeD (putD kvs p.1 p.2) r).length ≤ _
    rw [List.length_cons]
    omega
end
theorem krep_merge {K : PySem.W.Frag} {H : Hp} : ∀ {more : List (Key × D)} {ws : List (Key × V)}, KRep K H more ws → ∀ {ks : List (Key × D)} {us : List (Key × V)}, KRep K H ks us → KRep K H (mergeD ks more) (mergeK us ws)
  | [], _, .nil, _, _, h => h
  | p :: r, q :: ws, .cons h t, ks, us, h0 => by
    show KRep K H (mergeD (putD ks p.1 p.2) r) (mergeK (putK us q.1 q.2) ws)
    rw [← h.1]
    exact krep_merge t (krep_put h.2 h0)
section
variable {ι : Type} {Xs : ι → Cx} {c : Cfg} {kk : Nat} {N : List Str} {δ : List (Option AV)} {μ : List M} {k : AV → List M → Prop} {kb : Bool → List M → Prop} {ka : List AV → List M → Prop} {E : AE} {e a b cc : Expr} {es : List Expr} {pos pos' p p2 : Pos} {x y z : Str} {i j : Int} {jo : Nat} {tg it : Expr} {ki : Nat → (Nat → D) → List (Nat × List D) → List M → Prop}

/-! ### dict of a list of pairs -/
def prD (p : Key × D) : D := .tup [kD p.1, p.2]
theorem prs_of {K : PySem.W.Frag} {H : Hp} : ∀ {prs : List (Key × D)} {vs : List V}, Reps K H (prs.map prD) vs → ∃ (ps : List Addr) (ws : List (Key × V)), vs = ps.map V.ref ∧ Paired (fun p kv => SqT K H p [kV kv.1, kv.2]) ps ws ∧ KRep K H prs ws
  | [], vs, h => ⟨[], [], reps_nil.mp h, .nil, .nil⟩
  | p :: r, vs, h => by
    obtain ⟨v, vs', rfl, h1, h2⟩ := reps_cons.mp h
    obtain ⟨ps, ws, rfl, h3, h4⟩ := prs_of h2
    obtain ⟨a, us, rfl, hq, hr⟩ := rep_tup.mp h1
    obtain ⟨v1, u1, rfl, r1, hr⟩ := reps_cons.mp hr
    obtain ⟨v2, u2, rfl, r2, hr⟩ := reps_cons.mp hr
    obtain rfl := reps_nil.mp hr
    obtain rfl := rep_kD.mp r1
    exact ⟨a :: ps, (p.1, v2) :: ws, rfl, .cons hq h3, .cons ⟨rfl, r2⟩ h4⟩
theorem cb_dictP {prs : List (Key × D)} (ck : COk c kk N Xs) (hj : μ[jo]? = some (.lst (prs.map prD))) (h : k (.own μ.length) (μ ++ [.dK (mergeD [] prs)])) : CB Xs c.K (.type "dict") [.own jo] μ k := by
  refine ⟨fun en δ τ σ τv H vs Q hl q hk => ⟨fun xs H Q => ∃ (a : Addr) (ps : List Addr) (kvs : List (Key × V)), xs = [.ref a] ∧ SqL c.K H a (ps.map V.ref) ∧ Paired (fun p kv => SqT c.K H p [kV kv.1, kv.2]) ps kvs ∧ ∀ p, H p = none → Q (.ref p) (upd H p (.dK (mergeK [] kvs))), fun ii => by rw [← ck.K ii]; exact call_dictP (ck.calm ii), ?_⟩⟩
  obtain ⟨v, rfl, q⟩ := q.one hl
  obtain ⟨p, vs, rfl, hq, hr⟩ := q.own_lst hj
  obtain ⟨ps, ws, rfl, h1, h2⟩ := prs_of hr
  exact ⟨p, ps, ws, rfl, .inl (.inl hq), h1, fun p' hp' => hk _ _ _ _ h (q.pop.new hp' fun s => ⟨p', _, rfl, upd_same, krep_merge (KRep.keep (Keep.of_same s) h2) .nil⟩)⟩

/-! ### d.update(e) -/
theorem Holds.chgK {K : PySem.W.Frag} {en : Ent} {τ : List AV} {σ : L2.St} {τv : List V} {H : Hp} {ds ds' : List (Key × D)} {p : Addr} {vs' : List (Key × V)} (q : Holds K en δ (.own jo :: τ) μ σ (.ref p :: τv) H) (hj : μ[jo]? = some (.dK ds)) (hr : Keep H (upd H p (.dK vs')) → KRep K (upd H p (.dK vs')) ds' vs') :
    Holds K en δ τ (μ.set jo (.dK ds')) σ τv (upd H p (.dK vs')) := by
  obtain ⟨fps, q1⟩ := q
  obtain ⟨fp, e1, p', ws, e2, e3, e4⟩ := pd_get q1.mu hj
  subst e2
  have ep : p = p' := by
    cases q1.tm with
    | cons r _ =>
      obtain ⟨p'', r', e5, e6⟩ := r
      rw [e1] at e5; cases e5
      cases e6; rfl
  subst ep
  have q2 := q1.chg (o := .dK vs') (m' := .dK ds') e1 fun kp => ⟨p, _, rfl, upd_same, hr kp⟩
  exact Holds.pop ⟨fps, q2⟩
theorem Holds.apart {K : PySem.W.Frag} {en : Ent} {τ : List AV} {σ : L2.St} {τv : List V} {H : Hp} {j1 j2 : Nat} {p1 p2 : Addr} (q : Holds K en δ (.own j1 :: .own j2 :: τ) μ σ (.ref p1 :: .ref p2 :: τv) H) (hne : j1 ≠ j2) : p1 ≠ p2 := by
  obtain ⟨fps, q⟩ := q
  cases q.tm with
  | cons r t =>
    cases t with
    | cons r2 _ =>
      obtain ⟨a1, l1, e1, f1⟩ := r
      obtain ⟨a2, l2, e2, f2⟩ := r2
      cases f1
      cases f2
      intro e3
      exact q.dj _ _ _ _ e1 e2 hne p1 (by simp) (by rw [e3]; simp)
theorem se_update {apos : Pos} (ck : COk c kk N Xs) (h : SE Xs c.K a δ μ fun x μ1 => ∃ jo, x = .own jo ∧ (∃ d0, μ1[jo]? = some (.dK d0)) ∧ SE Xs c.K b δ μ1 fun y μ2 => ∃ j2 ds es, y = .own j2 ∧ μ2[jo]? = some (.dK ds) ∧ μ2[j2]? = some (.dK es) ∧ jo ≠ j2 ∧ ds.length + es.length ≤ 16777216 ∧ k (.im .non) (μ2.set jo (.dK (mergeD ds es))))
    (hbase : ∀ i, attributeBase a "update" (Xs i).env (eval a (Xs i).env) = eval a (Xs i).env := by intro _; rfl)
    (hfew : ∀ i, ((backTo pos (starEach (b :: []) (Xs i).env)).all (fun x => !x.1) && (backToKw pos (keywordEach [] (Xs i).env)).all (fun x => x.1.isSome)
      && decide ((b :: ([] : List Expr)).length + ([] : List Keyword).length + (if ([] : List Keyword).isEmpty then 0 else 1) < 30)) = true := by intro _; rfl)
    (hline : (apos.endLine == pos.line) = true := by rfl) (hs : ∀ i, starEach (b :: []) (Xs i).env = (false, eval b (Xs i).env) :: starEach [] (Xs i).env := by intro _; rfl) (hplain : ∀ i, (backTo pos (starEach [] (Xs i).env)).any (·.1) = false := by intro _; rfl) :
    SE Xs c.K (.Call (.Attribute a "update" apos) [b] [] pos) δ μ k := by
  refine ⟨fun en τ σ τv H Q q hk => ⟨tBM c.K "dict" _ (wE Xs a) (tCons (wE Xs b) tNil), fun i => by rw [← ck.K i]; exact pe_bm PySem.F.plainAttrs_dict PySem.F.slot_dict_update PySem.F.type_dict_update mt_update (wE_ok i) (pa_cons (wE_ok i) pa_nil (hs i)) (hbase i) (hfew i) hline (hs i) (hplain i), ?_⟩⟩
  refine h.run en τ σ τv H _ q fun x μ1 vx H1 hx q1 => ?_
  obtain ⟨jo, rfl, ⟨d0, h0⟩, hb⟩ := hx
  obtain ⟨p, vs, rfl, hq, hr⟩ := q1.own_dK h0
  refine ⟨.inr (.inr (.inl ⟨rfl, .inl ⟨_, hq⟩⟩)), ?_⟩
  refine hb.run en (.own jo :: τ) σ (.ref p :: τv) H1 _ q1 fun y μ2 vy H2 hy q2 => ?_
  obtain ⟨j2, ds, es, rfl, hj, hj2, hne, hz, hn⟩ := hy
  obtain ⟨p2, vs2, rfl, hq2, hr2⟩ := q2.own_dK hj2
  obtain ⟨p', vs', e1, hq', hr'⟩ := q2.pop.own_dK hj
  cases e1
  refine ⟨p, p2, vs', vs2, rfl, rfl, (q2.apart (Ne.symm hne)).symm, hq', hq2, by rw [← krep_len hr', ← krep_len hr2, sizeLine_eq]; exact hz, hk _ _ _ _ hn ?_⟩
  exact (q2.pop.chgK hj fun kp => krep_merge (KRep.keep kp hr2) (KRep.keep kp hr')).push (rep_non.mpr rfl)

/-! ### {n: True for n in d}: the keys of a dict -/
def keysD (kvs : List (Key × D)) : List (Key × D) := mergeD [] (kvs.map fun kv => (kv.1, D.bl true))
theorem hasD_keys (kvs : List (Key × D)) (j : Key) : hasD (keysD kvs) j = hasD kvs j := by
  unfold keysD
  rw [hasD_merge]
  show (false || hasD (kvs.map fun kv => (kv.1, D.bl true)) j) = _
  rw [Bool.false_or]
  unfold hasD
  rw [List.any_map]
  rfl
theorem upd_upd_ne {H : Hp} {p q : Addr} {o u w : HO} (h : p ≠ q) (hp : H p = some w) : upd (upd (upd H p o) q u) p w = upd H q u := by
  funext b
  by_cases e : b = p
  · subst e; rw [upd_same, upd_ne h, hp]
  · rw [upd_ne e]
    by_cases e2 : b = q
    · subst e2; rw [upd_same, upd_same]
    · rw [upd_ne e2, upd_ne e2, upd_ne e]
theorem merge_take {ws : List (Key × V)} {m : Nat} {q : Key × V} (h : ws[m]? = some q) : mergeK [] ((ws.take (m + 1)).map fun kv => (kv.1, V.bl true)) = putK (mergeK [] ((ws.take m).map fun kv => (kv.1, V.bl true))) q.1 (.bl true) := by
  have e : ws.take (m + 1) = ws.take m ++ [q] := by
    rw [List.take_add_one, h]; rfl
  rw [e, List.map_append]
  unfold mergeK
  rw [List.foldl_append]
  rfl
theorem len_mergeK (more : List (Key × V)) (kvs : List (Key × V)) : (mergeK kvs more).length ≤ kvs.length + more.length := length_mergeK more kvs
/-- {x: True for x in e}, e an own dict of at most so many keys -/
theorem se_dcKeys {scope : Scope} (own : List (Str × Nat)) {j kn : Nat} {px px2 kp : Pos} (ck : COk c kk N Xs) (hj : At N j x) (hown : j ∈ own.map (·.2))
    (ok : ∀ i, BlkOk (Xs i).N (Xs i).env.scope scope own) (hx : ∀ i, Loc (blkX Xs scope i).env.scope x) (hv : ∀ i, Vis (blkX Xs scope i).env.scope x) (hf : ∀ i, (blkX Xs scope i).fn x = true ∨ (blkX Xs scope i).env.scope.names.lookup x = some .local)
    (h1 : (x == ("__debug__" : Str)) = false) (h2 : (x == ("__classdict__" : Str)) = false)
    (hjd : j < δ.length)
    (hjy : ∃ jy v, At N jy y ∧ δ[jy]? = some (some v) ∧ (∀ i, Vis (Xs i).env.scope y) ∧ (y == ("__debug__" : Str)) = false ∧ (y == ("__classdict__" : Str)) = false ∧ ∃ jo ds, v = .own jo ∧ μ[jo]? = some (.dK ds) ∧ ds.length < 16777216 ∧ k (.own μ.length) (μ ++ [.dK (keysD ds)]))
    (hs : ∀ i z, foldedSetIterable (.Name y p) (Xs i).env z = pure z := by intro _ _; rfl) : SE Xs c.K (.DictComp (.Name x px) (.Constant (.bool true) kn kp) [⟨.Name x px2, .Name y p, [], 0⟩] scope pos) δ μ k := by
  obtain ⟨jy, v, hy, hd, hvy, hy1, hy2, jo, ds, rfl, hjo, hz, hn⟩ := hjy
  refine ⟨fun en τ σ τv H Q q hk => ⟨tLockE (tDc (iKeys (tVar jy)) (gName j) tYes (tVar j) (tC (.bl true)) (own.map (·.2))), fun i => ?_, ?_⟩⟩
  · refine pe_lock (pe_dc (ck.calm i) (by rw [ck.nm i]; exact ck.nd) (pi_keys (pe_var (by rw [ck.nm i]; exact hy.get) (hvy i) hy1 hy2)) (ok i)
      (fun s H C cl fp => pg_name (by rw [show ((Xs i).blk s H scope (compEnvC scope cl C (Xs i).env) fp).N = N from ck.nm i]; exact ck.nd) (by rw [show ((Xs i).blk s H scope (compEnvC scope cl C (Xs i).env) fp).N = N from ck.nm i]; exact hj.get) (hx (i, s, H, C, cl, fp)) (hf (i, s, H, C, cl, fp)))
      (fun s H C cl fp => pts_nil) (fun s H C cl fp => pe_var (by rw [show ((Xs i).blk s H scope (compEnvC scope cl C (Xs i).env) fp).N = N from ck.nm i]; exact hj.get) (hv (i, s, H, C, cl, fp)) h1 h2) (fun s H C cl fp => pe_bl) (hs i))
  · obtain ⟨w, hw, q'⟩ := q.slot hd
    obtain ⟨p, ws, rfl, hq, hr⟩ := q'.own_dK hjo
    refine ⟨p, .dK ws, hq, True.intro, fun od => ?_⟩
    refine ⟨.ref p, hw, p, od, rfl, .inl ⟨ws, upd_same, ?_⟩⟩
    intro Dl hDl
    have hpD : p ≠ Dl := fun e => by rw [← e, upd_same] at hDl; cases hDl
    have hHD : H Dl = none := by rw [upd_ne (Ne.symm hpD)] at hDl; exact hDl
    have hjl : j < σ.length := by
      obtain ⟨fps, q0⟩ := q
      rw [← q0.sl.length]; exact hjd
    refine ⟨fun i m H' => m = ws.length - i ∧ i ≤ ws.length ∧ H' = upd (upd H p (.frz od (.dK ws))) Dl (.dK (mergeK [] ((ws.take i).map fun kv => (kv.1, V.bl true)))), ⟨ws.length, by simp, Nat.zero_le _, by simp [mergeK]⟩, ?_⟩
    rintro i m H' ⟨rfl, hi, rfl⟩
    have hfz : ∀ u, (upd (upd H p (.frz od (.dK ws))) Dl u) p = some (.frz od (.dK ws)) := fun u => by rw [upd_ne hpD, upd_same]
    by_cases hlt : i < ws.length
    · refine .inr ⟨⟨hfz _, hlt⟩, fun H2 => H2 = upd (upd H p (.frz od (.dK ws))) Dl (.dK (mergeK [] ((ws.take (i + 1)).map fun kv => (kv.1, V.bl true)))), fun H2 e => ⟨ws.length - (i + 1), by omega, rfl, hlt, e⟩, fun x' H2 yy => ?_⟩
      obtain ⟨rfl, key, vv, hkv, rfl⟩ := yy
      refine ⟨by rw [wipe_set hown, wipe_wipe fun v hv => hv], ?_⟩
      refine ⟨kV key, by rw [List.getElem?_set_self (by rw [wipe_length]; exact hjl)], ?_⟩
      refine ⟨mergeK [] ((ws.take i).map fun kv => (kv.1, V.bl true)), key, rfl, upd_same, ?_, ?_⟩
      · have h3 := len_mergeK ((ws.take i).map fun kv => (kv.1, V.bl true)) []
        rw [List.length_map, List.length_take] at h3
        have h4 := krep_len hr
        rw [sizeLine_eq]
        simp only [List.length_nil] at h3
        omega
      · rw [upd_upd, merge_take hkv]
    · have e1 : i = ws.length := by omega
      subst e1
      refine .inl ⟨⟨hfz _, Nat.le_refl _⟩, hfz _, ?_⟩
      rw [upd_upd_ne hpD hq, List.take_length]
      refine hk _ _ _ _ hn (q.new hHD fun s => ⟨Dl, _, rfl, upd_same, ?_⟩)
      refine krep_merge ?_ .nil
      have gen : ∀ {ks : List (Key × D)} {us : List (Key × V)}, KRep c.K H ks us → KRep c.K (upd H Dl (.dK (mergeK [] (ws.map fun kv => (kv.1, V.bl true))))) (ks.map fun kv => (kv.1, D.bl true)) (us.map fun kv => (kv.1, V.bl true)) := by
        intro ks
        induction ks with
        | nil => intro us h; cases h; exact .nil
        | cons p' l ih => intro us h; cases h with | cons r t => exact .cons ⟨r.1, rep_bl.mpr rfl⟩ (ih t)
      exact gen hr
end
end AL
namespace AL
open PySem PySem.Spec PyProof.Rows L2
/-! ### contracts used: the common shapes -/
section
variable {F : Ct} {as as0 : List AV} {μ : List M} {k : AV → List M → Prop} {ar : Nat} {d : D} {m m' : M}
theorem upds_nil (μ xs : List M) : upds μ [] xs = μ ++ xs := rfl
theorem set_same {μ : List M} {j : Nat} {m : M} (h : μ[j]? = some m) : μ.set j m = μ := by
  apply List.ext_getElem?
  intro i
  rw [List.getElem?_set]
  split
  · rename_i e; subst e
    split
    · exact h.symm
    · rename_i hl; rw [List.getElem?_eq_none (by omega)]
  · rfl
/-- data in, data out -/
theorem clI (d : D) (hl : as.length = ar) (ha : Paired (AsC []) as as) (hF : ∀ post : AV → List M → Prop, post (.im d) [] → F as [] post) (h : k (.im d) μ) : as.length = ar ∧ CL F as μ k :=
  ⟨hl, cl_pure ha (hF _ (by show k (.im d) (upds μ [] []); rw [upds_nil, List.append_nil]; exact h))⟩
/-- data in, a new object out -/
theorem clN (m : M) (hl : as.length = ar) (ha : Paired (AsC []) as as) (hF : ∀ post : AV → List M → Prop, post (.own 0) [m] → F as [] post) (h : k (.own μ.length) (μ ++ [m])) : as.length = ar ∧ CL F as μ k :=
  ⟨hl, cl_pure ha (hF _ (by
    show k (trA [] μ.length (.own 0)) (upds μ [] [m])
    exact h))⟩
/-- an object read, data out -/
theorem clRI (j : Nat) (d : D) (hj : μ[j]? = some m) (hl : as.length = ar) (ha : Paired (AsC [j]) as0 as) (hF : ∀ post : AV → List M → Prop, post (.im d) [m] → F as0 [m] post) (h : k (.im d) μ) : as.length = ar ∧ CL F as μ k :=
  ⟨hl, cl_one j hj ha (hF _ (by
    show k (.im d) (upds (μ.set j m) [] [])
    rw [upds_nil, List.append_nil, set_same hj]; exact h))⟩
/-- an object read, a new object out -/
theorem clRN (j : Nat) (m' : M) (hj : μ[j]? = some m) (hl : as.length = ar) (ha : Paired (AsC [j]) as0 as) (hF : ∀ post : AV → List M → Prop, post (.own 1) [m, m'] → F as0 [m] post) (h : k (.own μ.length) (μ ++ [m'])) : as.length = ar ∧ CL F as μ k :=
  ⟨hl, cl_one j hj ha (hF _ (by
    show k (trA [j] μ.length (.own 1)) (upds (μ.set j m) [] [m'])
    rw [upds_nil, set_same hj]; exact h))⟩
/-- an object changed, data out -/
theorem clC (j : Nat) (hj : μ[j]? = some m) (hl : as.length = ar) (ha : Paired (AsC [j]) as0 as) (P : D → M → Prop) (hF : ∀ post : AV → List M → Prop, (∀ d m', P d m' → post (.im d) [m']) → F as0 [m] post) (h : ∀ d m', P d m' → k (.im d) (μ.set j m')) : as.length = ar ∧ CL F as μ k :=
  ⟨hl, cl_one j hj ha (hF _ fun d m' hp => by
    show k (.im d) (upds (μ.set j m') [] [])
    rw [upds_nil, List.append_nil]; exact h d m' hp)⟩
end
theorem if_nt {A B : Prop} (h : B) : ((!true) = true → A) ∧ ((!true) = false → B) := ⟨(fun z => nomatch z), (fun _ => h)⟩
theorem if_nf {A B : Prop} (h : A) : ((!false) = true → A) ∧ ((!false) = false → B) := ⟨(fun _ => h), (fun z => nomatch z)⟩
section
variable {ι : Type} {Xs : ι → Cx} {c : Cfg} {kk : Nat} {N : List Str} {δ : List (Option AV)} {μ : List M} {k : AV → List M → Prop} {kb : Bool → List M → Prop} {ka : List AV → List M → Prop} {E : AE} {e a b cc : Expr} {es : List Expr} {pos pos' p p2 : Pos} {x y z : Str} {i j : Int} {jo : Nat} {tg it : Expr} {ki : Nat → (Nat → D) → List (Nat × List D) → List M → Prop}
theorem sto_dKI {ds : List (Key × D)} {d : D} {n : Int} {ks : List M → Prop} (ck : COk c kk N Xs) (hj : μ[jo]? = some (.dK ds)) (hl : ds.length < 16777216) (h : ks (μ.set jo (.dK (putD ds (.inl n) d)))) : STO Xs c.K (.own jo) (.im (.int n)) (.im d) μ ks := sto_dK (key := .inl n) ck hj hl h
theorem op_inDKI {ds : List (Key × D)} {n : Int} (ck : COk c kk N Xs) (hj : μ[jo]? = some (.dK ds)) (h : k (.im (.bl (hasD ds (.inl n)))) μ) : OP Xs c.K (compareOp .In) (.im (.int n)) (.own jo) μ k := op_inDK (key := .inl n) ck hj (valD_has _ _) h
/-- a whole number of the module -/
theorem se_gInt {n : Int} {t : Tok} (ck : COk c kk N Xs) (hm : c.mg x = some (.int n t)) (h : k (.im (.int n)) μ) (hg : ∀ i, Gl (Xs i) x := by exact fun _ => rfl) (hd : (x == ("__debug__" : Str)) = false := by decide) : SE Xs c.K (.Name x pos) δ μ k :=
  se_glob (d := .int n) (v := .int n) ck hm ⟨t, rfl⟩ (fun _ => rep_int.mpr rfl) h hg hd
theorem atI_nat' {ds : List D} {n : Nat} {d : D} (h : ds[n]? = some d) : atI ds ((n : Nat) : Int) = some d := atI_nat h
end
end AL
namespace AL
open PySem PySem.Spec PyProof.Rows L2
section
variable {ι : Type} {Xs : ι → Cx} {c : Cfg} {kk : Nat} {N : List Str} {δ : List (Option AV)} {μ : List M} {k : AV → List M → Prop} {kb : Bool → List M → Prop} {ka : List AV → List M → Prop} {E : AE} {e a b cc : Expr} {es : List Expr} {pos pos' p p2 : Pos} {x y z : Str} {i j : Int} {jo : Nat} {tg it : Expr} {ki : Nat → (Nat → D) → List (Nat × List D) → List M → Prop}
theorem SI.mono {ki' : Nat → (Nat → D) → List (Nat × List D) → List M → Prop} (h : SI Xs c.K tg it δ μ ki) (hm : ∀ n f ow μ1, ki n f ow μ1 → ki' n f ow μ1) : SI Xs c.K tg it δ μ ki' :=
  ⟨fun en τ σ τv H R q hk => h.run en τ σ τv H R q fun n f ow μ1 H1 τx τvx J G Y hn => hk n f ow μ1 H1 τx τvx J G Y (hm _ _ _ _ hn)⟩
theorem SE.mono {k' : AV → List M → Prop} (h : SE Xs c.K e δ μ k) (hm : ∀ a μ1, k a μ1 → k' a μ1) : SE Xs c.K e δ μ k' :=
  ⟨fun en τ σ τv H Q q hk => h.run en τ σ τv H Q q fun a μ1 v H1 ha q1 => hk a μ1 v H1 (hm _ _ ha) q1⟩
theorem ST.mono {k' : Bool → List M → Prop} (h : ST Xs c.K e δ μ kb) (hm : ∀ a μ1, kb a μ1 → k' a μ1) : ST Xs c.K e δ μ k' :=
  ⟨fun en τ σ τv H Q q hk => h.run en τ σ τv H Q q fun a μ1 H1 ha q1 => hk a μ1 H1 (hm _ _ ha) q1⟩
theorem STs.mono {k' : Bool → List M → Prop} (h : STs Xs c.K es δ μ kb) (hm : ∀ a μ1, kb a μ1 → k' a μ1) : STs Xs c.K es δ μ k' :=
  ⟨fun en τ σ τv H Q q hk => h.run en τ σ τv H Q q fun a μ1 H1 ha q1 => hk a μ1 H1 (hm _ _ ha) q1⟩
/-- what a plain comprehension wants: all turns leave the objects -/
def LcM (Xs' : (ι × Shared × Hp × Addr × List (Str × Addr) × List Addr) → Cx) (K : PySem.W.Frag) (e : Expr) (ifs : List Expr) (δ0 : List (Option AV)) (j : Nat) (μ' : List M) (T : Nat → Bool) (G : Nat → D) (k : AV → List M → Prop) (n : Nat) (f : Nat → D) (ow : List (Nat × List D)) (μ1 : List M) : Prop :=
  μ1 = μ' ∧ gd ow μ' ∧ n < 16777216 ∧
  (∀ i, i < n → ∀ m : M, STs Xs' K ifs (δ0.set j (some (.im (f i)))) (μ' ++ [m]) fun b μ2 => b = T i ∧ μ2.take (μ'.length + 1) = μ' ++ [m] ∧
    (b = true → SE Xs' K e (δ0.set j (some (.im (f i)))) μ2 fun w μ3 => w = .im (G i) ∧ μ3.take (μ'.length + 1) = μ' ++ [m])) ∧
  k (.own μ'.length) (μ' ++ [.lst (((List.range n).filter T).map G)])
theorem fil_succ (T : Nat → Bool) (G : Nat → D) (n : Nat) : ((List.range (n + 1)).filter T).map G = ((List.range n).filter T).map G ++ (if T n then [G n] else []) := by
  rw [List.range_succ, List.filter_append, List.map_append]
  cases h : T n <;> simp [h]
theorem fil_len (T : Nat → Bool) (G : Nat → D) (n : Nat) : (((List.range n).filter T).map G).length ≤ n := by
  rw [List.length_map]
  exact Nat.le_trans (List.length_filter_le _ _) (by simp)
theorem LcM.go {Xs' : (ι × Shared × Hp × Addr × List (Str × Addr) × List Addr) → Cx} {K : PySem.W.Frag} {ifs : List Expr} {δ0 : List (Option AV)} {j : Nat} {μ' : List M} {T : Nat → Bool} {G : Nat → D} {n : Nat} {f : Nat → D} {ow : List (Nat × List D)} {μ1 : List M} (h : LcM Xs' K e ifs δ0 j μ' T G k n f ow μ1) :
    (∃ p0 : Unit, True ∧ μ' = μ1 ∧ (((List.range 0).filter T).map G) = []) ∧ (∀ i (p : Unit), i ≤ n → True → gd ow μ' ∧ μ'.length = μ1.length ∧ (((List.range i).filter T).map G).length < 16777216) ∧
      (∀ i (p : Unit), i < n → True → STs Xs' K ifs (δ0.set j (some (.im (f i)))) (μ' ++ [.lst (((List.range i).filter T).map G)]) fun b μ2 =>
        (b = true → SE Xs' K e (δ0.set j (some (.im (f i)))) μ2 fun w μ3 => ∃ d, w = .im d ∧ LcAt (P := Unit) μ1.length (fun _ => μ') (fun _ => True) (fun _ => (((List.range (i + 1)).filter T).map G)) (((List.range i).filter T).map G) (some d) μ3) ∧
        (b = false → LcAt (P := Unit) μ1.length (fun _ => μ') (fun _ => True) (fun _ => (((List.range (i + 1)).filter T).map G)) (((List.range i).filter T).map G) none μ2)) ∧
      (∀ p : Unit, True → k (.own μ1.length) (μ' ++ [.lst (((List.range n).filter T).map G)])) := by
  obtain ⟨rfl, h1, h2, h3, h4⟩ := h
  refine ⟨⟨(), trivial, rfl, rfl⟩, fun i p hi _ => ⟨h1, rfl, Nat.lt_of_le_of_lt (fil_len T G i) (by omega)⟩, fun i p hi _ => ?_, fun _ _ => h4⟩
  have hh := h3 i hi (.lst (((List.range i).filter T).map G))
  refine ⟨fun en τ σ τv H Q q hk => hh.run en τ σ τv H Q q fun b μ2 H2 hb q2 => hk b μ2 H2 ?_ q2⟩
  obtain ⟨e1, e2, e3⟩ := hb
  refine ⟨fun hbt => ?_, fun hbf => ?_⟩
  · have s := e3 hbt
    refine ⟨fun en τ σ τv H Q q hk => s.run en τ σ τv H Q q fun w μ3 v H3 hw q3 => hk w μ3 v H3 ?_ q3⟩
    obtain ⟨rfl, e4⟩ := hw
    refine ⟨_, rfl, (), trivial, e4, rfl, ?_⟩
    show ((List.range (i + 1)).filter T).map G = ((List.range i).filter T).map G ++ [G i]
    rw [fil_succ, ← e1, hbt, if_pos rfl]
  · refine ⟨(), trivial, e2, rfl, ?_⟩
    show ((List.range (i + 1)).filter T).map G = ((List.range i).filter T).map G
    rw [fil_succ, ← e1, hbf, if_neg Bool.false_ne_true, List.append_nil]
theorem se_lcP {ifs : List Expr} {scope : Scope} (own : List (Str × Nat)) {j : Nat} {px : Pos} (μ' : List M) (T : Nat → Bool) (G : Nat → D) (ck : COk c kk N Xs) (hj : At N j x) (hown : j ∈ own.map (·.2))
    (ok : ∀ i, BlkOk (Xs i).N (Xs i).env.scope scope own) (hx : ∀ i, Loc (blkX Xs scope i).env.scope x) (hf : ∀ i, (blkX Xs scope i).fn x = true ∨ (blkX Xs scope i).env.scope.names.lookup x = some .local)
    (h : COk c kk N (blkX Xs scope) → SI Xs c.K (.Name x px) it δ μ (LcM (blkX Xs scope) c.K e ifs (wipeA δ (own.map (·.2))) j μ' T G k))
    (hs : ∀ i x, foldedSetIterable it (Xs i).env x = pure x := by intro _ _; rfl) : SE Xs c.K (.ListComp e [⟨.Name x px, it, ifs, 0⟩] scope pos) δ μ k :=
  se_lc own (P := Unit) (fun _ _ => μ') (fun _ _ => True) (fun i _ => ((List.range i).filter T).map G) ck hj hown ok hx hf ((h ck.blk).mono fun n f ow μ1 hn => hn.go) hs
theorem s1_setLcP {ifs : List Expr} {scope : Scope} (own : List (Str × Nat)) {j jy : Nat} {px py : Pos} (μ' : List M) (T : Nat → Bool) (G : Nat → D) (ck : COk c kk N Xs) (hj : At N j x) (hy : At N jy y) (hown : j ∈ own.map (·.2))
    (ok : ∀ i, BlkOk (Xs i).N (Xs i).env.scope scope own) (hx : ∀ i, Loc (blkX Xs scope i).env.scope x) (hf : ∀ i, (blkX Xs scope i).fn x = true ∨ (blkX Xs scope i).env.scope.names.lookup x = some .local)
    (hyl : ∀ i, (Xs i).env.scope.names.lookup y = some .local) (hsw : ∀ i, swapsWith (.ListComp e [⟨.Name x px, it, ifs, 0⟩] scope pos) (some (.Name y py)) pos'.line (Xs i).env = pure true)
    (h : COk c kk N (blkX Xs scope) → SI Xs c.K (.Name x px) it δ μ (LcM (blkX Xs scope) c.K e ifs (wipeA δ (own.map (·.2))) j μ' T G (fun a μ2 => E.nx (δ.set jy (some a)) μ2)))
    (hs : ∀ i x, foldedSetIterable it (Xs i).env x = pure x := by intro _ _; rfl) : S1 Xs c.K (.Assign [.Name y py] (.ListComp e [⟨.Name x px, it, ifs, 0⟩] scope pos) pos') δ μ E :=
  s1_setLc own (P := Unit) (fun _ _ => μ') (fun _ _ => True) (fun i _ => ((List.range i).filter T).map G) ck hj hy hown ok hx hf hyl hsw ((h ck.blk).mono fun n f ow μ1 hn => hn.go) hs
theorem fil_all (n : Nat) : (List.range n).filter (fun _ => true) = List.range n := List.filter_eq_self.mpr fun _ _ => rfl
/-- no test -/
theorem lcm_all {Xs' : (ι × Shared × Hp × Addr × List (Str × Addr) × List Addr) → Cx} {K : PySem.W.Frag} {δ0 : List (Option AV)} {j : Nat} {μ' : List M} {G : Nat → D} {n : Nat} {f : Nat → D} {ow : List (Nat × List D)} {μ1 : List M} (h0 : μ1 = μ') (h1 : gd ow μ') (h2 : n < 16777216)
    (h3 : ∀ i, i < n → ∀ m : M, SE Xs' K e (δ0.set j (some (.im (f i)))) (μ' ++ [m]) fun w μ3 => w = .im (G i) ∧ μ3.take (μ'.length + 1) = μ' ++ [m])
    (h4 : k (.own μ'.length) (μ' ++ [.lst ((List.range n).map G)])) : LcM Xs' K e [] δ0 j μ' (fun _ => true) G k n f ow μ1 := by
  refine ⟨h0, h1, h2, fun i hi m => ⟨fun en τ σ τv H Q q hk => ⟨tYes, fun _ => pts_nil, hk true _ H ⟨rfl, by rw [List.take_of_length_le (by simp)], fun _ => h3 i hi m⟩ q⟩⟩, ?_⟩
  rw [fil_all]; exact h4
theorem lcm_if {Xs' : (ι × Shared × Hp × Addr × List (Str × Addr) × List Addr) → Cx} {K : PySem.W.Frag} {ifs : List Expr} {δ0 : List (Option AV)} {j : Nat} {μ' : List M} {T : Nat → Bool} {G : Nat → D} {n : Nat} {f : Nat → D} {ow : List (Nat × List D)} {μ1 : List M} (h0 : μ1 = μ') (h1 : gd ow μ') (h2 : n < 16777216)
    (h3 : ∀ i, i < n → ∀ m : M, STs Xs' K ifs (δ0.set j (some (.im (f i)))) (μ' ++ [m]) fun b μ2 => b = T i ∧ μ2.take (μ'.length + 1) = μ' ++ [m] ∧
    (b = true → SE Xs' K e (δ0.set j (some (.im (f i)))) μ2 fun w μ3 => w = .im (G i) ∧ μ3.take (μ'.length + 1) = μ' ++ [m]))
    (h4 : k (.own μ'.length) (μ' ++ [.lst (((List.range n).filter T).map G)])) : LcM Xs' K e ifs δ0 j μ' T G k n f ow μ1 := ⟨h0, h1, h2, h3, h4⟩
theorem py_ints : ∀ ns : List Int, plains (ns.map D.int) = true ∧ pys (ns.map D.int) = ns.map PyData.int
  | [] => ⟨by rw [List.map_nil, plains], by rw [List.map_nil, List.map_nil, pys]⟩
  | n :: ns => by
    obtain ⟨h1, h2⟩ := py_ints ns
    refine ⟨?_, ?_⟩
    · rw [List.map_cons, plains, h1, D.plain]
      · rfl
      all_goals (intros; contradiction)
    · rw [List.map_cons, List.map_cons, pys, h2, D.py]
theorem eqv_nil (xs : List PyData) : PyData.eqv (.list xs) (.list []) = xs.isEmpty := by
  cases xs with
  | nil => rfl
  | cons x r => rfl
/-- l == [], ints -/
theorem op_eqNil {ns : List Int} {l : List D} {j1 j2 : Nat} (ck : COk c kk N Xs) (h1 : μ[j1]? = some (.lst l)) (h2 : μ[j2]? = some (.lst [])) (hl : l = ns.map D.int) (h : k (.im (.bl ns.isEmpty)) μ) : OP Xs c.K (compareOp .Eq) (.own j1) (.own j2) μ k := by
  subst hl
  obtain ⟨p1, p2⟩ := py_ints ns
  refine op_eqG (d1 := .list (ns.map PyData.int)) (d2 := .list []) ck ?_ ?_ (PySem.W.shaped_ints ns) (PySem.W.shaped_ints []) (r := ns.isEmpty) ?_ h
  · show (match μ[j1]? with | some (.lst ds) => if plains ds then some (PyData.list (pys ds)) else none | _ => none) = _
    rw [h1]; show (if plains (ns.map D.int) then some (PyData.list (pys (ns.map D.int))) else none) = _
    rw [p1, p2, if_pos rfl]
  · show (match μ[j2]? with | some (.lst ds) => if plains ds then some (PyData.list (pys ds)) else none | _ => none) = _
    rw [h2]; rfl
  · rw [eqv_nil]; cases ns <;> rfl
theorem op_neNil {ns : List Int} {l : List D} {j1 j2 : Nat} (ck : COk c kk N Xs) (h1 : μ[j1]? = some (.lst l)) (h2 : μ[j2]? = some (.lst [])) (hl : l = ns.map D.int) (h : k (.im (.bl (!ns.isEmpty))) μ) : OP Xs c.K (compareOp .NotEq) (.own j1) (.own j2) μ k := by
  subst hl
  obtain ⟨p1, p2⟩ := py_ints ns
  refine op_neG (d1 := .list (ns.map PyData.int)) (d2 := .list []) ck ?_ ?_ (PySem.W.shaped_ints ns) (PySem.W.shaped_ints []) (r := !ns.isEmpty) ?_ h
  · show (match μ[j1]? with | some (.lst ds) => if plains ds then some (PyData.list (pys ds)) else none | _ => none) = _
    rw [h1]; show (if plains (ns.map D.int) then some (PyData.list (pys (ns.map D.int))) else none) = _
    rw [p1, p2, if_pos rfl]
  · show (match μ[j2]? with | some (.lst ds) => if plains ds then some (PyData.list (pys ds)) else none | _ => none) = _
    rw [h2]; rfl
  · rw [eqv_nil]; cases ns <;> rfl
/-- all([..]) of a plain comprehension -/
theorem cb_allR {n : Nat} {g : Nat → Bool} (ck : COk c kk N Xs) (hj : μ[jo]? = some (.lst ((List.range n).map fun t => D.bl (g t)))) (h : k (.im (.bl ((List.range n).all g))) μ) : CB Xs c.K (.builtin "all") [.own jo] μ k := by
  refine cb_all (bs := (List.range n).map g) ck (by rw [hj, List.map_map]; rfl) ?_
  rw [List.all_map]; exact h
end
end AL
namespace AL
open PySem PySem.Spec PyProof.Rows L2
section
variable {ι : Type} {Xs : ι → Cx} {c : Cfg} {kk : Nat} {N : List Str} {δ : List (Option AV)} {μ : List M} {k : AV → List M → Prop} {kb : Bool → List M → Prop} {ka : List AV → List M → Prop} {E : AE} {e a b cc : Expr} {es : List Expr} {pos pos' p p2 : Pos} {x y z : Str} {i j : Int} {jo : Nat} {tg it : Expr} {ki : Nat → (Nat → D) → List (Nat × List D) → List M → Prop}
/-! ### lists known by their address -/
theorem Holds.adr {K : PySem.W.Frag} {en : Ent} {τ : List AV} {σ : L2.St} {τv : List V} {H : Hp} {ad : Addr} {v : V} {ds : List D} (q : Holds K en δ (.im (.adr ad) :: τ) μ σ (v :: τv) H) (hj : μ[jo]? = some (.lsA ad ds)) : v = .ref ad ∧ ∃ vs, H ad = some (.lst vs) ∧ Reps K H ds vs := by
  have e := rep_adr.mp q.top
  obtain ⟨fps, q⟩ := q
  obtain ⟨fp, e2, vs, e3, e4, e5⟩ := pd_get q.mu hj
  exact ⟨e, vs, e4, e5⟩
theorem ix_lsA {ad : Addr} {ds : List D} {d : D} (jo : Nat) (ck : COk c kk N Xs) (hj : μ[jo]? = some (.lsA ad ds)) (hd : atI ds i = some d) (h : k (.im d) μ) : IX Xs c.K (.im (.adr ad)) (.im (.int i)) μ k := by
  refine ⟨fun en δ τ σ τv H vx vy Q q hk => ⟨rIxL c.K, fun ii => by rw [← ck.K ii]; exact ix_list, ?_⟩⟩
  obtain ⟨rfl, vs, hq, hr⟩ := q.pop.adr hj
  obtain ⟨v, h1, h2⟩ := atI_reps hr hd
  exact ⟨ad, vs, i, v, rfl, rep_int.mp q.top, .inl (.inl hq), h1, hk _ _ _ _ h (q.pop.pop.push h2)⟩
theorem sto_lsA {ad : Addr} {ds : List D} {d : D} {t : Nat} {ks : List M → Prop} (jo : Nat) (hj : μ[jo]? = some (.lsA ad ds)) (ht : ixN ds.length i = some t) (h : ks (μ.set jo (.lsA ad (ds.set t d)))) : STO Xs c.K (.im (.adr ad)) (.im (.int i)) (.im d) μ ks := by
  refine ⟨fun en δ τ σ τv H vx vy va Q q hk => ⟨rSetL, fun ii => set_list, ?_⟩⟩
  obtain ⟨rfl, vs, hq, hr⟩ := q.pop.adr hj
  have rv : Rep c.K H d va := q.pop.pop.top
  refine ⟨ad, vs, i, t, rfl, rep_int.mp q.top, hq, by rw [← hr.length]; exact ht, hk _ _ h ?_⟩
  obtain ⟨fps, q1⟩ := q.pop.pop.pop
  obtain ⟨fp, e1, ws, e2, e3, e4⟩ := pd_get q1.mu hj
  subst e2
  exact ⟨fps, q1.chg (o := .lst (vs.set t va)) (m' := .lsA ad (ds.set t d)) e1 fun kp => ⟨_, rfl, upd_same, reps_iff.mpr (pd_set (Rep.keep kp _ _ rv) t (reps_iff.mp (Reps.keep kp _ _ hr)))⟩⟩
theorem cb_len_lsA {ad : Addr} {ds : List D} (jo : Nat) (ck : COk c kk N Xs) (hj : μ[jo]? = some (.lsA ad ds)) (h : k (.im (.int ds.length)) μ) : CB Xs c.K (.builtin "len") [.im (.adr ad)] μ k := by
  refine ⟨fun en δ τ σ τv H vs Q hl q hk => ⟨fun xs H Q => ∃ p ys, xs = [.ref p] ∧ (SqL c.K H p ys ∨ SqT c.K H p ys) ∧ Q (.int ys.length) H, fun ii => by rw [← ck.K ii]; exact call_len_seq, ?_⟩⟩
  obtain ⟨v, rfl, q⟩ := q.one hl
  obtain ⟨rfl, vs, hq, hr⟩ := q.adr hj
  exact ⟨ad, vs, rfl, .inl (.inl (.inl hq)), hk _ _ _ _ h (q.pop.push (by rw [hr.length]; exact rep_int.mpr rfl))⟩
theorem sli_lsA {ad : Addr} {ds : List D} {lo hi : Option Int} (jo : Nat) (ck : COk c kk N Xs) (hj : μ[jo]? = some (.lsA ad ds)) (h : k (.own μ.length) (μ ++ [.lst (cutD ds lo hi)])) : SLI Xs c.K (.im (.adr ad)) lo hi μ k := by
  refine ⟨fun en δ τ σ τv H vx Q q hk => ⟨rSlL c.K, fun ii => by rw [← ck.K ii]; exact sl_list, ?_⟩⟩
  obtain ⟨rfl, vs, hq, hr⟩ := q.adr hj
  exact ⟨ad, vs, rfl, .inl (.inl hq), fun p' hp' => hk _ _ _ _ h (q.pop.new hp' fun s => ⟨p', _, rfl, upd_same, Reps.keep (Keep.of_same s) _ _ (cut_reps hr)⟩)⟩
theorem op_neNilA {ad : Addr} {ns : List Int} {j2 : Nat} (jo : Nat) (ck : COk c kk N Xs) (hj : μ[jo]? = some (.lsA ad (ns.map D.int))) (h2 : μ[j2]? = some (.lst [])) (h : k (.im (.bl (!ns.isEmpty))) μ) : OP Xs c.K (compareOp .NotEq) (.im (.adr ad)) (.own j2) μ k := by
  refine ⟨fun en δ τ σ τv H vx vy Q q hk => ⟨rNeD c.K, fun i => by rw [← ck.K i]; exact op_neD (ck.hu64 i), .list (ns.map PyData.int), .list [], ?_, ?_, PySem.W.shaped_ints ns, PySem.W.shaped_ints [], hk _ _ _ _ h (q.pop.pop.push (by rw [eqv_nil]; cases ns <;> exact rep_bl.mpr rfl))⟩⟩
  · obtain ⟨rfl, vs, hq, hr⟩ := q.pop.adr hj
    obtain ⟨p1, p2⟩ := py_ints ns
    rw [← p2]
    exact .lst (.inl (.inl hq)) (dps_of _ _ p1 hr)
  · obtain ⟨p', vs, rfl, hq, hr⟩ := q.own_lst h2
    rw [reps_nil.mp hr] at hq
    exact .lst (.inl (.inl hq)) .nil
theorem ix_dKS {ds : List (Key × D)} {d : D} {w : Str} (ck : COk c kk N Xs) (hj : μ[jo]? = some (.dK ds)) (hd : valD ds (.inr w) = some d) (h : k (.im d) μ) : IX Xs c.K (.own jo) (.im (.str w)) μ k := ix_dKA (key := .inr w) ck hj hd h
theorem sto_dKS {ds : List (Key × D)} {d : D} {w : Str} {ks : List M → Prop} (ck : COk c kk N Xs) (hj : μ[jo]? = some (.dK ds)) (hl : ds.length < 16777216) (h : ks (μ.set jo (.dK (putD ds (.inr w) d)))) : STO Xs c.K (.own jo) (.im (.str w)) (.im d) μ ks := sto_dK (key := .inr w) ck hj hl h
/-- an own list stored in a dict: from then on known by its address -/
theorem sto_dKown {ds : List (Key × D)} {es : List D} {w : Str} {ja : Nat} {ks : List M → Prop} (ck : COk c kk N Xs) (hne : jo ≠ ja) (hj : μ[jo]? = some (.dK ds)) (hja : μ[ja]? = some (.lst es)) (hl : ds.length < 16777216) (h : ∀ ad, ks ((μ.set jo (.dK (putD ds (.inr w) (.adr ad)))).set ja (.lsA ad es))) :
    STO Xs c.K (.own jo) (.im (.str w)) (.own ja) μ ks := by
  refine ⟨fun en δ τ σ τv H vx vy va Q q hk => ⟨_, fun ii => set_dict (ck.hu ii), ?_⟩⟩
  obtain ⟨p, ws, rfl, hq, hr⟩ := q.pop.own_dK hj
  obtain ⟨pa, vs, rfl, hqa, hra⟩ := q.pop.pop.own_lst hja
  have e1 := rep_str.mp q.top
  subst e1
  refine ⟨p, _, rfl, DPut.k (k := .inr w) hq (by rw [← krep_len hr, sizeLine_eq]; exact hl), hk _ _ (h pa) ?_⟩
  have q2 := q.pop.chgK (ds' := putD ds (.inr w) (.adr pa)) hj fun kp => krep_put (rep_adr.mpr rfl) (KRep.keep kp hr)
  obtain ⟨fps, q2⟩ := q2
  have hja2 : (μ.set jo (.dK (putD ds (.inr w) (.adr pa))))[ja]? = some (.lst es) := by rw [List.getElem?_set_ne hne]; exact hja
  obtain ⟨fp, e3, p', vs', e4, e5, e6⟩ := pd_get q2.mu hja2
  cases q2.tm with
  | cons r tm2 =>
  have epa : pa = p' := by
    obtain ⟨p3, r3, e7, e8⟩ := r
    cases e8
    rw [e3] at e7
    subst e4
    cases e7
    rfl
  subst epa
  refine ⟨fps, ?_, q2.dj, q2.sl, tm2, q2.fr, q2.nw, q2.hd⟩
  refine pd_of (by rw [List.length_set]; exact q2.mu.length) fun t m' fp' ht hf => ?_
  by_cases et : ja = t
  · subst et
    rw [e3] at hf
    cases hf
    rw [List.getElem?_set_self (by have := (List.getElem?_eq_some_iff.mp hja2).1; exact this)] at ht
    cases ht
    exact ⟨vs', e4, e5, e6⟩
  · rw [List.getElem?_set_ne et] at ht
    exact pd_at q2.mu ht hf
/-! ### the state of the draws opened -/
def drwD (ca : Addr) (at_ : Nat) (la : Addr) : List (Key × D) := [(.inr "cells", .adr ca), (.inr "at", .int (at_ : Int)), (.inr "left", .adr la)]
/-- what stands at the end of a def that had the state of the draws open -/
def DrwEnd (ca : Addr) (cells : List Int) (post : AV → List M → Prop) (a : AV) (μ : List M) : Prop :=
  ∃ (d : D) (la : Addr) (left : List Int) (at_ n jl : Nat), a = .im d ∧ μ[0]? = some (.dK (drwD ca at_ la)) ∧ μ[1]? = some (.lsA ca (cells.map D.int)) ∧ μ[jl]? = some (.lsA la (left.map D.int)) ∧ 2 ≤ jl ∧ at_ ≤ n ∧ post (.im d) [.drw n]
theorem krep3 {K : PySem.W.Frag} {H : Hp} {ca la : Addr} {at_ : Nat} {ws : List (Key × V)} : KRep K H (drwD ca at_ la) ws ↔ ws = [(.inr "cells", .ref ca), (.inr "at", .int (at_ : Int)), (.inr "left", .ref la)] := by
  constructor
  · intro h
    match ws, h with
    | [(k1, v1), (k2, v2), (k3, v3)], .cons r1 (.cons r2 (.cons r3 .nil)) =>
      obtain ⟨e1, r1⟩ := r1
      obtain ⟨e2, r2⟩ := r2
      obtain ⟨e3, r3⟩ := r3
      have f1 := rep_adr.mp r1
      have f2 := rep_int.mp r2
      have f3 := rep_adr.mp r3
      cases e1; cases e2; cases e3
      cases f1; cases f2; cases f3
      rfl
  · rintro rfl
    exact .cons ⟨rfl, rep_adr.mpr rfl⟩ (.cons ⟨rfl, rep_int.mpr rfl⟩ (.cons ⟨rfl, rep_adr.mpr rfl⟩ .nil))
theorem fn_drw {f : Addr} {fd : FuncData} {ps : List Str} {kf : Nat} {F : Ct} {st : Stmt} (Fn : Fun c.K x x st f fd) (S : FnScope N ps (defScope st)) (har : ∀ as μ post, F as μ post → as.length = ps.length)
    (hb : ∀ (cdv : Value) (A : Around) (outer : List Env) (s : Shared) (H : Hp) (EX : XK) (as : List AV) (μ : List M) (post : AV → List M → Prop), F as μ post → COk c kf N (bodyX c N x st f cdv A outer s H EX) →
      ∃ n, μ = [.drw n] ∧ ∀ (ca la : Addr) (cells left : List Int) (at_ : Nat), at_ ≤ n → SS (bodyX c N x st f cdv A outer s H EX) c.K (defBody st) (startA N as) [.dK (drwD ca at_ la), .lsA ca (cells.map D.int), .lsA la (left.map D.int)] { zl := 3, nx := fun _ _ => False, rt := DrwEnd ca cells post }) :
    FnOk c.P c.w c.K c.mg c.base CX0 (kf + 1) f fd ps (spOf c.K F ps.length) := by
  refine Fn.ok S (fun vs H Q EX h => h.1) (fun cdv A outer s H vs Q EX hr h => ?_)
  obtain ⟨hl, as, μ, sel, post, hF, hm, hd, ha, hq⟩ := h
  have ck : COk c kf N (bodyX c N x st f cdv A outer s H EX) := ⟨fun _ => rfl, fun _ => rfl, fun _ => rfl, fun _ => rfl, fun _ => rfl, fun _ => hr, fun _ => rfl, fun _ => rfl, S.nd, fun _ => rfl⟩
  refine ⟨wSs (bodyX c N x st f cdv A outer s H EX) (defBody st), wSs_ok (Xs := bodyX c N x st f cdv A outer s H EX) (), ?_⟩
  obtain ⟨n, rfl, hb⟩ := hb cdv A outer s H EX as μ post hF ck
  cases hm with
  | @cons _ fp _ _ r t =>
  cases t
  obtain ⟨pa, ca, la, cells, left, at_, rfl, n1, n2, n3, e1, e2, e3, hat⟩ := r
  have hs := startA_holds (N := N) (.cons (show MRep c.K H (.drw n) [pa, ca, la] from ⟨pa, ca, la, cells, left, at_, rfl, n1, n2, n3, e1, e2, e3, hat⟩) .nil) hd ha
  -- the same, opened
  have tr : ∀ {a : AV} {v : V}, AVR c.K H [[pa, ca, la]] a v → AVR c.K H [[pa], [ca], [la]] a v := fun {a v} r => by
    cases a with
    | im d => exact r
    | own q =>
      obtain ⟨b, rr, g1, g2⟩ := r
      cases q with
      | zero => have g3 : [pa, ca, la] = b :: rr := Option.some.inj g1
                cases g3
                exact ⟨pa, [], rfl, g2⟩
      | succ q => simp at g1
  have trS : ∀ {a : Option AV} {v : Option V}, SlR c.K H [[pa, ca, la]] a v → SlR c.K H [[pa], [ca], [la]] a v := fun {a v} r => by
    cases a with
    | none => exact True.intro
    | some a => cases v with
      | none => exact r
      | some v => exact tr r
  obtain ⟨fps0, h0⟩ := hs
  have hsO : Holds c.K ⟨H, [pa, ca, la], [some pa]⟩ (startA N as) [] [.dK (drwD ca at_ la), .lsA ca (cells.map D.int), .lsA la (left.map D.int)] (L2.start N vs) [] H := by
    refine ⟨[[pa], [ca], [la]], .cons ⟨pa, _, rfl, e1, krep3.mpr rfl⟩ (.cons ⟨_, rfl, e2, reps_ints.mpr rfl⟩ (.cons ⟨_, rfl, e3, reps_ints.mpr rfl⟩ .nil)), ?_, ?_, .nil, fun _ _ _ e => e, ?_, rfl⟩
    · intro i j fp fp' h1 h2 hne b hb hb'
      match i, j with
      | 0, 0 => exact hne rfl
      | 0, 1 => cases h1; cases h2; simp at hb hb'; exact n1 (hb.symm.trans hb')
      | 0, 2 => cases h1; cases h2; simp at hb hb'; exact n2 (hb.symm.trans hb')
      | 1, 0 => cases h1; cases h2; simp at hb hb'; exact n1 (hb'.symm.trans hb)
      | 1, 1 => exact hne rfl
      | 1, 2 => cases h1; cases h2; simp at hb hb'; exact n3 (hb.symm.trans hb')
      | 2, 0 => cases h1; cases h2; simp at hb hb'; exact n2 (hb'.symm.trans hb)
      | 2, 1 => cases h1; cases h2; simp at hb hb'; exact n3 (hb'.symm.trans hb)
      | 2, 2 => exact hne rfl
      | i + 3, _ => simp at h1
      | _, j + 3 => simp at h2
    · have gen : ∀ {as : List AV} {vs : List V}, Paired (AVR c.K H [[pa, ca, la]]) as vs → Paired (SlR c.K H [[pa], [ca], [la]]) (as.map some) (vs.map some) := by
        intro as
        induction as with
        | nil => intro vs h; cases h; exact .nil
        | cons a l ih => intro vs h; cases h with | cons r t => exact .cons (tr r) (ih t)
      have gen0 : ∀ n : Nat, Paired (SlR c.K H [[pa], [ca], [la]]) (List.replicate n none) (List.replicate n none) := by
        intro n
        induction n with
        | zero => exact .nil
        | succ n ih => exact .cons True.intro ih
      unfold startA L2.start
      rw [ha.length]
      exact pd_append (gen ha) (gen0 _)
    · intro fp hfp b hb
      refine .inl ?_
      simp at hfp
      rcases hfp with rfl | rfl | rfl <;> (simp at hb; subst hb; simp)
  refine (hb ca la cells left at_ hat).run ⟨H, [pa, ca, la], [some pa]⟩ [] (L2.start N vs) [] H _ hsO ⟨fun δ' μ' σ' H' hn q => hn.elim, fun a μ' v H' hr q => ?_, fun _ _ _ _ h _ => h, fun _ _ _ _ h _ => h, ⟨by show 1 ≤ 3; decide, fun _ h => by cases h⟩⟩
  obtain ⟨d, la', left', at', n', jl, rfl, m0, m1, m2, hjl, hat', hp⟩ := hr
  refine hq (.im d) [.drw n'] v H' hp ?_
  have rv := q.top
  obtain ⟨fps, q⟩ := q
  obtain ⟨fp0, f0, p0, ws, g0, g1, g2⟩ := pd_get q.mu m0
  obtain ⟨fp1, f1, vs1, g3, g4, g5⟩ := pd_get q.mu m1
  obtain ⟨fp2, f2, vs2, g6, g7, g8⟩ := pd_get q.mu m2
  subst g0 g3 g6
  have ep : p0 = pa := by
    have h1 := q.hd
    have h2 : ((fps.take 1).map List.head?)[0]? = some (some pa) := by
      have : (fps.take 1).map List.head? = [some pa] := h1
      rw [this]; rfl
    rw [List.getElem?_map, List.getElem?_take_of_lt (by decide), f0] at h2
    exact Option.some.inj (Option.some.inj h2)
  subst ep
  rw [krep3.mp g2] at g1
  rw [reps_ints.mp g5] at g4
  rw [reps_ints.mp g8] at g7
  have d01 := q.dj 0 1 _ _ f0 f1 (by decide) p0 (by simp)
  have d02 := q.dj 0 jl _ _ f0 f2 (by omega) p0 (by simp)
  have d12 := q.dj 1 jl _ _ f1 f2 (by omega) ca (by simp)
  refine ⟨[[p0, ca, la']], .cons ⟨p0, ca, la', cells, left', at', rfl, by simpa using d01, by simpa using d02, by simpa using d12, g1, g4, g7, hat'⟩ .nil, ?_, rv, fun b o hb e => q.fr b o (fun z => hb [p0, ca, la] (by simp) z) e, ?_, rfl⟩
  · intro i j fp fp' h1 h2 hne
    match i, j with
    | 0, 0 => exact absurd rfl hne
    | i + 1, _ => simp at h1
    | _, j + 1 => simp at h2
  · intro fp hfp b hb
    have e5 : fp = [p0, ca, la'] := by simpa using hfp
    subst e5
    have hb3 : b = p0 ∨ b = ca ∨ b = la' := by simpa using hb
    rcases hb3 with rfl | rfl | rfl
    · exact .inl ⟨_, List.mem_singleton.mpr rfl, by simp⟩
    · exact .inl ⟨_, List.mem_singleton.mpr rfl, by simp⟩
    · rcases q.nw _ (List.mem_of_getElem? f2) b (by simp) with z | z
      · exact .inl ⟨_, List.mem_singleton.mpr rfl, z⟩
      · exact .inr z
/-! ### the state of the draws made -/
theorem s1_retDrw {q1 q2 q3 rp : Pos} {n1 n2 n3 : Nat} {v1 v2 v3 : Expr} (ck : COk c kk N Xs)
    (h : SE Xs c.K v1 δ [.dK []] fun x μ1 => SE Xs c.K v2 δ μ1 fun y μ2 => SE Xs c.K v3 δ μ2 fun z μ3 => ∃ (j1 j2 : Nat) (cells left : List Int), x = .own j1 ∧ y = .im (.int 0) ∧ z = .own j2 ∧ μ3[0]? = some (.dK []) ∧ μ3[j1]? = some (.lst (cells.map D.int)) ∧ μ3[j2]? = some (.lst (left.map D.int)) ∧ j1 ≠ j2 ∧ 0 < j1 ∧ 0 < j2 ∧ E.rt (.own 0) [.drw 0]) :
    S1 Xs c.K (.Return (some (.Dict [some (.Constant (.str "cells") n1 q1), some (.Constant (.str "at") n2 q2), some (.Constant (.str "left") n3 q3)] [v1, v2, v3] pos)) rp) δ [] E := by
  refine ⟨fun en τ σ τv H D q eo => ⟨tRet (tDisp [(tC (.str "cells"), wE Xs v1), (tC (.str "at"), wE Xs v2), (tC (.str "left"), wE Xs v3)]), fun i => ps_ret (pe_disp (pps_cons pe_str (wE_ok i) (pps_cons pe_str (wE_ok i) (pps_cons pe_str (wE_ok i) pps_nil))) rfl rfl (by simp) (Nat.le_of_ble_eq_true rfl)), ?_⟩⟩
  intro p hp
  have hz : en.Z = [] := by
    obtain ⟨fps, q⟩ := q
    have h1 := q.mu
    cases h1
    have h2 := q.hd
    rw [List.take_nil] at h2
    exact h2.symm
  have q0 := q.new (m := .dK []) (o := .dK []) hp fun s => ⟨p, [], rfl, upd_same, .nil⟩
  have hfr0 : ∀ b o, b ∉ en.B → en.H0 b = some o → b ≠ p := fun b o hb e => by
    obtain ⟨fps, q⟩ := q
    exact ne_of_none (q.fr b o hb e) hp
  show wE Xs v1 σ (upd H p (.dK [])) _
  refine h.run en (.own 0 :: τ) σ (.ref p :: τv) _ _ q0 fun x μ1 vx H1 hx q1 => ?_
  show wE Xs v2 σ H1 _
  refine hx.run en (x :: .own 0 :: τ) σ (vx :: .ref p :: τv) _ _ q1 fun y μ2 vy H2 hy q2 => ?_
  show wE Xs v3 σ H2 _
  refine hy.run en (y :: x :: .own 0 :: τ) σ (vy :: vx :: .ref p :: τv) _ _ q2 fun z μ3 vz H3 hz3 q3 => ?_
  obtain ⟨j1, j2, cells, left, rfl, rfl, rfl, m0, m1, m2, hne, hj1, hj2, hE⟩ := hz3
  have ey := rep_int.mp q3.pop.top
  subst ey
  obtain ⟨fps, q3⟩ := q3
  cases q3.tm with
  | cons rz t =>
  cases t with
  | cons ry t =>
  cases t with
  | cons rx t =>
  cases t with
  | cons rp t =>
  obtain ⟨pz, lz, f2, rfl⟩ := rz
  obtain ⟨px, lx, f1, rfl⟩ := rx
  obtain ⟨p0, l0, f0, e0⟩ := rp
  cases e0
  obtain ⟨fp0, g0, p0', ws, a0, b0, c0⟩ := pd_get q3.mu m0
  obtain ⟨fp1, g1, p1, vs1, a1, b1, c1⟩ := pd_get q3.mu m1
  obtain ⟨fp2, g2, p2, vs2, a2, b2, c2⟩ := pd_get q3.mu m2
  subst a0 a1 a2
  rw [f0] at g0; cases g0
  rw [f1] at g1; cases g1
  rw [f2] at g2; cases g2
  cases c0
  rw [reps_ints.mp c1] at b1
  rw [reps_ints.mp c2] at b2
  have d01 : p ≠ px := by simpa using q3.dj 0 j1 _ _ f0 f1 (by omega) p (by simp)
  have d02 : p ≠ pz := by simpa using q3.dj 0 j2 _ _ f0 f2 (by omega) p (by simp)
  have d12 : px ≠ pz := by simpa using q3.dj j1 j2 _ _ f1 f2 hne px (by simp)
  refine ⟨b0, [(.inr "cells", .ref px), (.inr "at", .int 0), (.inr "left", .ref pz)], rfl, Nat.le_of_ble_eq_true rfl, ?_⟩
  refine eo.rt (.own 0) [.drw 0] (.ref p) _ hE ⟨[[p, px, pz]], .cons ⟨p, px, pz, cells, left, 0, rfl, d01, d02, d12, ?_, ?_, ?_, Nat.le_refl _⟩ .nil, ?_, .nil, .cons ⟨p, [px, pz], rfl, rfl⟩ .nil, ?_, ?_, ?_⟩
  · rw [upd_same]; rfl
  · rw [upd_ne d01.symm]; exact b1
  · rw [upd_ne d02.symm]; exact b2
  · intro i j fp fp' h1 h2 hne'
    match i, j with
    | 0, 0 => exact absurd rfl hne'
    | i + 1, _ => simp at h1
    | _, j + 1 => simp at h2
  · intro b o hb e
    rw [upd_ne (hfr0 b o hb e)]
    exact q3.fr b o hb e
  · intro fp hfp b hb
    have e5 : fp = [p, px, pz] := by simpa using hfp
    subst e5
    have hb3 : b = p ∨ b = px ∨ b = pz := by simpa using hb
    rcases hb3 with rfl | rfl | rfl
    · exact q3.nw _ (List.mem_of_getElem? f0) b (by simp)
    · exact q3.nw _ (List.mem_of_getElem? f1) b (by simp)
    · exact q3.nw _ (List.mem_of_getElem? f2) b (by simp)
  · rw [hz]; rfl
theorem drw_cells {ca la : Addr} {n : Nat} : valD (drwD ca n la) (.inr "cells") = some (.adr ca) := rfl
theorem drw_at {ca la : Addr} {n : Nat} : valD (drwD ca n la) (.inr "at") = some (.int (n : Int)) := rfl
theorem drw_left {ca la : Addr} {n : Nat} : valD (drwD ca n la) (.inr "left") = some (.adr la) := rfl
theorem drw_put_at {ca la : Addr} {n : Nat} : putD (drwD ca n la) (.inr "at") (.int ((n : Int) + 1)) = drwD ca (n + 1) la := rfl
theorem drw_put_left {ca la la' : Addr} {n : Nat} : putD (drwD ca n la) (.inr "left") (.adr la') = drwD ca n la' := rfl
theorem cut_ints (ns : List Int) (lo hi : Option Int) : ∃ ms : List Int, cutD (ns.map D.int) lo hi = ms.map D.int := by
  unfold cutD
  rw [← List.map_drop, ← List.map_take]
  exact ⟨_, rfl⟩
theorem ixN_nat {n j : Nat} (h : j < n) : ixN n (j : Int) = some j := by
  unfold ixN
  rw [if_pos (Int.natCast_nonneg j), if_pos (Int.ofNat_lt.mpr h), Int.toNat_natCast]
/-! ### is None, by kinds -/
theorem op_isN_non (h : k (.im (.bl true)) μ) : OP Xs c.K (compareOp .Is) (.im .non) (.im .non) μ k := op_isNone h
theorem op_isN_int (h : k (.im (.bl false)) μ) : OP Xs c.K (compareOp .Is) (.im (.int i)) (.im .non) μ k := op_isNone h
theorem op_isN_bl {b : Bool} (h : k (.im (.bl false)) μ) : OP Xs c.K (compareOp .Is) (.im (.bl b)) (.im .non) μ k := op_isNone h
theorem op_isN_str (h : k (.im (.bl false)) μ) : OP Xs c.K (compareOp .Is) (.im (.str x)) (.im .non) μ k := op_isNone h
theorem op_isN_tup {ds : List D} (h : k (.im (.bl false)) μ) : OP Xs c.K (compareOp .Is) (.im (.tup ds)) (.im .non) μ k := op_isNone h
theorem op_notN_non (h : k (.im (.bl false)) μ) : OP Xs c.K (compareOp .IsNot) (.im .non) (.im .non) μ k := op_isNotNone h
theorem op_notN_tup {ds : List D} (h : k (.im (.bl true)) μ) : OP Xs c.K (compareOp .IsNot) (.im (.tup ds)) (.im .non) μ k := op_isNotNone h
theorem op_eqBB {b : Bool} (h : k (.im (.bl true)) μ) : OP Xs c.K (compareOp .Eq) (.im (.bl b)) (.im (.bl b)) μ k := op_eqB (by rw [decide_eq_true rfl]; exact h)
theorem op_eqII (h : k (.im (.bl true)) μ) : OP Xs c.K (compareOp .Eq) (.im (.int i)) (.im (.int i)) μ k := op_eqI (by rw [decide_eq_true rfl]; exact h)
theorem op_eqTT (h : k (.im (.bl true)) μ) : OP Xs c.K (compareOp .Eq) (.im (.str x)) (.im (.str x)) μ k := op_eqT (by rw [decide_eq_true rfl]; exact h)
/-- a, b, c = x, y, z of plain local names -/
theorem s1_par3 {d : Expr} {i1 i2 i3 : Nat} {px py pz pt pt2 : Pos} {kt k2 : Nat} (ck : COk c kk N Xs) (h1 : At N i1 x) (h2 : At N i2 y) (h3 : At N i3 z) (h : SA Xs c.K [a, b, d] δ μ fun as μ1 => ∃ u v w, as = [u, v, w] ∧ E.nx (((δ.set i1 (some u)).set i2 (some v)).set i3 (some w)) μ1)
    (hij : i1 ≠ i2 ∧ i1 ≠ i3 ∧ i2 ≠ i3) (hx : ∀ i, (Xs i).env.scope.names.lookup x = some .local) (hy : ∀ i, (Xs i).env.scope.names.lookup y = some .local) (hz : ∀ i, (Xs i).env.scope.names.lookup z = some .local)
    (hw : ∀ i, swappedStores [.Tuple [.Name x px, .Name y py, .Name z pz] kt pt] (.Tuple [a, b, d] k2 pt2) (Xs i).env = pure (some [x, y, z]))
    (hs : ∀ i, swapsWithSole [.Tuple [.Name x px, .Name y py, .Name z pz] kt pt] (.Tuple [a, b, d] k2 pt2) pos.line (Xs i).env = pure false) : S1 Xs c.K (.Assign [.Tuple [.Name x px, .Name y py, .Name z pz] kt pt] (.Tuple [a, b, d] k2 pt2) pos) δ μ E := by
  refine ⟨fun en τ σ τv H D q eo => ⟨tPar3 i1 i2 i3 (wA Xs [a, b, d]), fun i => ps_par3 (ck.calm i) (by rw [ck.nm i]; exact ck.nd) (by rw [ck.nm i]; exact h1.get) (by rw [ck.nm i]; exact h2.get) (by rw [ck.nm i]; exact h3.get) hij.1 hij.2.1 hij.2.2 (hx i) (hy i) (hz i) (wA_ok i) (hw i) (hs i), ?_⟩⟩
  refine h.run en τ σ τv H _ q fun as μ1 vs H1 ha hl q1 => ?_
  obtain ⟨u, v, w, rfl, hn⟩ := ha
  obtain ⟨v1, v2, v3, rfl⟩ : ∃ v1 v2 v3, vs = [v1, v2, v3] := by
    match vs, hl with
    | [v1, v2, v3], _ => exact ⟨v1, v2, v3, rfl⟩
  refine ⟨v1, v2, v3, rfl, eo.nx _ _ _ _ hn ?_⟩
  have q2 : Holds c.K en ((δ.set i1 (some u)).set i2 (some v)) (w :: τ) μ1 ((σ.set i1 (some v1)).set i2 (some v2)) (v3 :: τv) H1 := by
    obtain ⟨fps, q⟩ := q1
    cases q.tm with
    | cons r t => cases t with
      | cons r2 t => exact ⟨fps, q.mu, q.dj, pd_set (F := SlR c.K H1 fps) (x := some v) (y := some v2) r2 i2 (pd_set (F := SlR c.K H1 fps) (x := some u) (y := some v1) r i1 q.sl), t, q.fr, q.nw, q.hd⟩
  exact q2.store i3
end
end AL
namespace AL
open PySem PySem.Spec PyProof.Rows L2
section
variable {ι : Type} {Xs : ι → Cx} {c : Cfg} {kk : Nat} {N : List Str} {δ : List (Option AV)} {μ : List M} {k : AV → List M → Prop} {kb : Bool → List M → Prop} {ka : List AV → List M → Prop} {E : AE} {e a b cc : Expr} {es : List Expr} {pos pos' p p2 : Pos} {x y z : Str} {i j : Int} {jo : Nat} {tg it : Expr} {ki : Nat → (Nat → D) → List (Nat × List D) → List M → Prop}
/-! ### tables with tuples for keys -/
theorem Holds.own_dT {K : PySem.W.Frag} {en : Ent} {τ : List AV} {σ : L2.St} {τv : List V} {H : Hp} {j : Nat} {v : V} {ds : List (List Key × D)} (q : Holds K en δ (.own j :: τ) μ σ (v :: τv) H) (hj : μ[j]? = some (.dT ds)) : ∃ p ws, v = .ref p ∧ H p = some (.dT ws) ∧ KRep K H ds ws := by
  obtain ⟨fps, q⟩ := q
  cases q.tm with
  | cons r t =>
    obtain ⟨p, rr, e1, rfl⟩ := r
    obtain ⟨fp, e2, p', vs, e3, e4, e5⟩ := pd_get q.mu hj
    rw [e1] at e2; cases e2
    cases e3
    exact ⟨p, vs, rfl, e4, e5⟩
/-- tuple(l) of whole numbers: a key -/
theorem cb_tupK {ns : List Int} (ck : COk c kk N Xs) (hj : μ[jo]? = some (.lst (ns.map D.int))) (h : k (.im (.tk (ns.map Sum.inl))) μ) : CB Xs c.K (.type "tuple") [.own jo] μ k := by
  refine ⟨fun en δ τ σ τv H vs Q hl q hk => ⟨fun xs H Q => ∃ p ys, xs = [.ref p] ∧ ((SqL c.K H p ys ∧ ∀ l, H l = none → Q (.ref l) (upd H l (.tup ys))) ∨ (SqT c.K H p ys ∧ Q (.ref p) H)), fun ii => by rw [← ck.K ii]; exact call_tuple_of, ?_⟩⟩
  obtain ⟨v, rfl, q⟩ := q.one hl
  obtain ⟨p, vs, rfl, hq, hr⟩ := q.own_lst hj
  rw [reps_ints.mp hr] at hq
  refine ⟨p, _, rfl, .inl ⟨.inl (.inl hq), fun p' hp' => ?_⟩⟩
  have s : Same H (upd H p' (.tup (ns.map V.int))) := same_new hp'
  refine hk _ _ _ _ h ((q.pop.ext s).push (rep_tk.mpr ⟨p', rfl, ?_⟩))
  rw [upd_same, List.map_map]; rfl
theorem op_inDT {ds : List (List Key × D)} {key : List Key} (ck : COk c kk N Xs) (hj : μ[jo]? = some (.dT ds)) (h : k (.im (.bl (hasD ds key))) μ) : OP Xs c.K (compareOp .In) (.im (.tk key)) (.own jo) μ k := by
  refine ⟨fun en δ τ σ τv H vx vy Q q hk => ⟨_, fun ii => op_inDict (ck.hu ii), ?_⟩⟩
  obtain ⟨p, ws, rfl, hq, hkr⟩ := q.own_dT hj
  obtain ⟨a, rfl, ha⟩ := rep_tk.mp q.top2
  refine ⟨p, _, rfl, DGet.t hq ha, ?_⟩
  have e2 : (valV ws key).isSome = hasD ds key := by
    rw [← valD_has]
    cases e : valD ds key with
    | none => rw [(krep_val hkr).2 e]; rfl
    | some d => obtain ⟨v, h1, _⟩ := (krep_val hkr).1 d e; rw [h1]; rfl
  rw [e2]
  exact hk _ _ _ _ h (q.pop.pop.push (rep_bl.mpr rfl))
theorem ix_dT {ds : List (List Key × D)} {d : D} {key : List Key} (ck : COk c kk N Xs) (hj : μ[jo]? = some (.dT ds)) (hd : valD ds key = some d) (h : k (.im d) μ) : IX Xs c.K (.own jo) (.im (.tk key)) μ k := by
  refine ⟨fun en δ τ σ τv H vx vy Q q hk => ⟨_, fun ii => ix_dict (ck.hu ii), ?_⟩⟩
  obtain ⟨p, ws, rfl, hq, hr⟩ := q.pop.own_dT hj
  obtain ⟨v, h1, h2⟩ := (krep_val hr).1 d hd
  obtain ⟨a, rfl, ha⟩ := rep_tk.mp q.top
  exact ⟨p, v, rfl, by rw [← h1]; exact DGet.t hq ha, hk _ _ _ _ h (q.pop.pop.push h2)⟩
theorem Holds.chgT {K : PySem.W.Frag} {en : Ent} {τ : List AV} {σ : L2.St} {τv : List V} {H : Hp} {ds ds' : List (List Key × D)} {p : Addr} {vs' : List (List Key × V)} (q : Holds K en δ (.own jo :: τ) μ σ (.ref p :: τv) H) (hj : μ[jo]? = some (.dT ds)) (hr : Keep H (upd H p (.dT vs')) → KRep K (upd H p (.dT vs')) ds' vs') :
    Holds K en δ τ (μ.set jo (.dT ds')) σ τv (upd H p (.dT vs')) := by
  obtain ⟨fps, q1⟩ := q
  obtain ⟨fp, e1, p', ws, e2, e3, e4⟩ := pd_get q1.mu hj
  subst e2
  have ep : p = p' := by
    cases q1.tm with
    | cons r _ =>
      obtain ⟨p'', r', e5, e6⟩ := r
      rw [e1] at e5; cases e5
      cases e6; rfl
  subst ep
  have q2 := q1.chg (o := .dT vs') (m' := .dT ds') e1 fun kp => ⟨p, _, rfl, upd_same, hr kp⟩
  exact Holds.pop ⟨fps, q2⟩
theorem sto_dT {ds : List (List Key × D)} {d : D} {key : List Key} {ks : List M → Prop} (ck : COk c kk N Xs) (hj : μ[jo]? = some (.dT ds)) (hl : ds.length < 16777216) (h : ks (μ.set jo (.dT (putD ds key d)))) : STO Xs c.K (.own jo) (.im (.tk key)) (.im d) μ ks := by
  refine ⟨fun en δ τ σ τv H vx vy va Q q hk => ⟨_, fun ii => set_dict (ck.hu ii), ?_⟩⟩
  obtain ⟨p, ws, rfl, hq, hr⟩ := q.pop.own_dT hj
  have rv : Rep c.K H d va := q.pop.pop.top
  obtain ⟨a, rfl, ha⟩ := rep_tk.mp q.top
  exact ⟨p, _, rfl, DPut.t hq ha (by rw [← krep_len hr, sizeLine_eq]; exact hl), hk _ _ h (q.pop.chgT hj fun kp => krep_put (Rep.keep kp _ _ rv) (KRep.keep kp hr)).pop⟩

/-! ### {n: True for n in l}, l an own list of whole numbers -/
def keysL (ns : List Int) : List (Key × D) := mergeD [] (ns.map fun n => (Sum.inl n, D.bl true))
theorem hasD_keysL (ns : List Int) (j : Int) : hasD (keysL ns) (.inl j) = decide (j ∈ ns) := by
  unfold keysL
  rw [hasD_merge]
  show (false || hasD (ns.map fun n => ((Sum.inl n : Key), D.bl true)) (.inl j)) = _
  rw [Bool.false_or]
  unfold hasD
  rw [List.any_map]
  induction ns with
  | nil => simp
  | cons n l ih =>
    rw [List.any_cons, ih]
    by_cases h : n = j
    · subst h; simp
    · have h2 : ¬ j = n := fun z => h z.symm
      simp [h, h2]
theorem len_keysL (ns : List Int) : (keysL ns).length ≤ ns.length := by
  have h := len_mergeD (ns.map fun n => ((Sum.inl n : Key), D.bl true)) []
  rw [List.length_map, List.length_nil, Nat.zero_add] at h
  exact h
theorem mergeI_take {ns : List Int} {m : Nat} {n : Int} (h : ns[m]? = some n) : mergeK [] ((ns.take (m + 1)).map fun n => ((Sum.inl n : Key), V.bl true)) = putK (mergeK [] ((ns.take m).map fun n => ((Sum.inl n : Key), V.bl true))) (.inl n) (.bl true) := by
  rw [List.take_add_one, h, List.map_append]
  unfold mergeK
  rw [List.foldl_append]
  rfl
theorem se_dcList {scope : Scope} (own : List (Str × Nat)) {j kn : Nat} {px px2 kp : Pos} (ck : COk c kk N Xs) (hj : At N j x) (hown : j ∈ own.map (·.2))
    (ok : ∀ i, BlkOk (Xs i).N (Xs i).env.scope scope own) (hx : ∀ i, Loc (blkX Xs scope i).env.scope x) (hv : ∀ i, Vis (blkX Xs scope i).env.scope x) (hf : ∀ i, (blkX Xs scope i).fn x = true ∨ (blkX Xs scope i).env.scope.names.lookup x = some .local)
    (h1 : (x == ("__debug__" : Str)) = false) (h2 : (x == ("__classdict__" : Str)) = false) (hjd : j < δ.length)
    (hjy : ∃ jy v, At N jy y ∧ δ[jy]? = some (some v) ∧ (∀ i, Vis (Xs i).env.scope y) ∧ (y == ("__debug__" : Str)) = false ∧ (y == ("__classdict__" : Str)) = false ∧ ∃ jo ns, v = .own jo ∧ μ[jo]? = some (.lst (ns.map D.int)) ∧ ns.length < 16777216 ∧ k (.own μ.length) (μ ++ [.dK (keysL ns)]))
    (hs : ∀ i z, foldedSetIterable (.Name y p) (Xs i).env z = pure z := by intro _ _; rfl) : SE Xs c.K (.DictComp (.Name x px) (.Constant (.bool true) kn kp) [⟨.Name x px2, .Name y p, [], 0⟩] scope pos) δ μ k := by
  obtain ⟨jy, v, hy, hd, hvy, hy1, hy2, jo, ns, rfl, hjo, hz, hn⟩ := hjy
  refine ⟨fun en τ σ τv H Q q hk => ⟨tDc (iList c.K (tVar jy)) (gName j) tYes (tVar j) (tC (.bl true)) (own.map (·.2)), fun i => ?_, ?_⟩⟩
  · refine pe_dc (ck.calm i) (by rw [ck.nm i]; exact ck.nd) (by rw [← ck.K i]; exact pi_list (pe_var (by rw [ck.nm i]; exact hy.get) (hvy i) hy1 hy2)) (ok i)
      (fun s H C cl fp => pg_name (by rw [show ((Xs i).blk s H scope (compEnvC scope cl C (Xs i).env) fp).N = N from ck.nm i]; exact ck.nd) (by rw [show ((Xs i).blk s H scope (compEnvC scope cl C (Xs i).env) fp).N = N from ck.nm i]; exact hj.get) (hx (i, s, H, C, cl, fp)) (hf (i, s, H, C, cl, fp)))
      (fun s H C cl fp => pts_nil) (fun s H C cl fp => pe_var (by rw [show ((Xs i).blk s H scope (compEnvC scope cl C (Xs i).env) fp).N = N from ck.nm i]; exact hj.get) (hv (i, s, H, C, cl, fp)) h1 h2) (fun s H C cl fp => pe_bl) (hs i)
  · obtain ⟨w, hw, q'⟩ := q.slot hd
    obtain ⟨p, ws, rfl, hq, hr⟩ := q'.own_lst hjo
    rw [reps_ints.mp hr] at hq
    refine ⟨.ref p, hw, p, rfl, ⟨_, .inl (.inl hq)⟩, ?_⟩
    intro Dl hDl
    have hpD : p ≠ Dl := fun e => by rw [← e, hq] at hDl; cases hDl
    have hjl : j < σ.length := by
      obtain ⟨fps, q0⟩ := q
      rw [← q0.sl.length]; exact hjd
    have hsq : ∀ u, SqL c.K (upd H Dl u) p (ns.map V.int) := fun u => .inl (.inl (by rw [upd_ne hpD]; exact hq))
    have hlen : (ns.map V.int).length = ns.length := List.length_map _
    refine ⟨fun i m H' => m = ns.length - i ∧ i ≤ ns.length ∧ H' = upd H Dl (.dK (mergeK [] ((ns.take i).map fun n => ((Sum.inl n : Key), V.bl true)))), ⟨ns.length, by simp, Nat.zero_le _, by simp [mergeK]⟩, ?_⟩
    rintro i m H' ⟨rfl, hi, rfl⟩
    by_cases hlt : i < ns.length
    · have hg : (ns.map V.int)[i]? = some (.int ns[i]) := by rw [List.getElem?_map, List.getElem?_eq_getElem hlt]; rfl
      refine .inr ⟨⟨_, _, hsq _, hg⟩, fun H2 => H2 = upd H Dl (.dK (mergeK [] ((ns.take (i + 1)).map fun n => ((Sum.inl n : Key), V.bl true)))), fun H2 e => ⟨ns.length - (i + 1), by omega, rfl, hlt, e⟩, fun x' H2 yy => ?_⟩
      obtain ⟨rfl, yy⟩ := yy
      have ex := yy _ (hsq _)
      rw [hg] at ex
      cases ex
      refine ⟨by rw [wipe_set hown, wipe_wipe fun v hv => hv], ?_⟩
      refine ⟨.int ns[i], by rw [List.getElem?_set_self (by rw [wipe_length]; exact hjl)], ?_⟩
      refine ⟨mergeK [] ((ns.take i).map fun n => ((Sum.inl n : Key), V.bl true)), .inl ns[i], rfl, upd_same, ?_, ?_⟩
      · have h3 := len_mergeK ((ns.take i).map fun n => ((Sum.inl n : Key), V.bl true)) []
        rw [List.length_map, List.length_take] at h3
        rw [sizeLine_eq]
        simp only [List.length_nil] at h3
        omega
      · rw [upd_upd, mergeI_take (List.getElem?_eq_getElem hlt)]
    · have e1 : i = ns.length := by omega
      subst e1
      refine .inl ⟨⟨_, hsq _, by rw [hlen]; exact Nat.le_refl _⟩, ?_⟩
      rw [List.take_length]
      refine hk _ _ _ _ hn (q.new hDl fun s => ⟨Dl, _, rfl, upd_same, ?_⟩)
      refine krep_merge ?_ .nil
      have gen : ∀ {H' : Hp} (ns : List Int), KRep c.K H' (ns.map fun n => ((Sum.inl n : Key), D.bl true)) (ns.map fun n => ((Sum.inl n : Key), V.bl true)) := by
        intro H' ns
        induction ns with
        | nil => exact .nil
        | cons n l ih => exact .cons ⟨rfl, rep_bl.mpr rfl⟩ ih
      exact gen ns
end
end AL
namespace AL
open PySem PySem.Spec PyProof.Rows L2
/-! ### some of the objects, called otherwise -/
def FgS (js : List Nat) : Option AV → Option AV → Prop
  | _, none => True
  | some (.im d), some (.im d') => d = d'
  | some (.own k), some (.own j) => js[j]? = some k
  | _, _ => False
theorem Hold.pick {K : PySem.W.Frag} {e : Ent} {δ δ' : List (Option AV)} {τ : List AV} {μ μ' : List M} {σ : L2.St} {τv : List V} {H : Hp} {fps : List (List Addr)} {m : Nat} {js : List Nat} (h : Hold K e δ τ μ σ τv H fps) (hn : e.Z.length ≤ m) (ht : ∀ a ∈ τ, ∀ k, a = .own k → k < m) (nd : js.Nodup) (hid : ∀ i, i < m → js[i]? = some i)
    (hs : Paired (fun (j : Nat) (x : M) => μ[j]? = some x) js μ') (fg : Paired (FgS js) δ δ') : Holds K e δ' τ μ' σ τv H := by
  obtain ⟨sel, s1, s2⟩ := h.selO hs
  have back : ∀ {i : Nat} {x : List Addr}, sel[i]? = some x → ∃ j, js[i]? = some j ∧ fps[j]? = some x := fun {i x} q => by
    obtain ⟨j, q1, q2⟩ := pd_get' s1 q
    exact ⟨j, q1, q2⟩
  have fwd : ∀ {i j : Nat} {x : List Addr}, js[i]? = some j → fps[j]? = some x → sel[i]? = some x := fun {i j x} q1 q2 => by
    obtain ⟨y, q3, q4⟩ := pd_get s1 q1
    rw [q2] at q4; cases q4
    exact q3
  refine ⟨sel, s2, sel_disj h.dj nd s1, ?_, ?_, h.fr, fun fp hfp b hb => ?_, ?_⟩
  · have gen : ∀ {δ δ' : List (Option AV)} {σ : L2.St}, Paired (SlR K H fps) δ σ → Paired (FgS js) δ δ' → Paired (SlR K H sel) δ' σ := by
      intro δ
      induction δ with
      | nil => intro δ' σ s f; cases s; cases f; exact .nil
      | cons a l ih =>
        intro δ' σ s f
        cases s with
        | cons r t =>
          cases f with
          | cons r' t' =>
            refine .cons ?_ (ih t t')
            rename_i ov _ b _
            cases b with
            | none => exact True.intro
            | some b =>
              cases a with
              | none => cases b <;> exact r'.elim
              | some a =>
                cases ov with
                | none => exact (r : False).elim
                | some v =>
                  cases a with
                  | im d =>
                    cases b with
                    | im d' => have e1 : d = d' := r'; subst e1; exact r
                    | own j => exact (r' : False).elim
                  | own k =>
                    cases b with
                    | im d' => exact (r' : False).elim
                    | own j =>
                      have e1 : js[j]? = some k := r'
                      obtain ⟨a, rr, q, e2⟩ := r
                      exact ⟨a, rr, fwd e1 q, e2⟩
    exact gen h.sl fg
  · have gen : ∀ {τ : List AV} {τv : List V}, (∀ a ∈ τ, ∀ k, a = .own k → k < m) → Paired (AVR K H fps) τ τv → Paired (AVR K H sel) τ τv := by
      intro τ
      induction τ with
      | nil => intro τv _ s; cases s; exact .nil
      | cons a l ih =>
        intro τv hk s
        cases s with
        | cons r t =>
          refine .cons ?_ (ih (fun a ha => hk a (by simp [ha])) t)
          cases a with
          | im d => exact r
          | own k =>
            obtain ⟨ad, rr, q, e⟩ := r
            exact ⟨ad, rr, fwd (hid k (hk _ (by simp) k rfl)) q, e⟩
    exact gen ht h.tm
  · obtain ⟨i, q⟩ := List.getElem?_of_mem hfp
    obtain ⟨j, _, q2⟩ := back q
    exact h.nw fp (List.mem_of_getElem? q2) b hb
  · rw [← h.hd]
    apply List.ext_getElem?
    intro i
    have hZ : ((fps.take e.Z.length).map List.head?).length = e.Z.length := by rw [h.hd]
    rw [List.getElem?_map, List.getElem?_map, List.getElem?_take, List.getElem?_take]
    rw [hZ]
    by_cases hi : i < e.Z.length
    · rw [if_pos hi, if_pos hi]
      have h1 : i < fps.length := by
        rw [List.length_map, List.length_take] at hZ
        omega
      have h2 := fwd (hid i (by omega)) (List.getElem?_eq_getElem h1)
      rw [h2, List.getElem?_eq_getElem h1]
    · rw [if_neg hi, if_neg hi]
/-- a state of a family, some objects chosen anew -/
def InvS {P : Type} (m : Nat) (dl : P → List (Option AV)) (ml : P → List M) (inv : P → Prop) (δ : List (Option AV)) (μ : List M) : Prop := ∃ p js, inv p ∧ js.Nodup ∧ (∀ i, i < m → js[i]? = some i) ∧ Paired (fun (j : Nat) (x : M) => μ[j]? = some x) js (ml p) ∧ Paired (FgS js) δ (dl p)
theorem Holds.invS {K : PySem.W.Frag} {en : Ent} {δ : List (Option AV)} {τ : List AV} {μ : List M} {σ : L2.St} {τv : List V} {H : Hp} {P : Type} {m : Nat} {dl : P → List (Option AV)} {ml : P → List M} {inv : P → Prop} (hz : en.Z.length ≤ m) (ht : ∀ a ∈ τ, ∀ k, a = .own k → k < m)
    (h : InvS m dl ml inv δ μ) (q : Holds K en δ τ μ σ τv H) : ∃ p, inv p ∧ m ≤ (ml p).length ∧ Holds K en (dl p) τ (ml p) σ τv H := by
  obtain ⟨p, js, hp, nd, hid, hs, fg⟩ := h
  obtain ⟨fps, q⟩ := q
  refine ⟨p, hp, ?_, q.pick hz ht nd hid hs fg⟩
  rw [← hs.length]
  rcases Nat.eq_zero_or_pos m with z | z
  · omega
  · have h1 := hid (m - 1) (by omega)
    have h2 : m - 1 < js.length := by
      rcases Nat.lt_or_ge (m - 1) js.length with h | h
      · exact h
      · rw [List.getElem?_eq_none h] at h1; cases h1
    omega
section
variable {ι : Type} {Xs : ι → Cx} {c : Cfg} {kk : Nat} {N : List Str} {δ : List (Option AV)} {μ : List M} {k : AV → List M → Prop} {kb : Bool → List M → Prop} {ka : List AV → List M → Prop} {E : AE} {e a b : Expr} {es : List Expr} {pos : Pos} {x : Str} {tg it : Expr} {sts : List Stmt} {ki : Nat → (Nat → D) → List (Nat × List D) → List M → Prop}
/-- a loop whose turns may put new objects in the places of old ones -/
theorem s1_forS {P : Type} (m : Nat) (dl : Nat → P → List (Option AV)) (ml : Nat → P → List M) (inv : Nat → P → Prop) (ck : COk c kk N Xs) (hm : E.zl ≤ m)
    (h : SI Xs c.K tg it δ μ fun n f ow μ1 => m ≤ μ1.length ∧ (∀ p ∈ ow, p.1 < m) ∧ InvS m (dl 0) (ml 0) (inv 0) δ μ1 ∧ (∀ i p, i ≤ n → inv i p → gd ow (ml i p)) ∧
      (∀ i p, i < n → inv i p → SG Xs c.K tg (.im (f i)) (dl i p) (ml i p) fun δ2 μ2 => SS Xs c.K sts δ2 μ2
        { zl := m, nx := InvS m (dl (i + 1)) (ml (i + 1)) (inv (i + 1)), ct := InvS m (dl (i + 1)) (ml (i + 1)) (inv (i + 1)), bk := E.nx, rt := E.rt }) ∧
      (∀ p, inv n p → E.nx (dl n p) (ml n p)))
    (hs : ∀ i x, foldedSetIterable it (Xs i).env x = pure x := by intro _ _; rfl) : S1 Xs c.K (.For tg it sts [] pos) δ μ E := by
  refine ⟨fun en τ σ τv H D q eo => ⟨tFor (wI Xs tg it) (wG Xs tg) (wSs Xs sts), fun i => ps_for (by rw [ck.xe i]; exact PassesOwn.never) (ck.calm i) (wI_ok i) (wG_ok i) (wSs_ok i) (hs i), ?_⟩⟩
  refine h.run en τ σ τv H _ q fun n f ow μ1 H1 τx τvx J G Y hn q1 hl hx W hG hY => ?_
  obtain ⟨hmm, how, h0, hgd, hstep, hend⟩ := hn
  have hz : en.Z.length ≤ m := Nat.le_trans eo.zl.1 hm
  have ht : ∀ a ∈ τx ++ τ, ∀ k, a = .own k → k < m := fun a ha k e => by
    rcases List.mem_append.mp ha with ha | ha
    · obtain ⟨ds, hd⟩ := hx a ha k e
      exact how _ hd
    · exact Nat.lt_of_lt_of_le (eo.zl.2 a ha k e) hm
  have inS : ∀ {i δ' μ' σ' H'}, InvS m (dl i) (ml i) (inv i) δ' μ' → Holds c.K en δ' (τx ++ τ) μ' σ' (τvx ++ τv) H' → ∃ p, inv i p ∧ Holds c.K en (dl i p) (τx ++ τ) (ml i p) σ' (τvx ++ τv) H' := fun hi q => by
    obtain ⟨p, h1, _, h2⟩ := q.invS hz ht hi
    exact ⟨p, h1, h2⟩
  refine for_it W (fun i σ' H' => ∃ p, inv i p ∧ Holds c.K en (dl i p) (τx ++ τ) (ml i p) σ' (τvx ++ τv) H') (inS h0 q1) (fun i σ' H' hi ⟨p, hp, q2⟩ => hG _ _ _ _ q2 (hgd i p hi hp)) (fun i x σ' H' H'' hi ⟨p, hp, q2⟩ y => ?_) (fun σ' H' ⟨p, hp, q2⟩ => eo.nx _ _ _ _ (hend p hp) (q2.popn hl))
  have q3 := hY i x _ _ _ _ _ hi q2 (hgd i p (Nat.le_of_lt hi) hp) y
  refine (hstep i p hi hp).run en (τx ++ τ) σ' (τvx ++ τv) H'' x _ q3 fun δ2 μ2 σ2 H2 hb q4 => ?_
  exact hb.run en (τx ++ τ) σ2 (τvx ++ τv) H2 _ q4 ⟨fun δ' μ' σ' H' hn q => inS hn q, eo.rt, fun δ' μ' σ' H' hn q => eo.nx _ _ _ _ hn (q.popn hl), fun δ' μ' σ' H' hn q => inS hn q, ⟨hz, ht⟩⟩
theorem s1_whileS {P : Type} (m : Nat) (dl : P → List (Option AV)) (ml : P → List M) (inv : P → Prop) (ms : P → Nat) (ck : COk c kk N Xs) (hm : E.zl ≤ m) (h0 : InvS m dl ml inv δ μ)
    (hs : ∀ p, inv p → ST Xs c.K e (dl p) (ml p) fun b μ1 => (b = true → SS Xs c.K sts (dl p) μ1 { zl := m, nx := InvS m dl ml (fun p' => inv p' ∧ ms p' < ms p), ct := InvS m dl ml (fun p' => inv p' ∧ ms p' < ms p), bk := E.nx, rt := E.rt }) ∧ (b = false → E.nx (dl p) μ1)) :
    S1 Xs c.K (.While e sts [] pos) δ μ E := by
  refine ⟨fun en τ σ τv H D q eo => ⟨tWhile (wT Xs e) (wSs Xs sts), fun i => ps_while (by rw [ck.xe i]; exact PassesOwn.never) (wT_ok i) (wSs_ok i), ?_⟩⟩
  have hz : en.Z.length ≤ m := Nat.le_trans eo.zl.1 hm
  have ht : ∀ a ∈ τ, ∀ k, a = .own k → k < m := fun a ha k e => Nat.lt_of_lt_of_le (eo.zl.2 a ha k e) hm
  refine ⟨fun n σ' H' => ∃ p, ms p = n ∧ inv p ∧ Holds c.K en (dl p) τ (ml p) σ' τv H', ?_, fun n σ' H' ⟨p, hn, hp, q1⟩ => ?_⟩
  · obtain ⟨p, hp, _, q1⟩ := q.invS hz ht h0
    exact ⟨_, p, rfl, hp, q1⟩
  · refine (hs p hp).run en τ σ' τv H' _ q1 fun b μ1 H1 hb q2 => ?_
    cases b with
    | false => rw [if_neg Bool.false_ne_true]; exact eo.nx _ _ _ _ (hb.2 rfl) q2
    | true =>
      rw [if_pos rfl]
      have inS : ∀ {δ' μ' σ' H'}, InvS m dl ml (fun p' => inv p' ∧ ms p' < ms p) δ' μ' → Holds c.K en δ' τ μ' σ' τv H' → ∃ p', (inv p' ∧ ms p' < ms p) ∧ Holds c.K en (dl p') τ (ml p') σ' τv H' := fun hi q => by
        obtain ⟨p, h1, _, h2⟩ := q.invS hz ht hi
        exact ⟨p, h1, h2⟩
      refine ⟨fun σ'' H'' => ∃ p', (inv p' ∧ ms p' < ms p) ∧ Holds c.K en (dl p') τ (ml p') σ'' τv H'', fun σ'' H'' ⟨p', ⟨h1, h2⟩, q3⟩ => ⟨ms p', by omega, p', rfl, h1, q3⟩, ?_⟩
      exact (hb.1 rfl).run en τ σ' τv H1 _ q2 ⟨fun δ' μ' σ' H' hn q => inS hn q, eo.rt, fun δ' μ' σ' H' hn q => eo.nx _ _ _ _ hn q, fun δ' μ' σ' H' hn q => inS hn q, ⟨hz, ht⟩⟩
/-- zip of two own lists -/
theorem si_zip {xp tpos : Pos} {elts : List Expr} {kn : Nat} (ck : COk c kk N Xs) (hm : c.mg "zip" = none) (h : SA Xs c.K [a, b] δ μ fun as μ1 => ∃ j1 j2 d1 d2, as = [.own j1, .own j2] ∧ μ1[j1]? = some (.lst d1) ∧ μ1[j2]? = some (.lst d2) ∧ ki (min d1.length d2.length) (fun i => .tup [d1.getD i .non, d2.getD i .non]) [(j1, d1), (j2, d2)] μ1)
    (hg : ∀ i, Gl (Xs i) "zip" := by exact fun _ => rfl) (hs : ∀ i, starEach [a, b] (Xs i).env = (false, eval a (Xs i).env) :: starEach [b] (Xs i).env := by intro _; rfl) (hpl : ∀ i, (backTo pos (starEach [b] (Xs i).env)).any (·.1) = false := by intro _; rfl) :
    SI Xs c.K (.Tuple elts kn tpos) (.Call (.Name "zip" xp) [a, b] [] pos) δ μ ki := by
  refine ⟨fun en τ σ τv H R q hk => ⟨iZip c.K (wA Xs [a, b]), fun i => by rw [← ck.K i]; exact pi_zip (hg i) (by rw [ck.mg i]; exact hm) (wA_ok i) (hs i) (hpl i), ?_⟩⟩
  refine h.run en τ σ τv H _ q fun as μ1 vs H1 ha hl q1 => ?_
  obtain ⟨j1, j2, d1, d2, rfl, g1, g2, hn⟩ := ha
  obtain ⟨v, w, rfl⟩ : ∃ v w, vs = [v, w] := by match vs, hl with | [v, w], _ => exact ⟨v, w, rfl⟩
  obtain ⟨p2, vs2, rfl, hq2, hr2⟩ := Holds.own_lst (Holds.pop q1) g2
  obtain ⟨p1, vs1, rfl, hq1, hr1⟩ := Holds.own_lst q1 g1
  have two_at : ∀ δ' μ' σ' H', Holds c.K en δ' ([.own j1, .own j2] ++ τ) μ' σ' ([.ref p1, .ref p2] ++ τv) H' → gd [(j1, d1), (j2, d2)] μ' → ∃ w1 w2, SqL c.K H' p1 w1 ∧ SqL c.K H' p2 w2 ∧ Reps c.K H' d1 w1 ∧ Reps c.K H' d2 w2 := fun δ' μ' σ' H' q2 g => by
    obtain ⟨p', w1, e, h1, h2⟩ := Holds.own_lst q2 (g (j1, d1) (by simp))
    cases e
    obtain ⟨p', w2, e, h3, h4⟩ := Holds.own_lst (Holds.pop q2) (g (j2, d2) (by simp))
    cases e
    exact ⟨w1, w2, .inl (.inl h1), .inl (.inl h3), h2, h4⟩
  have W : Walk (Itz c.K p1 p2) (min d1.length d2.length) (fun H' => ∃ w1 w2, SqL c.K H' p1 w1 ∧ SqL c.K H' p2 w2 ∧ Reps c.K H' d1 w1 ∧ Reps c.K H' d2 w2)
      (fun i H' v H'' => ∃ T x y, v = .ref T ∧ H' T = none ∧ H'' = upd H' T (.tup [x, y]) ∧ (∀ xs, SqL c.K H' p1 xs → xs[i]? = some x) ∧ ∀ ys, SqL c.K H' p2 ys → ys[i]? = some y) :=
    ⟨fun i H' hi ⟨w1, w2, g1, g2, g3, g4⟩ => by
      have l1 := g3.length
      have l2 := g4.length
      exact ⟨w1, w2, w1[i]'(by omega), w2[i]'(by omega), g1, g2, by simp, by simp⟩, fun H' ⟨w1, w2, g1, g2, g3, g4⟩ => by
      have l1 := g3.length
      have l2 := g4.length
      exact ⟨w1, w2, g1, g2, by omega⟩, fun i H' x H'' hi _ y => y⟩
  refine ⟨p1, p2, vs1, vs2, rfl, .inl (.inl hq1), .inl (.inl hq2), hk _ _ [(j1, d1), (j2, d2)] μ1 H1 [.own j1, .own j2] [.ref p1, .ref p2] _ _ _ hn q1 rfl (fun w hw k e => by
      subst e
      simp at hw
      rcases hw with rfl | rfl
      · exact ⟨d1, by simp⟩
      · exact ⟨d2, by simp⟩) W (fun δ' μ' σ' H' q2 g => two_at δ' μ' σ' H' q2 g) fun i x δ' μ' σ' H' H'' hi q2 g y => ?_⟩
  obtain ⟨T, x1, y1, rfl, hT, rfl, h3, h4⟩ := y
  obtain ⟨w1, w2, f1, f2, f3, f4⟩ := two_at δ' μ' σ' _ q2 g
  have s : Same H' (upd H' T (.tup [x1, y1])) := same_new hT
  exact (q2.ext s).push (rep_tup.mpr ⟨T, _, rfl, .inl (.inl upd_same), reps_cons.mpr ⟨_, _, rfl, Rep.keep (Keep.of_same s) _ _ (reps_at f3 (h3 w1 f1)), reps_cons.mpr ⟨_, _, rfl, Rep.keep (Keep.of_same s) _ _ (reps_at f4 (h4 w2 f2)), reps_nil.mpr rfl⟩⟩⟩)
/-- a list made longer by another one -/
def ExtAt (jo j2 : Nat) (k : AV → List M → Prop) (μ : List M) : Prop := ∃ ds es, μ[jo]? = some (.lst ds) ∧ μ[j2]? = some (.lst es) ∧ ds.length + es.length ≤ 16777216 ∧ k (.im .non) (μ.set jo (.lst (ds ++ es)))
theorem se_extendE {apos : Pos} {k : AV → List M → Prop} (ck : COk c kk N Xs) (h : SE Xs c.K a δ μ fun x μ1 => ∃ jo, x = .own jo ∧ (∃ d0, μ1[jo]? = some (.lst d0)) ∧ SE Xs c.K b δ μ1 fun y μ2 => ∃ j2, y = .own j2 ∧ ExtAt jo j2 k μ2)
    (hbase : ∀ i, attributeBase a "extend" (Xs i).env (eval a (Xs i).env) = eval a (Xs i).env)
    (hfew : ∀ i, ((backTo pos (starEach (b :: []) (Xs i).env)).all (fun x => !x.1) && (backToKw pos (keywordEach [] (Xs i).env)).all (fun x => x.1.isSome)
      && decide ((b :: ([] : List Expr)).length + ([] : List Keyword).length + (if ([] : List Keyword).isEmpty then 0 else 1) < 30)) = true)
    (hline : (apos.endLine == pos.line) = true) (hs : ∀ i, starEach (b :: []) (Xs i).env = (false, eval b (Xs i).env) :: starEach [] (Xs i).env) (hplain : ∀ i, (backTo pos (starEach [] (Xs i).env)).any (·.1) = false) :
    SE Xs c.K (.Call (.Attribute a "extend" apos) [b] [] pos) δ μ k := by
  refine se_extend ck ⟨fun en τ σ τv H Q q hk => ?_⟩ hbase hfew hline hs hplain
  refine h.run en τ σ τv H Q q fun x μ1 v H1 hx q1 => hk x μ1 v H1 ?_ q1
  obtain ⟨jo, e1, e2, e3⟩ := hx
  refine ⟨jo, e1, e2, ⟨fun en τ σ τv H Q q hk => ?_⟩⟩
  refine e3.run en τ σ τv H Q q fun y μ2 v H2 hy q2 => hk y μ2 v H2 ?_ q2
  obtain ⟨j2, f1, ds, es, f2⟩ := hy
  exact ⟨j2, ds, es, f1, f2⟩
end
/-! ### data of tuples that may be compared -/
def lay : Nat → D → Bool
  | _, .non => true
  | _, .bl _ => true
  | _, .int _ => true
  | n + 1, .tup ds => ds.all (lay n)
  | _, _ => false
theorem lay_list {n : Nat} (ih : ∀ d, lay n d = true → d.plain = true ∧ d.py.canLay0 = true ∧ d.py.depth ≤ n) : ∀ ds : List D, ds.all (lay n) = true → plains ds = true ∧ PyData.canLayAll0 (pys ds) = true ∧ PyData.depthAll (pys ds) ≤ n
  | [], _ => ⟨by rw [plains], by rw [pys, PyData.canLayAll0], by rw [pys, PyData.depthAll]; omega⟩
  | d :: ds, h => by
    rw [List.all_cons, Bool.and_eq_true] at h
    obtain ⟨a1, a2, a3⟩ := ih d h.1
    obtain ⟨b1, b2, b3⟩ := lay_list ih ds h.2
    refine ⟨by rw [plains, a1, b1]; rfl, by rw [pys, PyData.canLayAll0, a2, b2]; rfl, ?_⟩
    rw [pys, PyData.depthAll]
    omega
theorem lay_py : ∀ (n : Nat) (d : D), lay n d = true → d.plain = true ∧ d.py.canLay0 = true ∧ d.py.depth ≤ n
  | n, .non, _ => ⟨by simp [D.plain], by simp [D.py, PyData.canLay0], by simp [D.py, PyData.depth]⟩
  | n, .bl b, _ => ⟨by simp [D.plain], by simp [D.py, PyData.canLay0], by simp [D.py, PyData.depth]⟩
  | n, .int b, _ => ⟨by simp [D.plain], by simp [D.py, PyData.canLay0], by simp [D.py, PyData.depth]⟩
  | n + 1, .tup ds, h => by
    have h : ds.all (lay n) = true := h
    obtain ⟨b1, b2, b3⟩ := lay_list (lay_py n) ds h
    exact ⟨by rw [D.plain, b1], by rw [D.py, PyData.canLay0, b2], by rw [D.py, PyData.depth]; omega⟩
  | 0, .tup _, h => by cases h
  | 0, .str _, h => by cases h
  | 0, .fl _, h => by cases h
  | 0, .ty _, h => by cases h
  | 0, .adr _, h => by cases h
  | 0, .tk _, h => by cases h
  | n + 1, .str _, h => by cases h
  | n + 1, .fl _, h => by cases h
  | n + 1, .ty _, h => by cases h
  | n + 1, .adr _, h => by cases h
  | n + 1, .tk _, h => by cases h
theorem lay_shaped {n : Nat} {d : D} (h : lay n d = true) (hn : n ≤ 64) : SeqAt.shaped d.py = true := by
  obtain ⟨_, h2, h3⟩ := lay_py n d h
  show (d.py.canLay0 && decide (d.py.depth ≤ 64)) = true
  rw [h2, decide_eq_true (by omega)]; rfl
theorem lay_shapedL {n : Nat} {ds : List D} (h : ds.all (lay n) = true) (hn : n ≤ 63) : SeqAt.shaped (.list (pys ds)) = true := by
  obtain ⟨_, h2, h3⟩ := lay_list (lay_py n) ds h
  show (PyData.canLay0 (.list (pys ds)) && decide (PyData.depth (.list (pys ds)) ≤ 64)) = true
  rw [PyData.canLay0, h2, PyData.depth, decide_eq_true (by omega)]; rfl
theorem pys_nil {ds : List D} : (pys ds).isEmpty = ds.isEmpty := by cases ds <;> rw [pys] <;> rfl
section
variable {ι : Type} {Xs : ι → Cx} {c : Cfg} {kk : Nat} {N : List Str} {μ : List M} {k : AV → List M → Prop}
theorem pyOf_im {d : D} {n : Nat} (h : lay n d = true) : pyOf μ (.im d) = some d.py := by
  show (if d.plain = true then some d.py else none) = _
  rw [if_pos (lay_py n d h).1]
theorem pyOf_own {j n : Nat} {ds : List D} (hj : μ[j]? = some (.lst ds)) (h : ds.all (lay n) = true) : pyOf μ (.own j) = some (.list (pys ds)) := by
  show (match μ[j]? with | some (.lst ds) => if plains ds then some (PyData.list (pys ds)) else none | _ => none) = _
  rw [hj]
  show (if plains ds then some (PyData.list (pys ds)) else none) = _
  rw [if_pos (lay_list (lay_py n) ds h).1]
/-- l != [] -/
theorem op_neNilL (n : Nat) {ds : List D} {j1 j2 : Nat} (ck : COk c kk N Xs) (h1 : μ[j1]? = some (.lst ds)) (h2 : μ[j2]? = some (.lst [])) (hl : ds.all (lay n) = true) (hn : n ≤ 63) (h : k (.im (.bl (!ds.isEmpty))) μ) : OP Xs c.K (compareOp .NotEq) (.own j1) (.own j2) μ k := by
  refine op_neG ck (pyOf_own h1 hl) (pyOf_own (n := 0) h2 rfl) (lay_shapedL hl hn) (lay_shapedL (n := 0) (ds := []) rfl (by decide)) ?_ h
  rw [show pys [] = [] by rw [pys], eqv_nil, pys_nil]
theorem op_eqNilL (n : Nat) {ds : List D} {j1 j2 : Nat} (ck : COk c kk N Xs) (h1 : μ[j1]? = some (.lst ds)) (h2 : μ[j2]? = some (.lst [])) (hl : ds.all (lay n) = true) (hn : n ≤ 63) (h : k (.im (.bl ds.isEmpty)) μ) : OP Xs c.K (compareOp .Eq) (.own j1) (.own j2) μ k := by
  refine op_eqG ck (pyOf_own h1 hl) (pyOf_own (n := 0) h2 rfl) (lay_shapedL hl hn) (lay_shapedL (n := 0) (ds := []) rfl (by decide)) ?_ h
  rw [show pys [] = [] by rw [pys], eqv_nil, pys_nil]
end
end AL
namespace K20
open PySem PySem.Spec PyProof.Rows L2 AL
/-! ### the runner: one step of the reading at a time -/
local macro_rules | `(tactic| walk_at "al at") => `(tactic| (repeat (first | with_reducible exact At.here | with_reducible apply At.next)))
local macro_rules | `(tactic| walk_at "al loc") => `(tactic| (first | exact fun _ => Or.inl rfl | exact fun _ => Or.inr rfl))
local macro_rules | `(tactic| walk_at "al hf") => `(tactic| (first | exact fun _ => Or.inl rfl | exact fun _ => Or.inr rfl))
local macro_rules | `(tactic| walk_at "al var") => `(tactic| ((with_reducible refine' se_name ?ck ?hj ?hd ?h ?hv ?h1 ?h2); (case ck => assumption); (case hj => walk_at "al at"); (case hd => exact rfl); (case hv => (first | exact fun _ => Or.inl rfl | exact fun _ => Or.inr (Or.inl rfl) | exact fun _ => Or.inr (Or.inr rfl))); (case h1 => decide); (case h2 => decide)))
local macro_rules | `(tactic| walk_at "al blt") => `(tactic| (first
  | with_reducible refine' se_len ?ck ?hm ?h ?hg ?he ?hp
  | with_reducible refine' se_abs ?ck ?hm ?h ?hg ?he ?hp
  | with_reducible refine' se_max2 ?ck ?hm ?h ?hg ?he ?hp
  | with_reducible refine' se_min2 ?ck ?hm ?h ?hg ?he ?hp
  | with_reducible refine' se_max1 ?ck ?hm ?h ?hg ?he ?hp
  | with_reducible refine' se_all ?ck ?hm ?h ?hg ?he ?hp
  | with_reducible refine' se_any ?ck ?hm ?h ?hg ?he ?hp
  | with_reducible refine' se_sum ?ck ?hm ?h ?hg ?he ?hp
  | with_reducible refine' se_sorted ?ck ?hm ?h ?hg ?he ?hp
  | with_reducible refine' se_isi ?ck ?hm ?h ?hg ?he ?hp
  | with_reducible refine' se_toInt ?ck ?hm ?h ?hg ?he ?hp
  | with_reducible refine' se_toTuple ?ck ?hm ?h ?hg ?he ?hp
  | with_reducible refine' se_toList ?ck ?hm ?h ?hg ?he ?hp
  | with_reducible refine' se_toDict ?ck ?hm ?h ?hg ?he ?hp);
  (case ck => assumption); (case hm => assumption); (case hg => exact fun _ => rfl); (case he => exact fun _ => rfl); (case hp => exact fun _ => rfl))
local macro_rules | `(tactic| walk_at "al bty") => `(tactic| (first
  | with_reducible refine' se_nInt ?ck ?hm ?h ?hg
  | with_reducible refine' se_nBool ?ck ?hm ?h ?hg
  | with_reducible refine' se_nStr ?ck ?hm ?h ?hg
  | with_reducible refine' se_nTuple ?ck ?hm ?h ?hg);
  (case ck => assumption); (case hm => assumption); (case hg => exact fun _ => rfl))
local macro_rules | `(tactic| walk_at "al call") => `(tactic| ((with_reducible refine' se_call ?ck ?cl ?hk ?h ?hg ?hdb ?he ?hpl); (case ck => assumption); (case cl => with_reducible assumption); (case hk => decide); (case hg => exact fun _ => rfl); (case hdb => decide); (case he => exact fun _ => rfl); (case hpl => exact fun _ => rfl)))
local macro_rules | `(tactic| walk_at "al expr") => `(tactic| first
  | walk_at "al var"
  | with_reducible refine' se_int ?_
  | with_reducible refine' se_bl ?_
  | with_reducible refine' se_non ?_
  | with_reducible refine' se_dnewK ?_
  | with_reducible refine' se_str ?_
  | walk_at "al bty"
  | (with_reducible refine' se_bin ?_)
  | ((with_reducible refine' se_cmp ?_ ?hm); (case hm => first | exact nobehind _ (by decide) (by decide) | rfl | with_unfolding_all rfl))
  | ((with_reducible refine' se_chain ?_ ?hm); (case hm => with_unfolding_all rfl))
  | (with_reducible refine' se_slice ?_)
  | ((with_reducible refine' se_ix ?_ ?hs); (case hs => exact fun _ _ => rfl))
  | (with_reducible refine' se_tup ?_)
  | (with_reducible refine' se_lst ?_)
  | (with_reducible refine' se_one ?_)
  | (with_reducible refine' se_and ?_)
  | (with_reducible refine' se_or ?_)
  | (with_reducible refine' se_not ?_)
  | (with_reducible refine' se_neg ?_)
  | (with_reducible refine' se_if ?_)
  | walk_at "al blt"
  | ((with_reducible refine' se_gInt ?ck ?hm ?h ?hg ?hd); (case ck => assumption); (case hm => assumption); (case hg => exact fun _ => rfl); (case hd => decide))
  | ((with_reducible refine' se_append ?ck ?h ?hb ?hf ?hl ?hs ?hp); (case ck => assumption); (case hb => exact fun _ => rfl); (case hf => exact fun _ => rfl); (case hl => exact rfl); (case hs => exact fun _ => rfl); (case hp => exact fun _ => rfl))
  | ((with_reducible refine' se_extendE ?ck ?h ?hb ?hf ?hl ?hs ?hp); (case ck => assumption); (case hb => exact fun _ => rfl); (case hf => exact fun _ => rfl); (case hl => exact rfl); (case hs => exact fun _ => rfl); (case hp => exact fun _ => rfl))
  | ((with_reducible refine' se_update ?ck ?h ?hb ?hf ?hl ?hs ?hp); (case ck => assumption); (case hb => exact fun _ => rfl); (case hf => exact fun _ => rfl); (case hl => exact rfl); (case hs => exact fun _ => rfl); (case hp => exact fun _ => rfl))
  | walk_at "al call")
local macro_rules | `(tactic| walk_at "al test") => `(tactic| first
  | ((with_reducible refine' st_cmp ?_ ?hm); (case hm => first | exact nobehind _ (by decide) (by decide) | rfl | with_unfolding_all rfl))
  | ((with_reducible refine' st_chain ?_ ?hm); (case hm => with_unfolding_all rfl))
  | (with_reducible refine' st_not ?_)
  | (with_reducible refine' st_sw (sw_and ?_))
  | (with_reducible refine' st_sw (sw_or ?_))
  | ((with_reducible refine' st_val ?_ ?he); (case he => exact fun _ _ => rfl)))
local macro_rules | `(tactic| walk_at "al sw") => `(tactic| first
  | (with_reducible refine' sw_and1 ?_)
  | (with_reducible refine' sw_or1 ?_)
  | (with_reducible refine' sw_and ?_)
  | (with_reducible refine' sw_or ?_))
local macro_rules | `(tactic| walk_at "al args") => `(tactic| first
  | (with_reducible refine' sa_nil ?_)
  | ((with_reducible refine' sa_cons ?_ ?hs); (case hs => exact fun _ => rfl)))
local macro_rules | `(tactic| walk_at "al op") => `(tactic| first
  | with_reducible refine' op_addI ?_
  | with_reducible refine' op_subI ?_
  | ((with_reducible refine' op_modI ?hc ?_); (case hc => first | decide | assumption | omega))
  | ((with_reducible refine' op_divI ?hc ?_); (case hc => first | exact ⟨by decide, by decide⟩ | assumption | exact ⟨by omega, by omega⟩))
  | ((with_reducible refine' op_mulI ?hc ?_); (case hc => first | exact Or.inl ⟨by decide, by decide⟩ | exact Or.inr ⟨by decide, by decide⟩ | assumption | exact Or.inl ⟨by omega, by omega⟩ | exact Or.inr ⟨by omega, by omega⟩))
  | with_reducible refine' op_xorI ?_
  | with_reducible refine' op_ltI ?_
  | with_reducible refine' op_leI ?_
  | with_reducible refine' op_gtI ?_
  | with_reducible refine' op_geI ?_
  | with_reducible refine' op_eqBB ?_
  | with_reducible refine' op_eqII ?_
  | with_reducible refine' op_eqTT ?_
  | with_reducible refine' op_eqI ?_
  | with_reducible refine' op_neI ?_
  | with_reducible refine' op_eqB ?_
  | with_reducible refine' op_eqT ?_
  | ((with_reducible refine' op_inDKI ?ck ?hj ?_); (case ck => assumption); (case hj => exact rfl))
  | with_reducible refine' op_isN_non ?_
  | with_reducible refine' op_isN_int ?_
  | with_reducible refine' op_isN_bl ?_
  | with_reducible refine' op_isN_str ?_
  | with_reducible refine' op_isN_tup ?_
  | with_reducible refine' op_notN_non ?_
  | with_reducible refine' op_notN_tup ?_
  | ((with_reducible refine' op_neNilA 2 ?ck ?hj ?h2 ?_); (case ck => assumption); (case hj => exact rfl); (case h2 => exact rfl))
  | ((with_reducible refine' op_neNilA 1 ?ck ?hj ?h2 ?_); (case ck => assumption); (case hj => exact rfl); (case h2 => exact rfl))
  | with_reducible refine' op_isNone ?_
  | with_reducible refine' op_isNotNone ?_)
local macro_rules | `(tactic| walk_at "al cb") => `(tactic| first
  | ((with_reducible refine' cb_len_tup ?ck ?_); (case ck => assumption))
  | ((with_reducible refine' cb_len_fl ?ck ?_); (case ck => assumption))
  | ((with_reducible refine' cb_len_lsA 1 ?ck ?hj ?_); (case ck => assumption); (case hj => exact rfl))
  | ((with_reducible refine' cb_len_own ?ck ?hj ?_); (case ck => assumption); (case hj => exact rfl))
  | with_reducible refine' cb_int ?_
  | with_reducible refine' cb_abs ?_
  | ((with_reducible refine' cb_max2 ?ck ?_); (case ck => assumption))
  | ((with_reducible refine' cb_min2 ?ck ?_); (case ck => assumption))
  | ((with_reducible refine' cb_tup_own ?ck ?hj ?_); (case ck => assumption); (case hj => exact rfl))
  | ((with_reducible refine' cb_allR ?ck ?hj ?_); (case ck => assumption); (case hj => exact rfl))
  | ((with_reducible refine' cb_lst_tup ?ck ?_); (case ck => assumption))
  | ((with_reducible refine' cb_lst_fl ?ck ?_); (case ck => assumption))
  | ((with_reducible refine' cb_isi ?ck ?hr ?_ ?hd ?hf ?ha); (case ck => assumption); (case hr => first | exact kit_ii | exact kit_tt | exact kit_ib | exact kit_bi | exact kit_bb | exact kit_it | exact kit_bt | exact kit_nt | exact kit_st | exact kit_is | exact kit_bs | exact kit_ss | exact kit_ns | exact kit_ts | exact kit_ti); (case hd => intro _ z; cases z); (case hf => intro _ z; cases z); (case ha => intro _ z; cases z)))
local macro_rules | `(tactic| walk_at "al ex") => `(tactic| first
  | with_reducible refine' Exists.intro _ ⟨rfl, ?_⟩
  | with_reducible refine' Exists.intro _ (Exists.intro _ ⟨rfl, rfl, ?_⟩)
  | with_reducible refine' Exists.intro _ (Exists.intro _ ⟨rfl, ?_⟩)
  | with_reducible refine' Exists.intro _ (Exists.intro _ (Exists.intro _ ⟨rfl, ?_⟩))
  | refine' And.intro (Exists.intro _ rfl) ?_
  | refine' Exists.intro [] ⟨rfl, Nat.le_of_ble_eq_true rfl, ?_⟩
  | refine' Exists.intro [_] ⟨rfl, Nat.le_of_ble_eq_true rfl, ?_⟩
  | refine' Exists.intro [_, _] ⟨rfl, Nat.le_of_ble_eq_true rfl, ?_⟩
  | refine' Exists.intro [_, _, _] ⟨rfl, Nat.le_of_ble_eq_true rfl, ?_⟩
  | refine' Exists.intro [_, _, _, _] ⟨rfl, Nat.le_of_ble_eq_true rfl, ?_⟩
  | refine' Exists.intro [_, _, _, _, _] ⟨rfl, Nat.le_of_ble_eq_true rfl, ?_⟩
  | refine' Exists.intro [_, _, _, _, _, _] ⟨rfl, Nat.le_of_ble_eq_true rfl, ?_⟩
  | refine' Exists.intro [_, _, _, _, _, _, _] ⟨rfl, Nat.le_of_ble_eq_true rfl, ?_⟩
  | refine' Exists.intro [_, _, _, _, _, _, _, _] ⟨rfl, Nat.le_of_ble_eq_true rfl, ?_⟩
  | refine' Exists.intro [_, _, _, _, _, _, _, _, _] ⟨rfl, Nat.le_of_ble_eq_true rfl, ?_⟩
  | refine' Exists.intro [_, _, _, _, _, _, _, _, _, _] ⟨rfl, Nat.le_of_ble_eq_true rfl, ?_⟩)
local macro_rules | `(tactic| walk_at "al ss") => `(tactic| first
  | (with_reducible refine' ss_cons ?_)
  | (refine' ss_cons ?_))
local macro_rules | `(tactic| walk_at "al ix") => `(tactic| first
  | ((with_reducible refine' ix_tupA ?ck ?hd ?_); (case ck => assumption); (case hd => first | assumption | exact rfl))
  | ((with_reducible refine' ix_ownA ?ck ?hj ?hd ?_); (case ck => assumption); (case hj => exact rfl); (case hd => assumption))
  | ((with_reducible refine' ix_dKS ?ck ?hj ?hd ?_); (case ck => assumption); (case hj => exact rfl); (case hd => first | exact drw_cells | exact drw_at | exact drw_left | exact rfl))
  | ((with_reducible refine' ix_lsA 2 ?ck ?hj ?hd ?_); (case ck => assumption); (case hj => exact rfl); (case hd => assumption))
  | ((with_reducible refine' ix_lsA 1 ?ck ?hj ?hd ?_); (case ck => assumption); (case hj => exact rfl); (case hd => assumption)))
local macro_rules | `(tactic| walk_at "al stmt") => `(tactic| first
  | (with_reducible refine' s1_ret ?_)
  | (with_reducible refine' s1_if ?_)
  | ((with_reducible refine' s1_set ?ck ?hj ?_ ?hx ?hs ?hf); (case ck => assumption); (case hj => walk_at "al at"); (case hx => walk_at "al loc"); (case hs => exact fun _ => rfl); (case hf => walk_at "al hf"))
  | ((with_reducible refine' s1_par ?ck ?h1 ?h2 ?_ ?hij ?hx ?hy ?hw ?hs); (case ck => assumption); (case h1 => walk_at "al at"); (case h2 => walk_at "al at"); (case hij => decide); (case hx => exact fun _ => rfl); (case hy => exact fun _ => rfl); (case hw => exact fun _ => rfl); (case hs => exact fun _ => rfl))
  | ((with_reducible refine' s1_par3 ?ck ?h1 ?h2 ?h3 ?_ ?hij ?hx ?hy ?hz ?hw ?hs); (case ck => assumption); (case h1 => walk_at "al at"); (case h2 => walk_at "al at"); (case h3 => walk_at "al at"); (case hij => decide); (case hx => exact fun _ => rfl); (case hy => exact fun _ => rfl); (case hz => exact fun _ => rfl); (case hw => exact fun _ => rfl); (case hs => exact fun _ => rfl))
  | ((with_reducible refine' s1_asg ?_ ?hs ?hw ?h1); (case hs => exact fun _ => rfl); (case hw => exact fun _ => rfl); (case h1 => exact fun _ => rfl))
  | ((with_reducible refine' s1_expr ?_ ?hs); (case hs => exact fun _ => rfl))
  | (with_reducible refine' s1_break ?_)
  | (with_reducible refine' s1_continue ?_)
  | (with_reducible refine' s1_pass ?_)
  | (with_reducible refine' s1_retN ?_))
local macro_rules | `(tactic| walk_at "al con") => `(tactic| fail)
local macro_rules | `(tactic| walk_at "al bl") => `(tactic| first
  | with_reducible refine' if_tt ?_
  | with_reducible refine' if_ff ?_
  | with_reducible refine' if_nt ?_
  | with_reducible refine' if_nf ?_)
local macro_rules | `(tactic| walk_at "al ret") => `(tactic| (refine' rt_im ?e ?h; (case e => exact rfl)))
local macro_rules | `(tactic| walk_at "al fg") => `(tactic| repeat (first | exact Paired.nil | refine' Paired.cons ?_ ?_ | exact True.intro | exact rfl | exact ⟨rfl, Nat.le_of_ble_eq_true rfl⟩))
local macro_rules | `(tactic| walk_at "al sto") => `(tactic| first
  | ((with_reducible refine' sto_dKI ?ck ?hj ?hl ?_); (case ck => assumption); (case hj => exact rfl); (case hl => first | assumption | omega))
  | ((with_reducible refine' sto_dKS ?ck ?hj ?hl ?_); (case ck => assumption); (case hj => exact rfl); (case hl => first | assumption | omega | exact Nat.lt_of_sub_pos (by decide) | exact Nat.le_of_ble_eq_true rfl))
  | ((with_reducible refine' sto_lst ?hj ?ht ?_); (case hj => exact rfl); (case ht => assumption)))
local macro_rules | `(tactic| walk_at "al tg") => `(tactic| first
  | ((with_reducible refine' sg_name ?ck ?hj ?_ ?hx ?hf); (case ck => assumption); (case hj => walk_at "al at"); (case hx => walk_at "al loc"); (case hf => walk_at "al hf"))
  | ((with_reducible refine' sg_sub ?_ ?ha); (case ha => exact fun _ _ => rfl))
  | ((with_reducible refine' sg_tup ?ck ?_ ?hl ?hn ?hst); (case ck => assumption); (case hl => exact rfl); (case hn => exact fun _ => rfl); (case hst => exact fun _ => rfl); (try dsimp only [List.map]))
  | (with_reducible refine' sgs_nil ?_)
  | ((with_reducible refine' sgs_cons ?_ ?hs); (case hs => exact fun _ => rfl)))
local macro_rules | `(tactic| walk_at "al") => `(tactic| (repeat (first
  | ((with_reducible show SE _ _ _ _ _ _); walk_at "al expr")
  | ((with_reducible show SA _ _ _ _ _ _); walk_at "al args")
  | ((with_reducible show OP _ _ _ _ _ _ _); walk_at "al op")
  | ((with_reducible show CB _ _ _ _ _ _); walk_at "al cb")
  | ((with_reducible show ST _ _ _ _ _ _); walk_at "al test")
  | ((with_reducible show SO _ _ _ _ _ _); first | with_reducible refine' so_none ?_ | with_reducible refine' so_some ?_)
  | ((with_reducible show SLI _ _ _ _ _ _ _); first | ((with_reducible refine' sli_tup ?ck ?_); (case ck => assumption)) | ((with_reducible refine' sli_own ?ck ?hj ?_); (case ck => assumption); (case hj => exact rfl)) | ((with_reducible refine' sli_lsA 2 ?ck ?hj ?_); (case ck => assumption); (case hj => exact rfl)))
  | ((with_reducible show SW _ _ _ _ _ _); walk_at "al sw")
  | ((with_reducible show STs _ _ _ _ _ _); first | with_reducible refine' sts_nil ?_ | with_reducible refine' sts_one ?_)
  | ((with_reducible show SS _ _ _ _ _ _); walk_at "al ss")
  | ((with_reducible show S1 _ _ _ _ _ _); walk_at "al stmt")
  | ((with_reducible show SG _ _ _ _ _ _ _); walk_at "al tg")
  | ((with_reducible show SGs _ _ _ _ _ _ _); walk_at "al tg")
  | ((with_reducible show STO _ _ _ _ _ _ _); walk_at "al sto")
  | ((with_reducible show IX _ _ _ _ _ _); walk_at "al ix")
  | walk_at "al con" | walk_at "al ex" | walk_at "al bl")))
local macro_rules | `(tactic| walk_at "al e") => `(tactic| (repeat (first
  | ((with_reducible show SE _ _ _ _ _ _); walk_at "al expr")
  | ((with_reducible show SA _ _ _ _ _ _); walk_at "al args")
  | ((with_reducible show OP _ _ _ _ _ _ _); walk_at "al op")
  | ((with_reducible show CB _ _ _ _ _ _); walk_at "al cb")
  | ((with_reducible show ST _ _ _ _ _ _); walk_at "al test")
  | ((with_reducible show SO _ _ _ _ _ _); first | with_reducible refine' so_none ?_ | with_reducible refine' so_some ?_)
  | ((with_reducible show SLI _ _ _ _ _ _ _); first | ((with_reducible refine' sli_tup ?ck ?_); (case ck => assumption)) | ((with_reducible refine' sli_own ?ck ?hj ?_); (case ck => assumption); (case hj => exact rfl)) | ((with_reducible refine' sli_lsA 2 ?ck ?hj ?_); (case ck => assumption); (case hj => exact rfl)))
  | ((with_reducible show SW _ _ _ _ _ _); walk_at "al sw")
  | ((with_reducible show STs _ _ _ _ _ _); first | with_reducible refine' sts_nil ?_ | with_reducible refine' sts_one ?_)
  | ((with_reducible show S1 _ _ _ _ _ _); walk_at "al stmt")
  | ((with_reducible show SG _ _ _ _ _ _ _); walk_at "al tg")
  | ((with_reducible show SGs _ _ _ _ _ _ _); walk_at "al tg")
  | ((with_reducible show STO _ _ _ _ _ _ _); walk_at "al sto")
  | ((with_reducible show IX _ _ _ _ _ _); walk_at "al ix")
  | walk_at "al con" | walk_at "al ex" | walk_at "al bl")))
/-! ### plain lists -/
def dn (n : Nat) : D := .int (n : Int)
def xorN (l : List Nat) : Nat := l.foldl (fun a b => a ^^^ b) 0
theorem xorN_snoc (l : List Nat) (a : Nat) : xorN (l ++ [a]) = xorN l ^^^ a := by
  unfold xorN; rw [List.foldl_append]; rfl
theorem take_snoc {α : Type} {l : List α} {i : Nat} (h : i < l.length) : l.take (i + 1) = l.take i ++ [l[i]] := by
  rw [List.take_add_one, List.getElem?_eq_getElem h]; rfl
theorem xor_nat (a b : Nat) : Builtin.bitXor (a : Int) (b : Int) = ((a ^^^ b : Nat) : Int) := Bits.bitXor_pp (Int.natCast_nonneg _) (Int.natCast_nonneg _)
theorem getD_dn {l : List Nat} {i : Nat} (h : i < l.length) : (l.map dn).getD i .non = .int ((l.getD i 0 : Nat) : Int) := by
  rw [List.getD_eq_getElem?_getD, List.getElem?_map, List.getElem?_eq_getElem h, List.getD_eq_getElem?_getD, List.getElem?_eq_getElem h]; rfl
theorem at_dn {l : List Nat} {i : Nat} (h : i < l.length) : atI (l.map dn) (i : Int) = some (.int ((l.getD i 0 : Nat) : Int)) := by
  refine atI_nat ?_
  rw [List.getElem?_map, List.getElem?_eq_getElem h, List.getD_eq_getElem?_getD, List.getElem?_eq_getElem h]; rfl
/-! ### what a dict has for keys -/
def KeysAre (p : List (Key × D)) (L : List Nat) : Prop := ∀ n : Nat, hasD p (.inl (n : Int)) = decide (n ∈ L)
theorem keys_nil : KeysAre [] [] := fun n => by simp [hasD]
theorem keys_put {p : List (Key × D)} {L : List Nat} (h : KeysAre p L) (n : Nat) (d : D) : KeysAre (putD p (.inl (n : Int)) d) (L ++ [n]) := fun m => by
  rw [hasD_put, h m]
  by_cases h1 : m ∈ L
  · simp [h1]
  · by_cases h2 : n = m
    · simp [h2]
    · have h3 : ¬ ((n : Int) = (m : Int)) := fun z => h2 (Int.ofNat.inj z)
      have h4 : ¬ (m = n) := fun z => h2 z.symm
      simp [h1, h4]
      omega
def prN (n : Nat) : Key × D := (.inl (n : Int), .bl true)
theorem has_prN (l : List Nat) (m : Nat) : hasD (l.map prN) (.inl (m : Int)) = decide (m ∈ l) := by
  induction l with
  | nil => simp [hasD]
  | cons a l ih =>
    unfold hasD at ih ⊢
    rw [List.map_cons, List.any_cons, ih]
    by_cases h : a = m
    · subst h; simp [prN]
    · have h2 : ¬ m = a := fun z => h z.symm
      have h3 : ¬ ((a : Int) = (m : Int)) := fun z => h (Int.ofNat.inj z)
      simp [prN, h2]
      intro z; omega
theorem keys_merge {p : List (Key × D)} {L : List Nat} (h : KeysAre p L) (l : List Nat) : KeysAre (mergeD p (mergeD [] (l.map prN))) (L ++ l) := fun m => by
  rw [hasD_merge, hasD_merge, h m, has_prN]
  simp [hasD]
theorem len_merge2 (p : List (Key × D)) (l : List Nat) : (mergeD p (mergeD [] (l.map prN))).length ≤ p.length + l.length := by
  have h1 := len_mergeD (mergeD [] (l.map prN)) p
  have h2 := len_mergeD (l.map prN) []
  rw [List.length_map] at h2
  simp only [List.length_nil] at h2
  omega
/-! ### the least that is none of some -/
def mexFrom (l : List Nat) : Nat → Nat → Nat
  | 0, i => i
  | n + 1, i => if l.contains i then mexFrom l n (i + 1) else i
def mexL (l : List Nat) : Nat := mexFrom l (l.length + 1) 0
theorem mexFrom_below (l : List Nat) : ∀ (n i : Nat), (∀ j, j < i → j ∈ l) → ∀ j, j < mexFrom l n i → j ∈ l
  | 0, i, h, j, hj => h j hj
  | n + 1, i, h, j, hj => by
    unfold mexFrom at hj
    by_cases e : l.contains i = true
    · rw [if_pos e] at hj
      refine mexFrom_below l n (i + 1) (fun t ht => ?_) j hj
      rcases Nat.lt_or_ge t i with z | z
      · exact h t z
      · have : t = i := by omega
        subst this
        exact List.contains_iff_mem.mp e
    · rw [if_neg e] at hj
      exact h j hj
/-- so many numbers, all below, cannot all be among fewer -/
theorem pigeon : ∀ (n : Nat) (l : List Nat), (∀ j, j < n → j ∈ l) → n ≤ l.length
  | 0, _, _ => Nat.zero_le _
  | n + 1, l, h => by
    have hm : n ∈ l := h n (Nat.lt_succ_self n)
    have h2 : ∀ j, j < n → j ∈ l.erase n := fun j hj => (List.mem_erase_of_ne (by omega)).mpr (h j (by omega))
    have h3 := pigeon n (l.erase n) h2
    rw [List.length_erase_of_mem hm] at h3
    have h4 := List.length_pos_of_mem hm
    omega
theorem mexFrom_not (l : List Nat) : ∀ (n i : Nat), (∀ j, j < i → j ∈ l) → l.length < i + n → mexFrom l n i ∉ l
  | 0, i, h, hl => by
    have := pigeon i l h
    omega
  | n + 1, i, h, hl => by
    unfold mexFrom
    by_cases e : l.contains i = true
    · rw [if_pos e]
      refine mexFrom_not l n (i + 1) (fun t ht => ?_) (by omega)
      rcases Nat.lt_or_ge t i with z | z
      · exact h t z
      · have : t = i := by omega
        subst this
        exact List.contains_iff_mem.mp e
    · rw [if_neg e]
      intro hm
      exact e (List.contains_iff_mem.mpr hm)
theorem mex_not (l : List Nat) : mexL l ∉ l := mexFrom_not l _ 0 (fun _ h => absurd h (by omega)) (by omega)
theorem mex_below (l : List Nat) : ∀ j, j < mexL l → j ∈ l := mexFrom_below l _ 0 (fun _ h => absurd h (by omega))
theorem mex_unique {l : List Nat} {m : Nat} (h1 : m ∉ l) (h2 : ∀ j, j < m → j ∈ l) : m = mexL l := by
  rcases Nat.lt_trichotomy m (mexL l) with h | h | h
  · exact absurd (mex_below l m h) h1
  · exact h
  · exact absurd (h2 _ h) (mex_not l)
theorem mex_congr {l l' : List Nat} (h : ∀ n, n ∈ l ↔ n ∈ l') : mexL l = mexL l' :=
  mex_unique (fun z => mex_not l ((h _).mpr z)) fun j hj => (h j).mp (mex_below l j hj)
theorem keys_mex {p : List (Key × D)} {L : List Nat} (h : KeysAre p L) : hasD p (.inl ((mexL L : Nat) : Int)) = false ∧ ∀ i : Nat, i < mexL L → hasD p (.inl (i : Int)) = true :=
  ⟨by rw [h]; exact decide_eq_false (mex_not L), fun i hi => by rw [h]; exact decide_eq_true (mex_below L i hi)⟩
theorem op_xorN {ι : Type} {Xs : ι → Cx} {c : Cfg} {μ : List M} {k : AV → List M → Prop} {a b : Nat} (h : k (.im (.int ((a ^^^ b : Nat) : Int))) μ) : OP Xs c.K (binaryOp .BitXor) (.im (.int (a : Int))) (.im (.int (b : Int))) μ k := op_xorI (by rw [xor_nat]; exact h)
theorem mr_take {α : Type} (g : Nat → α) {n t : Nat} (h : t < n) : ((List.range n).map g).take (t + 1) = ((List.range n).map g).take t ++ [g t] := by
  rw [List.take_add_one]
  congr 1
  rw [List.getElem?_map, List.getElem?_range h]
  rfl
theorem range_map_getD {α : Type} (f : Nat → α) : ∀ l : List Nat, (List.range l.length).map (fun i => f (l.getD i 0)) = l.map f := fun l => by
  apply List.ext_getElem?
  intro i
  rw [List.getElem?_map, List.getElem?_map]
  by_cases h : i < l.length
  · rw [List.getElem?_range h, List.getElem?_eq_getElem h, Option.map_some, Option.map_some, List.getD_eq_getElem?_getD, List.getElem?_eq_getElem h]
    rfl
  · rw [List.getElem?_eq_none (by rw [List.length_range]; omega), List.getElem?_eq_none (by omega)]; rfl
theorem cut_to {ds : List D} (n : Nat) : AL.cutD ds none (some (n : Int)) = ds.take n := by
  unfold AL.cutD
  rw [HT.sIx_none, List.drop_zero, HT.sIx_nat]
  simp only [Nat.sub_zero]
  exact (List.take_eq_take_min).symm
theorem cut_from {ds : List D} (n : Nat) : AL.cutD ds (some (n : Int)) none = ds.drop n := by
  unfold AL.cutD
  rw [HT.sIx_none, HT.sIx_nat]
  rcases Nat.lt_or_ge n ds.length with h | h
  · rw [Nat.min_eq_left (by omega), List.take_of_length_le (by rw [List.length_drop]; omega)]
  · rw [Nat.min_eq_right h, List.drop_of_length_le (Nat.le_refl _), List.drop_of_length_le h, List.take_nil]
theorem filter_none {n : Nat} {T : Nat → Bool} {α : Type} (g : Nat → α) : (((List.range n).filter fun t => !T t).map g).isEmpty = (List.range n).all T := by
  rw [Bool.eq_iff_iff, List.isEmpty_iff, List.map_eq_nil_iff, List.filter_eq_nil_iff, List.all_eq_true]
  constructor
  · intro h t ht
    have := h t ht
    simpa using this
  · intro h t ht
    have := h t ht
    simpa using this
theorem head_some {n t : Nat} {T : Nat → Bool} (ht : t < n) (h1 : T t = true) (h2 : ∀ s, s < t → T s = false) : ((List.range n).filter T).head? = some t := by
  rw [List.head?_filter, List.find?_range_eq_some]
  exact ⟨h1, List.mem_range.mpr ht, fun j hj => by rw [h2 j hj]; rfl⟩
theorem head_none {n : Nat} {T : Nat → Bool} (h2 : ∀ s, s < n → T s = false) : ((List.range n).filter T).head? = none := by
  rw [List.head?_filter, List.find?_eq_none]
  intro x hx
  rw [h2 x (List.mem_range.mp hx)]; exact Bool.false_ne_true
/-! ### answers alike -/
def scD : D → Prop
  | .non | .int _ | .bl _ | .str _ => True
  | _ => False
def lk : Nat → D → Prop
  | 0, d => scD d
  | n + 1, d => scD d ∨ ∃ ds, d = .tup ds ∧ ds.length ≤ 100000 ∧ ∀ x ∈ ds, lk n x
theorem lk_sc {n : Nat} {d : D} (h : scD d) : lk n d := by
  cases n with
  | zero => exact h
  | succ n => exact .inl h
theorem lk_dns {n : Nat} {l : List Nat} (h : l.length ≤ 100000) : lk (n + 1) (.tup (l.map dn)) :=
  .inr ⟨_, rfl, by rw [List.length_map]; exact h, fun x hx => by obtain ⟨a, _, rfl⟩ := List.mem_map.mp hx; exact lk_sc True.intro⟩
local macro_rules | `(tactic| walk_at "al op") => `(tactic| with_reducible refine' op_xorN ?_)
def topS (i : Nat) : Stmt := PySem.Challenge.pw_sidesums_k20_whole_days_far_on.main.body.getD i (.Pass ⟨0, 0, 0, 0⟩)
/-! ### what the module has -/
structure BE (c : Cfg) : Prop where
  len : c.mg "len" = none
  isi : c.mg "isinstance" = none
  int : c.mg "int" = none
  bool : c.mg "bool" = none
  str : c.mg "str" = none
  tuple : c.mg "tuple" = none
  list : c.mg "list" = none
  dict : c.mg "dict" = none
  range : c.mg "range" = none
  enumerate : c.mg "enumerate" = none
  all : c.mg "all" = none
  max : c.mg "max" = none
  min : c.mg "min" = none
section
variable {c : Cfg} {f : Addr} {fd : FuncData} {μ : List M} {k : AV → List M → Prop}
/-! ### is_number, is_among, is_tuple_of -/
abbrev sIsNumber : Stmt := topS 6
theorem scIsNumber : FnScope ["thing"] ["thing"] (defScope sIsNumber) := ⟨rfl, rfl, rfl, by decide +kernel, rfl, by decide +kernel, by decide +kernel⟩
def cIsNumber : Ct := fun as μ post => μ = [] ∧ ∃ d : Int, as = [.im (.int d)] ∧ post (.im (.bl true)) []
theorem okIsNumber (hBE : BE c) (F : Fun c.K "is_number" "is_number" sIsNumber f fd) : FnOk c.P c.w c.K c.mg c.base CX0 1 f fd ["thing"] (spOf c.K cIsNumber 1) := by
  obtain ⟨b_len, b_isi, b_int, b_bool, b_str, b_tuple, b_list, b_dict, b_range, b_enumerate, b_all, b_max, b_min⟩ := hBE
  refine fn_abs F scIsNumber (fun as μ post h => by obtain ⟨rfl, d, rfl, _⟩ := h; rfl) ?_
  intro cdv A outer s H EX as μ post hF ck
  obtain ⟨rfl, d, rfl, hq⟩ := hF
  walk_at "al"
  walk_at "al ret"
  exact hq
theorem uIsNumber {d : Int} (h : k (.im (.bl true)) μ) : [AV.im (.int d)].length = 1 ∧ CL cIsNumber [.im (.int d)] μ k :=
  clI _ rfl (.cons rfl .nil) (fun post h => ⟨rfl, _, rfl, h⟩) h
local macro_rules | `(tactic| walk_at "al con") => `(tactic| with_reducible refine' uIsNumber ?_)
abbrev sIsAmong : Stmt := topS 7
theorem scIsAmong : FnScope ["thing", "least", "most"] ["thing", "least", "most"] (defScope sIsAmong) := ⟨rfl, rfl, rfl, by decide +kernel, rfl, by decide +kernel, by decide +kernel⟩
def cIsAmong : Ct := fun as μ post => μ = [] ∧ ∃ d l m : Int, as = [.im (.int d), .im (.int l), .im (.int m)] ∧ post (.im (.bl (decide (l ≤ d ∧ d ≤ m)))) []
theorem okIsAmong (hN : Callee c "is_number" 1 1 cIsNumber) (F : Fun c.K "is_among" "is_among" sIsAmong f fd) : FnOk c.P c.w c.K c.mg c.base CX0 2 f fd ["thing", "least", "most"] (spOf c.K cIsAmong 3) := by
  refine fn_abs F scIsAmong (fun as μ post h => by obtain ⟨rfl, d, l, m, rfl, _⟩ := h; rfl) ?_
  intro cdv A outer s H EX as μ post hF ck
  obtain ⟨rfl, d, l, m, rfl, hq⟩ := hF
  walk_at "al"
  refine if_dec (fun h1 => ?_) (fun h1 => ?_)
  · walk_at "al"
    walk_at "al ret"
    rw [show decide (d ≤ m) = decide (l ≤ d ∧ d ≤ m) by simp [h1]]
    exact hq
  · walk_at "al ret"
    rw [show false = decide (l ≤ d ∧ d ≤ m) by simp [h1]]
    exact hq
theorem uIsAmong {d l m : Int} (h : k (.im (.bl (decide (l ≤ d ∧ d ≤ m)))) μ) : [AV.im (.int d), AV.im (.int l), AV.im (.int m)].length = 3 ∧ CL cIsAmong [.im (.int d), .im (.int l), .im (.int m)] μ k :=
  clI _ rfl (.cons rfl (.cons rfl (.cons rfl .nil))) (fun post h => ⟨rfl, _, _, _, rfl, h⟩) h
abbrev sIsTupleOf : Stmt := topS 8
theorem scIsTupleOf : FnScope ["thing", "least", "most"] ["thing", "least", "most"] (defScope sIsTupleOf) := ⟨rfl, rfl, rfl, by decide +kernel, rfl, by decide +kernel, by decide +kernel⟩
def cIsTupleOf : Ct := fun as μ post => μ = [] ∧ ∃ (ds : List D) (l m : Int), as = [.im (.tup ds), .im (.int l), .im (.int m)] ∧ post (.im (.bl (decide (l ≤ ds.length ∧ (ds.length : Int) ≤ m)))) []
theorem okIsTupleOf (hBE : BE c) (F : Fun c.K "is_tuple_of" "is_tuple_of" sIsTupleOf f fd) : FnOk c.P c.w c.K c.mg c.base CX0 1 f fd ["thing", "least", "most"] (spOf c.K cIsTupleOf 3) := by
  obtain ⟨b_len, b_isi, b_int, b_bool, b_str, b_tuple, b_list, b_dict, b_range, b_enumerate, b_all, b_max, b_min⟩ := hBE
  refine fn_abs F scIsTupleOf (fun as μ post h => by obtain ⟨rfl, d, l, m, rfl, _⟩ := h; rfl) ?_
  intro cdv A outer s H EX as μ post hF ck
  obtain ⟨rfl, d, l, m, rfl, hq⟩ := hF
  walk_at "al"
  refine if_dec (fun h1 => ?_) (fun h1 => ?_)
  · walk_at "al"
    walk_at "al ret"
    rw [show decide ((d.length : Int) ≤ m) = decide (l ≤ (d.length : Int) ∧ (d.length : Int) ≤ m) by simp [h1]]
    exact hq
  · walk_at "al ret"
    rw [show false = decide (l ≤ (d.length : Int) ∧ (d.length : Int) ≤ m) by simp [h1]]
    exact hq
theorem uIsTupleOf {ds : List D} {l m : Int} (h : k (.im (.bl (decide (l ≤ ds.length ∧ (ds.length : Int) ≤ m)))) μ) : [AV.im (.tup ds), AV.im (.int l), AV.im (.int m)].length = 3 ∧ CL cIsTupleOf [.im (.tup ds), .im (.int l), .im (.int m)] μ k :=
  clI _ rfl (.cons rfl (.cons rfl (.cons rfl .nil))) (fun post h => ⟨rfl, _, _, _, rfl, h⟩) h
local macro_rules | `(tactic| walk_at "al con") => `(tactic| with_reducible refine' uIsAmong ?_)
local macro_rules | `(tactic| walk_at "al con") => `(tactic| with_reducible refine' uIsTupleOf ?_)
end
local macro_rules | `(tactic| walk_at "al op") => `(tactic| with_reducible refine' op_xorN ?_)
local macro_rules | `(tactic| walk_at "al con") => `(tactic| with_reducible refine' uIsNumber ?_)
local macro_rules | `(tactic| walk_at "al con") => `(tactic| with_reducible refine' uIsAmong ?_)
local macro_rules | `(tactic| walk_at "al con") => `(tactic| with_reducible refine' uIsTupleOf ?_)
section
variable {c : Cfg} {f : Addr} {fd : FuncData} {μ : List M} {k : AV → List M → Prop}
/-! ### the draws -/
abbrev sNext : Stmt := topS 44
theorem scNext : FnScope ["m", "many", "rest", "at", "cell", "blend"] ["m", "many"] (defScope sNext) := ⟨rfl, rfl, rfl, by decide +kernel, rfl, by decide +kernel, by decide +kernel⟩
def cNext : Ct := fun as μ post => ∃ n many : Nat, n ≤ 1000000 ∧ 0 < many ∧ many < 1073741824 ∧ μ = [.drw n] ∧ as = [.own 0, .im (.int (many : Nat))] ∧ ∀ r : Nat, r < many → post (.im (.int (r : Nat))) [.drw (n + 1)]
theorem okNext (hBE : BE c) (F : Fun c.K "_law_next" "_law_next" sNext f fd) : FnOk c.P c.w c.K c.mg c.base CX0 1 f fd ["m", "many"] (spOf c.K cNext 2) := by
  obtain ⟨b_len, b_isi, b_int, b_bool, b_str, b_tuple, b_list, b_dict, b_range, b_enumerate, b_all, b_max, b_min⟩ := hBE
  refine fn_drw F scNext (fun as μ post h => by obtain ⟨n, many, _, _, _, rfl, rfl, _⟩ := h; rfl) ?_
  intro cdv A outer s H EX as μ post hF ck
  obtain ⟨n, many, hn, hm0, hm1, rfl, rfl, hq⟩ := hF
  refine ⟨n, rfl, fun ca la cells left at_ hat => ?_⟩
  have post_mod : ∀ x : Int, post (.im (.int (x % (many : Int)))) [.drw (n + 1)] := fun x => by
    have h1 := Int.emod_nonneg x (show (many : Int) ≠ 0 by omega)
    have h2 := Int.emod_lt_of_pos x (show (0 : Int) < (many : Int) by omega)
    have := hq (x % (many : Int)).toNat (by omega)
    rw [Int.toNat_of_nonneg h1] at this
    exact this
  have hmi : (0 : Int) < (many : Int) := by omega
  cases left with
  | cons r0 rest =>
    have hx : atI ((r0 :: rest).map D.int) 0 = some (.int r0) := atI_nat (j := 0) rfl
    have hcd : CDiv r0 (many : Int) := ⟨by omega, by omega⟩
    walk_at "al"
    refine if_nf ?_
    walk_at "al"
    refine sto_lsA 2 rfl (t := 0) (ixN_nat (j := 0) (by simp)) ?_
    have hx2 : atI (((r0 :: rest).map D.int).set 0 (.int (r0 / (many : Int)))) 0 = some (.int (r0 / (many : Int))) := atI_nat (j := 0) rfl
    walk_at "al"
    refine if_dec (fun h0 => ?_) (fun h0 => ?_)
    · walk_at "al"
      refine sto_dKown (jo := 0) (ja := 4) ck (by decide) rfl rfl (Nat.le_of_ble_eq_true rfl) (fun ad => ?_)
      refine ss_nil ?_
      walk_at "al"
      obtain ⟨ms, hms⟩ := cut_ints ((r0 / (many : Int)) :: rest) (some 1) none
      refine ⟨_, ad, ms, at_, n + 1, 4, rfl, rfl, rfl, ?_, by decide, by omega, post_mod _⟩
      rw [← hms]; rfl
    · refine ss_nil ?_
      walk_at "al"
      exact ⟨_, la, (r0 / (many : Int)) :: rest, at_, n + 1, 2, rfl, rfl, rfl, rfl, by decide, by omega, post_mod _⟩
  | nil =>
    walk_at "al"
    refine if_nt ?_
    refine ss_nil ?_
    have hab : -(2 ^ 64) < (at_ : Int) ∧ (at_ : Int) < 2 ^ 64 := ⟨by omega, by omega⟩
    cases cells with
    | nil =>
      walk_at "al"
      refine if_nt ?_
      walk_at "al"
      exact ⟨_, la, [], at_ + 1, n + 1, 2, rfl, rfl, rfl, rfl, by decide, by omega, post_mod _⟩
    | cons c0 cr =>
      have hlen : (0 : Int) < (((c0 :: cr).map D.int).length : Nat) := by rw [List.length_map, List.length_cons]; omega
      have hln : 0 < (c0 :: cr).length := by simp
      have hx : ∃ cell : Int, atI ((c0 :: cr).map D.int) ((at_ : Int) % (((c0 :: cr).map D.int).length : Nat)) = some (.int cell) := by
        refine ⟨(c0 :: cr)[at_ % (c0 :: cr).length]'(Nat.mod_lt _ hln), ?_⟩
        rw [List.length_map, show (at_ : Int) % ((c0 :: cr).length : Nat) = ((at_ % (c0 :: cr).length : Nat) : Int) by omega]
        refine atI_nat ?_
        rw [List.getElem?_map, List.getElem?_eq_getElem (Nat.mod_lt _ hln)]
        rfl
      obtain ⟨cell, hx⟩ := hx
      walk_at "al"
      refine if_nf ?_
      walk_at "al"
      exact ⟨_, la, [], at_ + 1, n + 1, 2, rfl, rfl, rfl, rfl, by decide, by omega, post_mod _⟩
theorem uNext {n many : Nat} {x : Int} (j : Nat) (hn : n ≤ 1000000) (h0 : 0 < many) (h1 : many < 1073741824) (e : x = (many : Int)) (hj : μ[j]? = some (.drw n)) (h : ∀ r : Nat, r < many → k (.im (.int (r : Nat))) (μ.set j (.drw (n + 1)))) : [AV.own j, AV.im (.int x)].length = 2 ∧ CL cNext [.own j, .im (.int x)] μ k := by
  subst e
  exact clC j hj rfl (.cons asc_0 (.cons asc_im .nil)) (fun d m' => ∃ r : Nat, r < many ∧ d = .int (r : Nat) ∧ m' = .drw (n + 1)) (fun post hp => ⟨n, many, hn, h0, h1, rfl, rfl, fun r hr => hp _ _ ⟨r, hr, rfl, rfl⟩⟩) (fun d m' ⟨r, hr, e1, e2⟩ => by subst e1 e2; exact h r hr)
abbrev sBegun : Stmt := topS 43
theorem scBegun : FnScope ["script", "cell"] ["script"] (defScope sBegun) := ⟨rfl, rfl, rfl, by decide +kernel, rfl, by decide +kernel, by decide +kernel⟩
def cBegun : Ct := fun as μ post => μ = [] ∧ ∃ ns : List Int, ns.length ≤ 1000 ∧ as = [.im (.fl (ns.map D.int))] ∧ post (.own 0) [.drw 0]
theorem okBegun (hBE : BE c) (F : Fun c.K "_law_begun" "_law_begun" sBegun f fd) : FnOk c.P c.w c.K c.mg c.base CX0 1 f fd ["script"] (spOf c.K cBegun 1) := by
  obtain ⟨b_len, b_isi, b_int, b_bool, b_str, b_tuple, b_list, b_dict, b_range, b_enumerate, b_all, b_max, b_min⟩ := hBE
  refine fn_abs F scBegun (fun as μ post h => by obtain ⟨rfl, ns, _, rfl, _⟩ := h; rfl) ?_
  intro cdv A outer s H EX as μ post hF ck
  obtain ⟨rfl, ns, hl, rfl, hq⟩ := hF
  refine ss_cons ?_
  refine s1_retDrw ck ?_
  walk_at "al"
  refine se_lcP [("cell", 1)] [.dK [], .lst (ns.map D.int)] (fun t => decide ((10 ^ 18 : Int) ≤ ns.getD t 0)) (fun t => .int (ns.getD t 0)) ck (by walk_at "al at") (by decide) (fun _ => (show BlkOk ["script", "cell"] (defScope sBegun) _ [("cell", 1)] from ⟨rfl, by decide +kernel, by decide +kernel, by decide +kernel, by decide +kernel⟩)) (fun _ => Or.inl rfl) (fun _ => Or.inr rfl) ?_
  intro ckb
  refine si_fl ck ?_
  walk_at "al"
  refine lcm_if rfl (fun z hz => by simp at hz) (by rw [List.length_map]; omega) (fun i hi m => ?_) ?_
  · have hi' : i < ns.length := by simpa using hi
    have e : (ns.map D.int).getD i .non = .int (ns.getD i 0) := by
      rw [List.getD_eq_getElem?_getD, List.getElem?_map, List.getElem?_eq_getElem hi', List.getD_eq_getElem?_getD, List.getElem?_eq_getElem hi']; rfl
    try dsimp only
    rw [e]
    walk_at "al"
    refine op_powI ⟨by decide, by decide, by decide⟩ ?_
    walk_at "al"
    refine ⟨rfl, rfl, fun _ => ?_⟩
    walk_at "al"
    exact ⟨rfl, rfl⟩
  · refine ⟨1, 2, ns, ((List.range (ns.map D.int).length).filter fun t => decide ((10 ^ 18 : Int) ≤ ns.getD t 0)).map fun t => ns.getD t 0, rfl, rfl, rfl, rfl, rfl, ?_, by decide, by decide, by decide, rt_new (n := 0) (j := 0) rfl (Nat.le_refl _) rfl hq⟩
    rw [List.map_map]; rfl
end
section
variable {c : Cfg} {f : Addr} {fd : FuncData} {μ : List M} {k : AV → List M → Prop}
/-! ### _law_like -/
abbrev sLike : Stmt := topS 46
theorem scLike : FnScope ["got", "due", "k"] ["got", "due"] (defScope sLike) := ⟨rfl, rfl, rfl, by decide +kernel, rfl, by decide +kernel, by decide +kernel⟩
def cLike (n : Nat) : Ct := fun as μ post => μ = [] ∧ ∃ d, lk n d ∧ as = [.im d, .im d] ∧ post (.im (.bl true)) []
theorem like_sc (hBE : BE c) {cdv : Value} {A : Around} {outer : List Env} {s : Shared} {H : Hp} {EX : XK} {kf : Nat} {d : D} {post : AV → List M → Prop} (hd : scD d) (hq : post (.im (.bl true)) []) (ck : COk c kf ["got", "due", "k"] (bodyX c ["got", "due", "k"] "_law_like" sLike f cdv A outer s H EX)) :
    SS (bodyX c ["got", "due", "k"] "_law_like" sLike f cdv A outer s H EX) c.K (defBody sLike) (startA ["got", "due", "k"] [.im d, .im d]) [] (endsOf 0 post) := by
  obtain ⟨b_len, b_isi, b_int, b_bool, b_str, b_tuple, b_list, b_dict, b_range, b_enumerate, b_all, b_max, b_min⟩ := hBE
  cases d with
  | non =>
    walk_at "al"
    refine ss_nil ?_
    walk_at "al"
    exact rt_im rfl hq
  | int i =>
    walk_at "al"
    refine ss_nil ?_
    walk_at "al"
    refine ss_nil ?_
    walk_at "al"
    exact rt_im rfl hq
  | bl b =>
    walk_at "al"
    refine ss_nil ?_
    walk_at "al"
    refine ss_nil ?_
    walk_at "al"
    exact rt_im rfl hq
  | str x =>
    walk_at "al"
    refine ss_nil ?_
    walk_at "al"
    exact rt_im rfl hq
  | tup _ => exact hd.elim
  | fl _ => exact hd.elim
  | ty _ => exact hd.elim
  | adr _ => exact hd.elim
  | tk _ => exact hd.elim
theorem okLike (hBE : BE c) (F : Fun c.K "_law_like" "_law_like" sLike f fd) (hm : c.mg "_law_like" = some (.ref f)) (hk : PySem.W.keepIn c.K (.ref f) = true) (hb : Binds c.K fd ["got", "due"] []) : ∀ n : Nat, n ≤ 5 → FnOk c.P c.w c.K c.mg c.base CX0 (n + 1) f fd ["got", "due"] (spOf c.K (cLike n) 2)
  | 0, _ => by
    refine fn_abs F scLike (fun as μ post h => by obtain ⟨rfl, d, _, rfl, _⟩ := h; rfl) ?_
    intro cdv A outer s H EX as μ post hF ck
    obtain ⟨rfl, d, hd, rfl, hq⟩ := hF
    exact like_sc hBE hd hq ck
  | n + 1, hn => by
    have cl : Callee c "_law_like" (n + 1) 2 (cLike n) := ⟨f, fd, _, okLike hBE F hm hk hb n (by omega), hm, hk, hb⟩
    refine fn_abs F scLike (fun as μ post h => by obtain ⟨rfl, d, _, rfl, _⟩ := h; rfl) ?_
    intro cdv A outer s H EX as μ post hF ck
    obtain ⟨rfl, d, hd, rfl, hq⟩ := hF
    rcases hd with hd | ⟨ds, rfl, hl, hd⟩
    · exact like_sc hBE hd hq ck
    · obtain ⟨b_len, b_isi, b_int, b_bool, b_str, b_tuple, b_list, b_dict, b_range, b_enumerate, b_all, b_max, b_min⟩ := hBE
      walk_at "al"
      refine se_lcP [("k", 2)] [] (fun _ => true) (fun _ => .bl true) ck (by walk_at "al at") (by decide) (fun _ => (show BlkOk ["got", "due", "k"] (defScope sLike) _ [("k", 2)] from ⟨rfl, by decide +kernel, by decide +kernel, by decide +kernel, by decide +kernel⟩)) (fun _ => Or.inl rfl) (fun _ => Or.inr rfl) ?_
      intro ckb
      refine si_range1 ck b_range ?_
      walk_at "al"
      have er : ((ds.length : Nat) : Int).toNat = ds.length := Int.toNat_natCast _
      rw [er]
      refine ⟨by omega, by omega, lcm_all rfl (fun z hz => by simp at hz) (by omega) (fun i hi m => ?_) ?_⟩
      · have hx : atI ds (0 + (i : Nat) : Int) = some (ds[i]) := by
          rw [show (0 + (i : Nat) : Int) = ((i : Nat) : Int) by omega]
          exact atI_nat (List.getElem?_eq_getElem hi)
        refine se_call ckb cl (Nat.le_refl _) ?_
        walk_at "al"
        refine clI (.bl true) rfl (.cons rfl (.cons rfl .nil)) (fun post hp => ⟨rfl, ds[i], hd _ (List.getElem_mem hi), rfl, hp⟩) ⟨rfl, rfl⟩
      · walk_at "al"
        have e : (List.range ds.length).all (fun _ => true) = true := by simp
        rw [e]
        exact rt_im rfl hq
theorem uLike {n : Nat} {d1 d2 : D} (hl : lk n d2) (e : d1 = d2) (h : k (.im (.bl true)) μ) : [AV.im d1, AV.im d2].length = 2 ∧ CL (cLike n) [.im d1, .im d2] μ k := by
  subst e
  exact clI _ rfl (.cons rfl (.cons rfl .nil)) (fun post hp => ⟨rfl, d1, hl, rfl, hp⟩) h
end
/-! ### numbers as a top and the halvings of the bottom -/
def mk : Int → Nat → Int × Nat
  | t, 0 => (t, 0)
  | t, k + 1 => if t % 2 = 0 then mk (t / 2) k else (t, k + 1)
def dy (x : Int × Nat) : D := .tup [.int x.1, .int (2 ^ x.2)]
def Rd0 (x : Int × Nat) : Prop := x.2 = 0 ∨ x.1 % 2 = 1
theorem mk_even {t : Int} {k : Nat} (h : t % 2 = 0) : mk t (k + 1) = mk (t / 2) k := by unfold mk; rw [if_pos h]; cases k <;> rfl
theorem mk_odd {t : Int} {k : Nat} (h : ¬ t % 2 = 0) : mk t (k + 1) = (t, k + 1) := by unfold mk; rw [if_neg h]
theorem mk_rd : ∀ (t : Int) (k : Nat), Rd0 (mk t k)
  | t, 0 => .inl rfl
  | t, k + 1 => by
    unfold mk
    by_cases h : t % 2 = 0
    · rw [if_pos h]; exact mk_rd (t / 2) k
    · rw [if_neg h]; exact .inr (by show t % 2 = 1; omega)
theorem pow_pos2 (k : Nat) : (0 : Int) < 2 ^ k := Int.pow_pos (by decide)
theorem pow_succ2 (k : Nat) : (2 : Int) ^ (k + 1) = 2 * 2 ^ k := by rw [Int.pow_succ, Int.mul_comm]
theorem pow_half (k : Nat) : (2 : Int) ^ (k + 1) / 2 = 2 ^ k := by rw [pow_succ2, Int.mul_ediv_cancel_left _ (by decide)]
theorem pow_even (k : Nat) : (2 : Int) ^ (k + 1) % 2 = 0 := by rw [pow_succ2, Int.mul_emod_right]
theorem pow_gt1 (k : Nat) : (1 < (2 : Int) ^ k) ↔ 0 < k := by
  cases k with
  | zero => simp
  | succ k =>
    have := pow_pos2 k
    rw [pow_succ2]
    constructor
    · intro _; omega
    · intro _; omega
section
variable {c : Cfg} {f : Addr} {fd : FuncData} {μ : List M} {k : AV → List M → Prop}
abbrev sMade : Stmt := topS 16
theorem scMade : FnScope ["top", "bottom"] ["top", "bottom"] (defScope sMade) := ⟨rfl, rfl, rfl, by decide +kernel, rfl, by decide +kernel, by decide +kernel⟩
def cMade : Ct := fun as μ post => μ = [] ∧ ∃ (t : Int) (k : Nat), as = [.im (.int t), .im (.int (2 ^ k))] ∧ post (.im (dy (mk t k))) []
theorem okMade (F : Fun c.K "made_dyadic" "made_dyadic" sMade f fd) : FnOk c.P c.w c.K c.mg c.base CX0 1 f fd ["top", "bottom"] (spOf c.K cMade 2) := by
  refine fn_abs F scMade (fun as μ post h => by obtain ⟨rfl, t, k, rfl, _⟩ := h; rfl) ?_
  intro cdv A outer s H EX as μ post hF ck
  obtain ⟨rfl, t, k, rfl, hq⟩ := hF
  walk_at "al"
  refine s1_while (P := Int × Nat) (fun x => [some (.im (.int x.1)), some (.im (.int (2 ^ x.2)))]) (fun _ => []) (fun x => mk x.1 x.2 = mk t k) (fun x => x.2) ck ⟨(t, k), rfl, by walk_at "al fg", rfl⟩ (fun x hx => ?_)
  obtain ⟨t', k'⟩ := x
  have hx : mk t' k' = mk t k := hx
  walk_at "al"
  refine if_dec (fun h1 => ?_) (fun h1 => ?_)
  · rw [pow_gt1] at h1
    obtain ⟨k', rfl⟩ : ∃ q, k' = q + 1 := ⟨k' - 1, by omega⟩
    walk_at "al"
    refine if_dec (fun h2 => ?_) (fun h2 => ?_)
    · walk_at "al"
      rw [pow_half]
      refine ss_nil ⟨(t' / 2, k'), ⟨?_, Nat.lt_succ_self k'⟩, by walk_at "al fg", rfl⟩
      show mk (t' / 2) k' = mk t k
      rw [← hx, mk_even h2]
    · have e : mk t k = (t', k' + 1) := by rw [← hx, mk_odd h2]
      rw [e] at hq
      walk_at "al"
      exact rt_im rfl hq
  · rw [pow_gt1] at h1
    obtain rfl : k' = 0 := by omega
    have e : mk t k = (t', 0) := by rw [← hx]; rfl
    rw [e] at hq
    walk_at "al"
    exact rt_im rfl hq
end
section
variable {c : Cfg} {f : Addr} {fd : FuncData} {μ : List M} {k : AV → List M → Prop}
theorem uMade {t b : Int} (n : Nat) (e : b = 2 ^ n) (h : k (.im (dy (mk t n))) μ) : [AV.im (.int t), AV.im (.int b)].length = 2 ∧ CL cMade [.im (.int t), .im (.int b)] μ k := by
  subst e
  exact clI _ rfl (.cons rfl (.cons rfl .nil)) (fun post hp => ⟨rfl, t, n, rfl, hp⟩) h
abbrev sPow : Stmt := topS 13
theorem scPow : FnScope ["thing"] ["thing"] (defScope sPow) := ⟨rfl, rfl, rfl, by decide +kernel, rfl, by decide +kernel, by decide +kernel⟩
def cPow : Ct := fun as μ post => μ = [] ∧ ∃ n : Nat, as = [.im (.int (2 ^ n))] ∧ post (.im (.bl true)) []
theorem okPow (hN : Callee c "is_number" 1 1 cIsNumber) (F : Fun c.K "is_power_of_two" "is_power_of_two" sPow f fd) : FnOk c.P c.w c.K c.mg c.base CX0 2 f fd ["thing"] (spOf c.K cPow 1) := by
  refine fn_abs F scPow (fun as μ post h => by obtain ⟨rfl, n, rfl, _⟩ := h; rfl) ?_
  intro cdv A outer s H EX as μ post hF ck
  obtain ⟨rfl, n, rfl, hq⟩ := hF
  have hp := pow_pos2 n
  walk_at "al"
  refine if_dec (fun h1 => absurd h1 (by omega)) (fun _ => ?_)
  walk_at "al"
  refine ss_nil ?_
  refine ss_cons ?_
  refine s1_while (P := Nat) (fun x => [some (.im (.int (2 ^ x)))]) (fun _ => []) (fun _ => True) (fun x => x) ck ⟨n, trivial, by walk_at "al fg", rfl⟩ (fun x _ => ?_)
  walk_at "al"
  refine if_dec (fun h1 => ?_) (fun h1 => ?_)
  · cases x with
    | zero => exact absurd h1 (by decide)
    | succ x =>
      walk_at "al"
      rw [pow_half]
      exact ss_nil ⟨x, ⟨trivial, Nat.lt_succ_self x⟩, by walk_at "al fg", rfl⟩
  · cases x with
    | zero =>
      walk_at "al"
      exact rt_im rfl hq
    | succ x => exact absurd (pow_even x) h1
theorem uPow {b : Int} (n : Nat) (e : b = 2 ^ n) (h : k (.im (.bl true)) μ) : [AV.im (.int b)].length = 1 ∧ CL cPow [.im (.int b)] μ k := by
  subst e
  exact clI _ rfl (.cons rfl .nil) (fun post hp => ⟨rfl, n, rfl, hp⟩) h
structure DyOk (x : Int × Nat) : Prop where
  rd : Rd0 x
  lo : -1000000000000000000000000000000 ≤ x.1
  hi : x.1 ≤ 1000000000000000000000000000000
  k : x.2 ≤ 64
theorem pow_le64 {n : Nat} (h : n ≤ 64) : (2 : Int) ^ n ≤ 18446744073709551616 := by
  have : (2 : Int) ^ n ≤ 2 ^ 64 := by
    have := Nat.pow_le_pow_right (show 0 < 2 by decide) h
    exact_mod_cast this
  simpa using this
abbrev sNeedD : Stmt := topS 14
theorem scNeedD : FnScope ["dyadic"] ["dyadic"] (defScope sNeedD) := ⟨rfl, rfl, rfl, by decide +kernel, rfl, by decide +kernel, by decide +kernel⟩
def cNeedD : Ct := fun as μ post => μ = [] ∧ ∃ x, DyOk x ∧ as = [.im (dy x)] ∧ post (.im (dy x)) []
theorem okNeedD {t1 t2 : Tok} (g1 : c.mg "MOST_TOP" = some (.int 1000000000000000000000000000000 t1)) (g2 : c.mg "MOST_BOTTOM" = some (.int 18446744073709551616 t2)) (hA : Callee c "is_among" 2 3 cIsAmong) (hT : Callee c "is_tuple_of" 1 3 cIsTupleOf) (hP : Callee c "is_power_of_two" 2 1 cPow) (F : Fun c.K "need_dyadic" "need_dyadic" sNeedD f fd) : FnOk c.P c.w c.K c.mg c.base CX0 3 f fd ["dyadic"] (spOf c.K cNeedD 1) := by
  refine fn_abs F scNeedD (fun as μ post h => by obtain ⟨rfl, x, _, rfl, _⟩ := h; rfl) ?_
  intro cdv A outer s H EX as μ post hF ck
  obtain ⟨rfl, ⟨t, n⟩, ok, rfl, hq⟩ := hF
  obtain ⟨hrd, hlo, hhi, hn⟩ := ok
  have hlo : -1000000000000000000000000000000 ≤ t := hlo
  have hhi : t ≤ 1000000000000000000000000000000 := hhi
  have hn : n ≤ 64 := hn
  have hp := pow_pos2 n
  have hp64 := pow_le64 hn
  unfold dy at hq ⊢
  dsimp only at hq ⊢
  walk_at "al"
  refine if_ndec (fun h1 => absurd (show (2 : Int) ≤ 2 ∧ (2 : Int) ≤ 2 by omega) h1) (fun _ => ?_)
  refine ss_nil ?_
  walk_at "al"
  refine if_ndec (fun h1 => absurd (by omega) h1) (fun _ => ?_)
  refine ss_nil ?_
  walk_at "al"
  refine if_ndec (fun h1 => absurd (by omega) h1) (fun _ => ?_)
  walk_at "al"
  refine uPow n rfl ?_
  walk_at "al"
  refine ss_nil ?_
  walk_at "al"
  refine if_dec (fun h1 => ?_) (fun h1 => ?_)
  · walk_at "al"
    rw [pow_gt1] at h1
    refine if_dec (fun h2 => ?_) (fun _ => ?_)
    · rcases hrd with z | z
      · have z : n = 0 := z
        omega
      · have z : t % 2 = 1 := z
        omega
    · refine ss_nil ?_
      walk_at "al"
      exact rt_im rfl hq
  · walk_at "al"
    refine ss_nil ?_
    walk_at "al"
    exact rt_im rfl hq
theorem uNeedD {x : Int × Nat} (ok : DyOk x) (h : k (.im (dy x)) μ) : [AV.im (dy x)].length = 1 ∧ CL cNeedD [.im (dy x)] μ k :=
  clI _ rfl (.cons rfl .nil) (fun post hp => ⟨rfl, x, ok, rfl, hp⟩) h
end
/-! ### small numbers -/
def Sm (m : Nat) (x : Int) : Prop := Builtin.Int.intBits x ≤ m
theorem sm_mul {m n : Nat} {x y : Int} (hx : Sm m x) (hy : Sm n y) (h : m + n ≤ 134217728) : CMulX x y := by
  have h1 : Builtin.Int.intBits x ≤ m := hx
  have h2 : Builtin.Int.intBits y ≤ n := hy
  show (Builtin.Int.intBits x : Int) + (Builtin.Int.intBits y : Int) ≤ 134217728
  omega
theorem sm_of {m : Nat} {x : Int} (h1 : -(2 ^ m) < x) (h2 : x < 2 ^ m) : Sm m x := by
  refine PySem.intBits_le_iff.mpr ?_
  have e : ((2 ^ m : Nat) : Int) = (2 : Int) ^ m := by simp
  have : ((x.natAbs : Nat) : Int) < ((2 ^ m : Nat) : Int) := by rw [e]; omega
  exact Int.ofNat_lt.mp this
theorem sm_pow {k m : Nat} (h : k < m) : Sm m (2 ^ k) := by
  refine sm_of ?_ ?_
  · have := pow_pos2 m
    have := pow_pos2 k
    omega
  · have := Nat.pow_lt_pow_right (show 1 < 2 by decide) h
    exact_mod_cast this
theorem sm_mono {m n : Nat} {x : Int} (h : m ≤ n) (hx : Sm m x) : Sm n x := Nat.le_trans hx h
local macro_rules | `(tactic| walk_at "al op") => `(tactic| ((with_reducible refine' op_mulXI ?hc ?_); (case hc => assumption)))
/-! ### sums, halves, signs -/
/-- the sum by the product of the bottoms -/
def plus (x y : Int × Nat) : Int × Nat := mk (x.1 * 2 ^ y.2 + y.1 * 2 ^ x.2) (x.2 + y.2)
def half (x : Int × Nat) : Int × Nat := mk x.1 (x.2 + 1)
def ltD (x y : Int × Nat) : Prop := x.1 * 2 ^ y.2 < y.1 * 2 ^ x.2
instance (x y : Int × Nat) : Decidable (ltD x y) := inferInstanceAs (Decidable (_ < _))
/-- far below what the machine's products can bear -/
def DyS (x : Int × Nat) : Prop := Sm 60000000 x.1 ∧ x.2 < 60000000
section
variable {c : Cfg} {f : Addr} {fd : FuncData} {μ : List M} {k : AV → List M → Prop}
abbrev sPlus : Stmt := topS 17
theorem scPlus : FnScope ["one", "other"] ["one", "other"] (defScope sPlus) := ⟨rfl, rfl, rfl, by decide +kernel, rfl, by decide +kernel, by decide +kernel⟩
def cPlus : Ct := fun as μ post => μ = [] ∧ ∃ x y, DyS x ∧ DyS y ∧ as = [.im (dy x), .im (dy y)] ∧ post (.im (dy (plus x y))) []
theorem okPlus (hM : Callee c "made_dyadic" 1 2 cMade) (F : Fun c.K "plus_dyadic" "plus_dyadic" sPlus f fd) : FnOk c.P c.w c.K c.mg c.base CX0 2 f fd ["one", "other"] (spOf c.K cPlus 2) := by
  refine fn_abs F scPlus (fun as μ post h => by obtain ⟨rfl, x, y, _, _, rfl, _⟩ := h; rfl) ?_
  intro cdv A outer s H EX as μ post hF ck
  obtain ⟨rfl, ⟨t, m⟩, ⟨u, n⟩, hx, hy, rfl, hq⟩ := hF
  obtain ⟨h1, h2⟩ := hx
  obtain ⟨h3, h4⟩ := hy
  have hc1 : CMulX t (2 ^ n) := sm_mul h1 (sm_pow h4) (by decide)
  have hc2 : CMulX u (2 ^ m) := sm_mul h3 (sm_pow h2) (by decide)
  have hc3 : CMulX ((2 : Int) ^ m) (2 ^ n) := sm_mul (sm_pow h2) (sm_pow h4) (by decide)
  show SS _ _ _ (startA _ [.im (.tup [.int t, .int (2 ^ m)]), .im (.tup [.int u, .int (2 ^ n)])]) _ _
  walk_at "al"
  refine uMade (m + n) (Int.pow_add 2 m n).symm ?_
  exact rt_im rfl hq
theorem uPlus {x y : Int × Nat} (hx : DyS x) (hy : DyS y) (h : k (.im (dy (plus x y))) μ) : [AV.im (dy x), AV.im (dy y)].length = 2 ∧ CL cPlus [.im (dy x), .im (dy y)] μ k :=
  clI _ rfl (.cons rfl (.cons rfl .nil)) (fun post hp => ⟨rfl, x, y, hx, hy, rfl, hp⟩) h
abbrev sTurned : Stmt := topS 18
theorem scTurned : FnScope ["dyadic"] ["dyadic"] (defScope sTurned) := ⟨rfl, rfl, rfl, by decide +kernel, rfl, by decide +kernel, by decide +kernel⟩
def cTurned : Ct := fun as μ post => μ = [] ∧ ∃ x : Int × Nat, as = [.im (dy x)] ∧ post (.im (dy (-x.1, x.2))) []
theorem okTurned (F : Fun c.K "turned_dyadic" "turned_dyadic" sTurned f fd) : FnOk c.P c.w c.K c.mg c.base CX0 1 f fd ["dyadic"] (spOf c.K cTurned 1) := by
  refine fn_abs F scTurned (fun as μ post h => by obtain ⟨rfl, x, rfl, _⟩ := h; rfl) ?_
  intro cdv A outer s H EX as μ post hF ck
  obtain ⟨rfl, ⟨t, m⟩, rfl, hq⟩ := hF
  show SS _ _ _ (startA _ [.im (.tup [.int t, .int (2 ^ m)])]) _ _
  walk_at "al"
  exact rt_im rfl hq
theorem uTurned {x : Int × Nat} (h : k (.im (dy (-x.1, x.2))) μ) : [AV.im (dy x)].length = 1 ∧ CL cTurned [.im (dy x)] μ k :=
  clI _ rfl (.cons rfl .nil) (fun post hp => ⟨rfl, x, rfl, hp⟩) h
abbrev sHalf : Stmt := topS 19
theorem scHalf : FnScope ["dyadic"] ["dyadic"] (defScope sHalf) := ⟨rfl, rfl, rfl, by decide +kernel, rfl, by decide +kernel, by decide +kernel⟩
def cHalf : Ct := fun as μ post => μ = [] ∧ ∃ x : Int × Nat, DyS x ∧ as = [.im (dy x)] ∧ post (.im (dy (half x))) []
theorem okHalf (hM : Callee c "made_dyadic" 1 2 cMade) (F : Fun c.K "half_dyadic" "half_dyadic" sHalf f fd) : FnOk c.P c.w c.K c.mg c.base CX0 2 f fd ["dyadic"] (spOf c.K cHalf 1) := by
  refine fn_abs F scHalf (fun as μ post h => by obtain ⟨rfl, x, _, rfl, _⟩ := h; rfl) ?_
  intro cdv A outer s H EX as μ post hF ck
  obtain ⟨rfl, ⟨t, m⟩, hx, rfl, hq⟩ := hF
  show SS _ _ _ (startA _ [.im (.tup [.int t, .int (2 ^ m)])]) _ _
  walk_at "al"
  refine uMade (m + 1) (Int.pow_succ 2 m).symm ?_
  exact rt_im rfl hq
theorem uHalf {x : Int × Nat} (hx : DyS x) (h : k (.im (dy (half x))) μ) : [AV.im (dy x)].length = 1 ∧ CL cHalf [.im (dy x)] μ k :=
  clI _ rfl (.cons rfl .nil) (fun post hp => ⟨rfl, x, hx, rfl, hp⟩) h
abbrev sLess : Stmt := topS 20
theorem scLess : FnScope ["one", "other"] ["one", "other"] (defScope sLess) := ⟨rfl, rfl, rfl, by decide +kernel, rfl, by decide +kernel, by decide +kernel⟩
def cLess : Ct := fun as μ post => μ = [] ∧ ∃ x y, DyS x ∧ DyS y ∧ as = [.im (dy x), .im (dy y)] ∧ post (.im (.bl (decide (ltD x y)))) []
theorem okLess (F : Fun c.K "is_less_dyadic" "is_less_dyadic" sLess f fd) : FnOk c.P c.w c.K c.mg c.base CX0 1 f fd ["one", "other"] (spOf c.K cLess 2) := by
  refine fn_abs F scLess (fun as μ post h => by obtain ⟨rfl, x, y, _, _, rfl, _⟩ := h; rfl) ?_
  intro cdv A outer s H EX as μ post hF ck
  obtain ⟨rfl, ⟨t, m⟩, ⟨u, n⟩, hx, hy, rfl, hq⟩ := hF
  obtain ⟨h1, h2⟩ := hx
  obtain ⟨h3, h4⟩ := hy
  have hc1 : CMulX t (2 ^ n) := sm_mul h1 (sm_pow h4) (by decide)
  have hc2 : CMulX u (2 ^ m) := sm_mul h3 (sm_pow h2) (by decide)
  show SS _ _ _ (startA _ [.im (.tup [.int t, .int (2 ^ m)]), .im (.tup [.int u, .int (2 ^ n)])]) _ _
  walk_at "al"
  exact rt_im rfl hq
theorem uLess {x y : Int × Nat} (hx : DyS x) (hy : DyS y) (h : k (.im (.bl (decide (ltD x y)))) μ) : [AV.im (dy x), AV.im (dy y)].length = 2 ∧ CL cLess [.im (dy x), .im (dy y)] μ k :=
  clI _ rfl (.cons rfl (.cons rfl .nil)) (fun post hp => ⟨rfl, x, y, hx, hy, rfl, hp⟩) h
end
local macro_rules | `(tactic| walk_at "al op") => `(tactic| ((with_reducible refine' op_mulXI ?hc ?_); (case hc => assumption)))
local macro_rules | `(tactic| walk_at "al op") => `(tactic| ((with_reducible refine' op_divWI ?hc ?_); (case hc => assumption)))
def absI (i : Int) : Int := if i < 0 then -i else i
def maxI (i j : Int) : Int := if j > i then j else i
/-- the whole part -/
def whole (x : Int × Nat) : Int := x.1 / 2 ^ x.2
def dayI (x : Int × Nat) : Int := if x.2 = 0 then absI x.1 else maxI (absI (whole x)) (absI (whole x + 1)) + x.2
theorem DyOk.small {x : Int × Nat} (h : DyOk x) : DyS x :=
  ⟨sm_mono (m := 100) (by decide) (sm_of (by have := h.lo; omega) (by have := h.hi; omega)), by have := h.k; omega⟩
theorem cdw {t : Int} {n : Nat} (h : n < 9000) : CDivW t (2 ^ n) := by
  refine ⟨pow_pos2 n, ?_⟩
  rw [show ((2 : Int) ^ n).natAbs = 2 ^ n by rw [Int.natAbs_pow]; rfl, Nat.log2_two_pow]
  exact h
section
variable {c : Cfg} {f : Addr} {fd : FuncData} {μ : List M} {k : AV → List M → Prop}
abbrev sTwo : Stmt := topS 15
theorem scTwo : FnScope ["one", "other"] ["one", "other"] (defScope sTwo) := ⟨rfl, rfl, rfl, by decide +kernel, rfl, by decide +kernel, by decide +kernel⟩
def cTwo : Ct := fun as μ post => μ = [] ∧ ∃ x y, DyOk x ∧ DyOk y ∧ as = [.im (dy x), .im (dy y)] ∧ post (.im .non) []
theorem okTwo (hN : Callee c "need_dyadic" 3 1 cNeedD) (F : Fun c.K "need_two_dyadics" "need_two_dyadics" sTwo f fd) : FnOk c.P c.w c.K c.mg c.base CX0 4 f fd ["one", "other"] (spOf c.K cTwo 2) := by
  refine fn_abs F scTwo (fun as μ post h => by obtain ⟨rfl, x, y, _, _, rfl, _⟩ := h; rfl) ?_
  intro cdv A outer s H EX as μ post hF ck
  obtain ⟨rfl, x, y, hx, hy, rfl, hq⟩ := hF
  walk_at "al"
  refine uNeedD hx ?_
  walk_at "al"
  refine uNeedD hy ?_
  exact ss_nil (nx_non rfl hq)
theorem uTwo {x y : Int × Nat} (hx : DyOk x) (hy : DyOk y) (h : k (.im .non) μ) : [AV.im (dy x), AV.im (dy y)].length = 2 ∧ CL cTwo [.im (dy x), .im (dy y)] μ k :=
  clI _ rfl (.cons rfl (.cons rfl .nil)) (fun post hp => ⟨rfl, x, y, hx, hy, rfl, hp⟩) h
abbrev sDSum : Stmt := topS 22
theorem scDSum : FnScope ["one", "other"] ["one", "other"] (defScope sDSum) := ⟨rfl, rfl, rfl, by decide +kernel, rfl, by decide +kernel, by decide +kernel⟩
def cDSum : Ct := fun as μ post => μ = [] ∧ ∃ x y, DyOk x ∧ DyOk y ∧ as = [.im (dy x), .im (dy y)] ∧ post (.im (dy (plus x y))) []
theorem okDSum (hT : Callee c "need_two_dyadics" 4 2 cTwo) (hP : Callee c "plus_dyadic" 2 2 cPlus) (F : Fun c.K "dyadic_sum" "dyadic_sum" sDSum f fd) : FnOk c.P c.w c.K c.mg c.base CX0 5 f fd ["one", "other"] (spOf c.K cDSum 2) := by
  refine fn_abs F scDSum (fun as μ post h => by obtain ⟨rfl, x, y, _, _, rfl, _⟩ := h; rfl) ?_
  intro cdv A outer s H EX as μ post hF ck
  obtain ⟨rfl, x, y, hx, hy, rfl, hq⟩ := hF
  walk_at "al"
  refine uTwo hx hy ?_
  walk_at "al"
  refine uPlus hx.small hy.small ?_
  exact rt_im rfl hq
theorem uDSum {x y : Int × Nat} (hx : DyOk x) (hy : DyOk y) (h : k (.im (dy (plus x y))) μ) : [AV.im (dy x), AV.im (dy y)].length = 2 ∧ CL cDSum [.im (dy x), .im (dy y)] μ k :=
  clI _ rfl (.cons rfl (.cons rfl .nil)) (fun post hp => ⟨rfl, x, y, hx, hy, rfl, hp⟩) h
abbrev sDHalf : Stmt := topS 23
theorem scDHalf : FnScope ["dyadic"] ["dyadic"] (defScope sDHalf) := ⟨rfl, rfl, rfl, by decide +kernel, rfl, by decide +kernel, by decide +kernel⟩
def cDHalf : Ct := fun as μ post => μ = [] ∧ ∃ x, DyOk x ∧ as = [.im (dy x)] ∧ post (.im (dy (half x))) []
theorem okDHalf (hN : Callee c "need_dyadic" 3 1 cNeedD) (hH : Callee c "half_dyadic" 2 1 cHalf) (F : Fun c.K "dyadic_half" "dyadic_half" sDHalf f fd) : FnOk c.P c.w c.K c.mg c.base CX0 4 f fd ["dyadic"] (spOf c.K cDHalf 1) := by
  refine fn_abs F scDHalf (fun as μ post h => by obtain ⟨rfl, x, _, rfl, _⟩ := h; rfl) ?_
  intro cdv A outer s H EX as μ post hF ck
  obtain ⟨rfl, x, hx, rfl, hq⟩ := hF
  walk_at "al"
  refine uNeedD hx ?_
  walk_at "al"
  refine uHalf hx.small ?_
  exact rt_im rfl hq
theorem uDHalf {x : Int × Nat} (hx : DyOk x) (h : k (.im (dy (half x))) μ) : [AV.im (dy x)].length = 1 ∧ CL cDHalf [.im (dy x)] μ k :=
  clI _ rfl (.cons rfl .nil) (fun post hp => ⟨rfl, x, hx, rfl, hp⟩) h
abbrev sHalvings : Stmt := topS 28
theorem scHalvings : FnScope ["bottom", "many"] ["bottom"] (defScope sHalvings) := ⟨rfl, rfl, rfl, by decide +kernel, rfl, by decide +kernel, by decide +kernel⟩
def cHalvings : Ct := fun as μ post => μ = [] ∧ ∃ n : Nat, as = [.im (.int (2 ^ n))] ∧ post (.im (.int (n : Nat))) []
theorem okHalvings (F : Fun c.K "halvings_of" "halvings_of" sHalvings f fd) : FnOk c.P c.w c.K c.mg c.base CX0 1 f fd ["bottom"] (spOf c.K cHalvings 1) := by
  refine fn_abs F scHalvings (fun as μ post h => by obtain ⟨rfl, n, rfl, _⟩ := h; rfl) ?_
  intro cdv A outer s H EX as μ post hF ck
  obtain ⟨rfl, n, rfl, hq⟩ := hF
  walk_at "al"
  refine s1_while (P := Nat) (fun x => [some (.im (.int (2 ^ (n - x)))), some (.im (.int (x : Nat)))]) (fun _ => []) (fun x => x ≤ n) (fun x => n - x) ck ⟨0, Nat.zero_le _, by walk_at "al fg", rfl⟩ (fun x hx => ?_)
  walk_at "al"
  refine if_dec (fun h1 => ?_) (fun h1 => ?_)
  · rw [pow_gt1] at h1
    obtain ⟨j, hj⟩ : ∃ j, n - x = j + 1 := ⟨n - x - 1, by omega⟩
    rw [hj]
    walk_at "al"
    rw [pow_half]
    refine ss_nil ⟨x + 1, ⟨by omega, by omega⟩, ?_, rfl⟩
    show Paired _ _ [some (AV.im (.int (2 ^ (n - (x + 1))))), some (AV.im (.int ((x + 1 : Nat) : Int)))]
    rw [show n - (x + 1) = j by omega]
    walk_at "al fg"
  · rw [pow_gt1] at h1
    obtain rfl : x = n := by omega
    walk_at "al"
    exact rt_im rfl hq
theorem uHalvings {b : Int} (n : Nat) (e : b = 2 ^ n) (h : k (.im (.int (n : Nat))) μ) : [AV.im (.int b)].length = 1 ∧ CL cHalvings [.im (.int b)] μ k := by
  subst e
  exact clI _ rfl (.cons rfl .nil) (fun post hp => ⟨rfl, n, rfl, hp⟩) h
end
local macro_rules | `(tactic| walk_at "al op") => `(tactic| ((with_reducible refine' op_divWI ?hc ?_); (case hc => assumption)))
theorem pow_is1 (k : Nat) : ((2 : Int) ^ k = 1) ↔ k = 0 := by
  have h1 := pow_gt1 k
  have h2 := pow_pos2 k
  constructor
  · intro h
    rcases Nat.eq_zero_or_pos k with z | z
    · exact z
    · have := h1.mpr z
      omega
  · intro h
    subst h
    rfl
section
variable {c : Cfg} {f : Addr} {fd : FuncData} {μ : List M} {k : AV → List M → Prop}
abbrev sDayBy : Stmt := topS 29
theorem scDayBy : FnScope ["dyadic", "top", "bottom", "below"] ["dyadic"] (defScope sDayBy) := ⟨rfl, rfl, rfl, by decide +kernel, rfl, by decide +kernel, by decide +kernel⟩
def cDayBy : Ct := fun as μ post => μ = [] ∧ ∃ x : Int × Nat, x.2 < 9000 ∧ as = [.im (dy x)] ∧ post (.im (.int (dayI x))) []
theorem okDayBy (hBE : BE c) (b_abs : c.mg "abs" = none) (hH : Callee c "halvings_of" 1 1 cHalvings) (F : Fun c.K "day_by" "day_by" sDayBy f fd) : FnOk c.P c.w c.K c.mg c.base CX0 2 f fd ["dyadic"] (spOf c.K cDayBy 1) := by
  obtain ⟨b_len, b_isi, b_int, b_bool, b_str, b_tuple, b_list, b_dict, b_range, b_enumerate, b_all, b_max, b_min⟩ := hBE
  refine fn_abs F scDayBy (fun as μ post h => by obtain ⟨rfl, x, _, rfl, _⟩ := h; rfl) ?_
  intro cdv A outer s H EX as μ post hF ck
  obtain ⟨rfl, ⟨t, m⟩, hm, rfl, hq⟩ := hF
  have hm : m < 9000 := hm
  have hc1 : CDivW t (2 ^ m) := cdw hm
  show SS _ _ _ (startA _ [.im (.tup [.int t, .int (2 ^ m)])]) _ _
  walk_at "al"
  refine if_dec (fun h1 => ?_) (fun h1 => ?_) <;> rw [pow_is1] at h1
  · subst h1
    have hq : post (.im (.int (absI t))) [] := hq
    walk_at "al"
    exact rt_im rfl hq
  · have e : dayI (t, m) = maxI (absI (t / 2 ^ m)) (absI (t / 2 ^ m + 1)) + m := by
      unfold dayI whole
      rw [if_neg h1]
    rw [e] at hq
    refine ss_nil ?_
    walk_at "al"
    refine uHalvings m rfl ?_
    walk_at "al"
    exact rt_im rfl hq
theorem uDayBy {x : Int × Nat} (hm : x.2 < 9000) (h : k (.im (.int (dayI x))) μ) : [AV.im (dy x)].length = 1 ∧ CL cDayBy [.im (dy x)] μ k :=
  clI _ rfl (.cons rfl .nil) (fun post hp => ⟨rfl, x, hm, rfl, hp⟩) h
abbrev sDayOf : Stmt := topS 30
theorem scDayOf : FnScope ["dyadic"] ["dyadic"] (defScope sDayOf) := ⟨rfl, rfl, rfl, by decide +kernel, rfl, by decide +kernel, by decide +kernel⟩
def cDayOf : Ct := fun as μ post => μ = [] ∧ ∃ x : Int × Nat, DyOk x ∧ as = [.im (dy x)] ∧ post (.im (.int (dayI x))) []
theorem okDayOf (hN : Callee c "need_dyadic" 3 1 cNeedD) (hD : Callee c "day_by" 2 1 cDayBy) (F : Fun c.K "day_of" "day_of" sDayOf f fd) : FnOk c.P c.w c.K c.mg c.base CX0 4 f fd ["dyadic"] (spOf c.K cDayOf 1) := by
  refine fn_abs F scDayOf (fun as μ post h => by obtain ⟨rfl, x, _, rfl, _⟩ := h; rfl) ?_
  intro cdv A outer s H EX as μ post hF ck
  obtain ⟨rfl, x, hx, rfl, hq⟩ := hF
  walk_at "al"
  refine uNeedD hx ?_
  walk_at "al"
  refine uDayBy (by have := hx.k; omega) ?_
  exact rt_im rfl hq
theorem uDayOf {x : Int × Nat} (hx : DyOk x) (h : k (.im (.int (dayI x))) μ) : [AV.im (dy x)].length = 1 ∧ CL cDayOf [.im (dy x)] μ k :=
  clI _ rfl (.cons rfl .nil) (fun post hp => ⟨rfl, x, hx, rfl, hp⟩) h
end
def optD : Option (Int × Nat) → D
  | none => .non
  | some x => dy x
/-- the next number above of so many days -/
def ab (x : Int × Nat) (d : Nat) : Option (Int × Nat) :=
  if ltD x ((d : Int), 0) then
    (if ltD x (-(d : Int), 0) then some (-(d : Int), 0)
     else let e := ((d : Int) - maxI (absI (whole x)) (absI (whole x + 1))).toNat
          some (mk (x.1 * 2 ^ e / 2 ^ x.2 + 1) e))
  else none
theorem sm_int {m : Nat} {i : Int} {n : Nat} (h1 : -(n : Int) ≤ i) (h2 : i ≤ (n : Int)) (h : n < 2 ^ m) : Sm m i := by
  have e : ((2 ^ m : Nat) : Int) = (2 : Int) ^ m := by simp
  have := Int.ofNat_lt.mpr h
  exact sm_of (by omega) (by omega)
section
variable {c : Cfg} {f : Addr} {fd : FuncData} {μ : List M} {k : AV → List M → Prop}
abbrev sNextAbove : Stmt := topS 39
theorem scNextAbove : FnScope ["dyadic", "days", "below", "bottom", "turn"] ["dyadic", "days"] (defScope sNextAbove) := ⟨rfl, rfl, rfl, by decide +kernel, rfl, by decide +kernel, by decide +kernel⟩
def cNextAbove : Ct := fun as μ post => μ = [] ∧ ∃ (x : Int × Nat) (d : Nat), Sm 1000 x.1 ∧ x.2 < 1000 ∧ d ≤ 1000 ∧ as = [.im (dy x), .im (.int (d : Nat))] ∧ post (.im (optD (ab x d))) []
theorem okNextAbove (hBE : BE c) (b_abs : c.mg "abs" = none) (hL : Callee c "is_less_dyadic" 1 2 cLess) (hM : Callee c "made_dyadic" 1 2 cMade) (F : Fun c.K "next_above" "next_above" sNextAbove f fd) : FnOk c.P c.w c.K c.mg c.base CX0 2 f fd ["dyadic", "days"] (spOf c.K cNextAbove 2) := by
  obtain ⟨b_len, b_isi, b_int, b_bool, b_str, b_tuple, b_list, b_dict, b_range, b_enumerate, b_all, b_max, b_min⟩ := hBE
  refine fn_abs F scNextAbove (fun as μ post h => by obtain ⟨rfl, x, d, _, _, _, rfl, _⟩ := h; rfl) ?_
  intro cdv A outer s H EX as μ post hF ck
  obtain ⟨rfl, ⟨t, m⟩, d, hs, hm, hd, rfl, hq⟩ := hF
  have hm : m < 1000 := hm
  have hxs : DyS (t, m) := ⟨sm_mono (by decide) hs, by show m < 60000000; omega⟩
  have hds : DyS ((d : Int), 0) := ⟨sm_mono (m := 20) (by decide) (sm_int (n := 1000) (by show -((1000 : Nat) : Int) ≤ (d : Int); omega) (by show (d : Int) ≤ ((1000 : Nat) : Int); omega) (by decide)), by show 0 < 60000000; decide⟩
  have hdn : DyS (-(d : Int), 0) := ⟨sm_mono (m := 20) (by decide) (sm_int (n := 1000) (by show -((1000 : Nat) : Int) ≤ -(d : Int); omega) (by show -(d : Int) ≤ ((1000 : Nat) : Int); omega) (by decide)), by show 0 < 60000000; decide⟩
  have hc1 : CDivW t (2 ^ m) := cdw (by omega)
  show SS _ _ _ (startA _ [.im (.tup [.int t, .int (2 ^ m)]), .im (.int (d : Nat))]) _ _
  walk_at "al"
  refine uLess (x := (t, m)) (y := ((d : Int), 0)) hxs hds ?_
  walk_at "al"
  unfold ab at hq
  refine if_ndec (fun h1 => ?_) (fun h1 => ?_)
  · rw [if_neg h1] at hq
    walk_at "al"
    exact rt_im rfl hq
  rw [if_pos h1] at hq
  refine ss_nil ?_
  walk_at "al"
  refine uLess (x := (t, m)) (y := (-(d : Int), 0)) hxs hdn ?_
  walk_at "al"
  refine if_dec (fun h2 => ?_) (fun h2 => ?_)
  · rw [if_pos h2] at hq
    walk_at "al"
    exact rt_im rfl hq
  rw [if_neg h2] at hq
  refine ss_nil ?_
  walk_at "al"
  have hp := pow_pos2 m
  have hw1 : t / 2 ^ m < d := by
    have h1 : t * 2 ^ 0 < (d : Int) * 2 ^ m := h1
    rw [Int.pow_zero, Int.mul_one] at h1
    exact Int.ediv_lt_of_lt_mul hp h1
  have hw2 : -(d : Int) ≤ t / 2 ^ m := by
    have h2 : ¬ t * 2 ^ 0 < -(d : Int) * 2 ^ m := h2
    rw [Int.pow_zero, Int.mul_one] at h2
    exact (Int.le_ediv_iff_mul_le hp).mpr (by omega)
  show S1 _ _ _ _ _ _
  generalize hwv : t / 2 ^ m = w at hw1 hw2 hq ⊢
  refine s1_for (P := Unit) (fun i _ => [some (.im (.tup [.int t, .int (2 ^ m)])), some (.im (.int (d : Nat))), some (.im (.int w)), some (.im (.int (2 ^ i))), none]) (fun _ _ => []) (fun _ _ => True) ck ?_
  refine si_range1 ck b_range ?_
  walk_at "al"
  have hM : ∃ e : Nat, ((d : Int) - maxI (absI w) (absI (w + 1))) = (e : Int) ∧ e ≤ 1000 := by
    refine ⟨((d : Int) - maxI (absI w) (absI (w + 1))).toNat, ?_, ?_⟩ <;> (unfold maxI absI; split <;> split <;> omega)
  obtain ⟨e, he, he2⟩ := hM
  have he0 : (d : Int) - (if (if w + 1 < 0 then -(w + 1) else w + 1) > (if w < 0 then -w else w) then (if w + 1 < 0 then -(w + 1) else w + 1) else (if w < 0 then -w else w)) = (e : Int) := he
  rw [he0, Int.toNat_natCast]
  have hq2 : post (.im (dy (mk (t * 2 ^ e / 2 ^ m + 1) e))) [] := by
    have hq : post (.im (optD (some (mk (t * 2 ^ ((d : Int) - maxI (absI (t / 2 ^ m)) (absI (t / 2 ^ m + 1))).toNat / 2 ^ m + 1) ((d : Int) - maxI (absI (t / 2 ^ m)) (absI (t / 2 ^ m + 1))).toNat)))) [] := hq
    rw [hwv, he, Int.toNat_natCast] at hq
    exact hq
  refine ⟨by omega, by omega, ⟨(), trivial, by walk_at "al fg", rfl⟩, fun i p hi _ q hq => by simp at hq, fun i p hi _ => ?_, fun p _ => ?_⟩
  · try dsimp only
    have hcm : CMulX ((2 : Int) ^ i) 2 := sm_mul (m := 2000) (n := 2) (sm_pow (by omega)) (sm_of (by decide) (by decide)) (by decide)
    walk_at "al"
    refine ss_nil ⟨(), trivial, ?_, rfl⟩
    rw [← Int.pow_succ]
    walk_at "al fg"
  · have hcm : CMulX t (2 ^ e) := sm_mul hs (sm_pow (m := 2000) (by omega)) (by decide)
    have hcd : CDivW (t * 2 ^ e) (2 ^ m) := cdw (by omega)
    walk_at "al"
    refine uMade e rfl ?_
    exact rt_im rfl hq2
theorem uNextAbove {x : Int × Nat} {i : Int} (d : Nat) (hs : Sm 1000 x.1) (hm : x.2 < 1000) (hd : d ≤ 1000) (e : i = (d : Int)) (h : k (.im (optD (ab x d))) μ) : [AV.im (dy x), AV.im (.int i)].length = 2 ∧ CL cNextAbove [.im (dy x), .im (.int i)] μ k := by
  subst e
  exact clI _ rfl (.cons rfl (.cons rfl .nil)) (fun post hp => ⟨rfl, x, d, hs, hm, hd, rfl, hp⟩) h
end
/-! ### numbers on one scale -/
def sc (N : Nat) (x : Int × Nat) : Int := x.1 * 2 ^ (N - x.2)
theorem pow_split {k N : Nat} (h : k ≤ N) : (2 : Int) ^ N = 2 ^ k * 2 ^ (N - k) := by
  rw [← Int.pow_add]; congr 1; omega
theorem mk_le : ∀ (k : Nat) (t : Int), (mk t k).2 ≤ k
  | 0, t => Nat.le_refl 0
  | k + 1, t => by
    by_cases h : t % 2 = 0
    · rw [mk_even h]; have := mk_le k (t / 2); omega
    · rw [mk_odd h]; exact Nat.le_refl _
theorem mk_sc {N : Nat} : ∀ (k : Nat) (t : Int), k ≤ N → sc N (mk t k) = t * 2 ^ (N - k)
  | 0, t, _ => rfl
  | k + 1, t, hk => by
    by_cases h : t % 2 = 0
    · rw [mk_even h, mk_sc k (t / 2) (by omega), show N - k = (N - (k + 1)) + 1 by omega, pow_succ2, ← Int.mul_assoc]
      congr 1
      omega
    · rw [mk_odd h]; rfl
theorem mk_scale (t : Int) (k : Nat) : ∀ m : Nat, mk (t * 2 ^ m) (k + m) = mk t k
  | 0 => by rw [Int.pow_zero, Int.mul_one]; rfl
  | m + 1 => by
    have e : t * 2 ^ (m + 1) = 2 * (t * 2 ^ m) := by rw [pow_succ2]; grind
    rw [e, show k + (m + 1) = (k + m) + 1 by omega, mk_even (by omega), show 2 * (t * 2 ^ m) / 2 = t * 2 ^ m by omega]
    exact mk_scale t k m
theorem mk_eq {N k k' : Nat} {t t' : Int} (h1 : k ≤ N) (h2 : k' ≤ N) (h : t * 2 ^ (N - k) = t' * 2 ^ (N - k')) : mk t k = mk t' k' := by
  rw [← mk_scale t k (N - k), ← mk_scale t' k' (N - k'), h]
  congr 1
  omega
theorem mk_of_rd : ∀ {x : Int × Nat}, Rd0 x → mk x.1 x.2 = x
  | (t, 0), _ => rfl
  | (t, k + 1), h => by
    rcases h with h | h
    · exact absurd h (Nat.succ_ne_zero _)
    · have h : t % 2 = 1 := h
      exact mk_odd (by omega)
theorem mk_neg : ∀ (k : Nat) (t : Int), mk (-t) k = (-(mk t k).1, (mk t k).2)
  | 0, t => rfl
  | k + 1, t => by
    by_cases h : t % 2 = 0
    · rw [mk_even h, mk_even (by omega), show -t / 2 = -(t / 2) by omega]
      exact mk_neg k (t / 2)
    · rw [mk_odd h, mk_odd (by omega)]
theorem ltD_sc {N : Nat} {x y : Int × Nat} (hx : x.2 ≤ N) (hy : y.2 ≤ N) : ltD x y ↔ sc N x < sc N y := by
  unfold ltD sc
  have e1 : x.1 * 2 ^ y.2 * (2 ^ (N - x.2) * 2 ^ (N - y.2)) = x.1 * 2 ^ (N - x.2) * 2 ^ N := by rw [pow_split hy]; grind
  have e2 : y.1 * 2 ^ x.2 * (2 ^ (N - x.2) * 2 ^ (N - y.2)) = y.1 * 2 ^ (N - y.2) * 2 ^ N := by rw [pow_split hx]; grind
  have hp : (0 : Int) < 2 ^ (N - x.2) * 2 ^ (N - y.2) := Int.mul_pos (pow_pos2 _) (pow_pos2 _)
  constructor
  · intro h
    have := Int.mul_lt_mul_of_pos_right h hp
    rw [e1, e2] at this
    exact Int.lt_of_mul_lt_mul_right this (Int.le_of_lt (pow_pos2 N))
  · intro h
    have := Int.mul_lt_mul_of_pos_right h (pow_pos2 N)
    rw [← e1, ← e2] at this
    exact Int.lt_of_mul_lt_mul_right this (Int.le_of_lt hp)
theorem whole_sc {N : Nat} {x : Int × Nat} {w : Int} (hx : x.2 ≤ N) (h1 : w * 2 ^ N ≤ sc N x) (h2 : sc N x < (w + 1) * 2 ^ N) : x.1 / 2 ^ x.2 = w := by
  unfold sc at h1 h2
  rw [pow_split hx, ← Int.mul_assoc] at h1 h2
  have hp := pow_pos2 (N - x.2)
  have h1 := Int.le_of_mul_le_mul_right h1 hp
  have h2 := Int.lt_of_mul_lt_mul_right h2 (Int.le_of_lt hp)
  have hq := pow_pos2 x.2
  have a1 := (Int.le_ediv_iff_mul_le hq).mpr h1
  have a2 := Int.ediv_lt_of_lt_mul hq h2
  omega

theorem whole_le {N : Nat} {x : Int × Nat} (hx : x.2 ≤ N) : x.1 / 2 ^ x.2 * 2 ^ N ≤ sc N x ∧ sc N x < (x.1 / 2 ^ x.2 + 1) * 2 ^ N := by
  unfold sc
  have hq := pow_pos2 x.2
  have hp := pow_pos2 (N - x.2)
  rw [pow_split hx, ← Int.mul_assoc, ← Int.mul_assoc]
  have h1 : x.1 / 2 ^ x.2 * 2 ^ x.2 ≤ x.1 := Int.ediv_mul_le _ (by omega)
  have h2 : x.1 < (x.1 / 2 ^ x.2 + 1) * 2 ^ x.2 := Int.lt_ediv_add_one_mul_self _ hq
  exact ⟨Int.mul_le_mul_of_nonneg_right h1 (by omega), Int.mul_lt_mul_of_pos_right h2 hp⟩
theorem sc_neg (N : Nat) (t : Int) (k : Nat) : sc N (-t, k) = - sc N (t, k) := by unfold sc; exact Int.neg_mul _ _
theorem sc_inj {N : Nat} {x y : Int × Nat} (hx : Rd0 x) (hy : Rd0 y) (h1 : x.2 ≤ N) (h2 : y.2 ≤ N) (h : sc N x = sc N y) : x = y := by
  rw [← mk_of_rd hx, ← mk_of_rd hy]
  exact mk_eq h1 h2 h
/-! ### what lies between -/
/-- y lies between l and h, both within the grid of y's own halvings -/
structure Mid (N : Nat) (l h y : Int × Nat) : Prop where
  n1 : 1 ≤ y.2
  odd : y.1 % 2 = 1
  nl : l.2 ≤ N
  nh : h.2 ≤ N
  ny : y.2 ≤ N
  a : sc N y - 2 ^ (N - y.2) ≤ sc N l
  b : sc N l < sc N y
  c : sc N y < sc N h
  d : sc N h ≤ sc N y + 2 ^ (N - y.2)
theorem half_odd {a : Int} {j : Nat} : mk (2 * a + 1) (j + 1) = (2 * a + 1, j + 1) := mk_odd (by omega)
/-- the middle of two neighbours of a grid -/
theorem middle {a : Int} {j : Nat} : half (plus (mk a j) (mk (a + 1) j)) = (2 * a + 1, j + 1) := by
  have h1 := mk_le j a
  have h2 := mk_le j (a + 1)
  have e1 := mk_sc (N := j) j a (Nat.le_refl _)
  have e2 := mk_sc (N := j) j (a + 1) (Nat.le_refl _)
  rw [Nat.sub_self, Int.pow_zero, Int.mul_one] at e1 e2
  unfold half plus
  generalize mk a j = x at *
  generalize mk (a + 1) j = y at *
  have hN : x.2 + y.2 ≤ 2 * j := by omega
  have h3 := mk_le (x.2 + y.2) (x.1 * 2 ^ y.2 + y.1 * 2 ^ x.2)
  have h4 := mk_sc (N := 2 * j) (x.2 + y.2) (x.1 * 2 ^ y.2 + y.1 * 2 ^ x.2) hN
  generalize mk (x.1 * 2 ^ y.2 + y.1 * 2 ^ x.2) (x.2 + y.2) = z at *
  rw [← half_odd]
  refine mk_eq (N := 2 * j + 1) (by omega) (by omega) ?_
  have e3 : z.1 * 2 ^ (2 * j + 1 - (z.2 + 1)) = sc (2 * j) z := by unfold sc; congr 2; omega
  rw [e3, h4]
  have e4 : x.1 * 2 ^ y.2 * 2 ^ (2 * j - (x.2 + y.2)) = sc j x * 2 ^ j := by
    unfold sc
    rw [Int.mul_assoc, Int.mul_assoc, ← Int.pow_add, ← Int.pow_add]
    congr 2; omega
  have e5 : y.1 * 2 ^ x.2 * 2 ^ (2 * j - (x.2 + y.2)) = sc j y * 2 ^ j := by
    unfold sc
    rw [Int.mul_assoc, Int.mul_assoc, ← Int.pow_add, ← Int.pow_add]
    congr 2; omega
  rw [Int.add_mul, e4, e5, e1, e2, show 2 * j + 1 - (j + 1) = j by omega]
  grind
/-- how the halving comes to y: so far a and a + 1 of j halvings -/
structure Bis (N : Nat) (y : Int × Nat) (a : Int) (j : Nat) : Prop where
  jn : j < y.2
  lo : a * 2 ^ (N - j) < sc N y
  hi : sc N y < (a + 1) * 2 ^ (N - j)
theorem bis_next {N : Nat} {l h y : Int × Nat} (M : Mid N l h y) {a : Int} {j : Nat} (B : Bis N y a j) :
    (¬ ltD l (2 * a + 1, j + 1) → Bis N y (2 * a + 1) (j + 1)) ∧ (ltD l (2 * a + 1, j + 1) → ¬ ltD (2 * a + 1, j + 1) h → Bis N y (2 * a) (j + 1)) ∧
    (ltD l (2 * a + 1, j + 1) → ltD (2 * a + 1, j + 1) h → y = (2 * a + 1, j + 1)) := by
  obtain ⟨n1, odd, nl, nh, ny, Ma, Mb, Mc, Md⟩ := M
  obtain ⟨hj, lo, hi⟩ := B
  obtain ⟨s, n⟩ := y
  dsimp only at *
  have hjN : j + 1 ≤ N := by omega
  rw [ltD_sc nl hjN, ltD_sc (x := (2 * a + 1, j + 1)) hjN nh]
  have em : sc N (2 * a + 1, j + 1) = (2 * a + 1) * 2 ^ (N - (j + 1)) := rfl
  have ey : sc N (s, n) = s * 2 ^ (N - n) := rfl
  obtain ⟨q, hq⟩ : ∃ q, n = j + 1 + q := ⟨n - (j + 1), by omega⟩
  subst hq
  have e1 : (2 : Int) ^ (N - (j + 1)) = 2 ^ q * 2 ^ (N - (j + 1 + q)) := by rw [← Int.pow_add]; congr 1; omega
  have e2 : (2 : Int) ^ (N - j) = 2 * (2 ^ q * 2 ^ (N - (j + 1 + q))) := by rw [← e1, ← pow_succ2]; congr 1; omega
  rw [em, e1]
  rw [ey] at Ma Mb Mc Md lo hi
  rw [e2] at lo hi
  have hp := pow_pos2 (N - (j + 1 + q))
  generalize (2 : Int) ^ (N - (j + 1 + q)) = P at *
  have c1 : a * (2 * (2 ^ q * P)) = (2 * a * 2 ^ q) * P := by grind
  have c2 : (a + 1) * (2 * (2 ^ q * P)) = ((2 * a + 2) * 2 ^ q) * P := by grind
  have c3 : (2 * a + 1) * (2 ^ q * P) = ((2 * a + 1) * 2 ^ q) * P := by grind
  rw [c1] at lo
  rw [c2] at hi
  rw [c3]
  have lo := Int.lt_of_mul_lt_mul_right lo (Int.le_of_lt hp)
  have hi := Int.lt_of_mul_lt_mul_right hi (Int.le_of_lt hp)
  have d1 : s * P - P = (s - 1) * P := by rw [Int.sub_mul, Int.one_mul]
  have d2 : s * P + P = (s + 1) * P := by rw [Int.add_mul, Int.one_mul]
  rw [d1] at Ma
  rw [d2] at Md
  generalize hm : (2 * a + 1) * 2 ^ q = m at *
  have mlt : ∀ {u v : Int}, u < v → u * P < v * P := fun h => Int.mul_lt_mul_of_pos_right h hp
  have mle : ∀ {u v : Int}, u ≤ v → u * P ≤ v * P := fun h => Int.mul_le_mul_of_nonneg_right h (Int.le_of_lt hp)
  rcases Int.lt_trichotomy s m with hs | hs | hs
  · -- y below the middle
    have h1 : (s + 1) * P ≤ m * P := mle (by omega)
    have k : q ≠ 0 := by
      rintro rfl
      rw [Int.pow_zero] at hm lo hi
      omega
    refine ⟨fun z => absurd (show sc N l < m * P by omega) z, fun _ _ => ⟨by show j + 1 < j + 1 + q; omega, ?_, ?_⟩, fun _ z => absurd z (by omega)⟩
    · rw [ey, e1]
      have := mlt lo
      grind
    · rw [ey, e1]
      have := mlt hs
      rw [← hm] at this
      grind
  · subst hs
    have hq0 : q = 0 := by
      cases q with
      | zero => rfl
      | succ q =>
        exfalso
        have : s % 2 = 0 := by rw [← hm, pow_succ2]; have e : (2 * a + 1) * (2 * 2 ^ q) = 2 * ((2 * a + 1) * 2 ^ q) := by grind
                               rw [e]; omega
        omega
    subst hq0
    rw [Int.pow_zero, Int.mul_one] at hm
    refine ⟨fun z => absurd Mb z, fun _ z => absurd Mc z, fun _ _ => ?_⟩
    rw [hm]
  · have h1 : m * P ≤ (s - 1) * P := mle (by omega)
    have k : q ≠ 0 := by
      rintro rfl
      rw [Int.pow_zero] at hm lo hi
      omega
    refine ⟨fun _ => ⟨by show j + 1 < j + 1 + q; omega, ?_, ?_⟩, fun z => absurd z (by omega), fun z => absurd z (by omega)⟩
    · rw [ey, e1]
      have := mlt hs
      rw [← hm] at this
      grind
    · rw [ey, e1]
      have := mlt hi
      grind

/-! ### the next numbers and what is simplest between them -/
def neg (x : Int × Nat) : Int × Nat := (-x.1, x.2)
def lowN (x : Int × Nat) (d : Nat) : Option (Int × Nat) := (ab (neg x) d).map neg
def parD (x : Int × Nat) : Option (Int × Nat) × Option (Int × Nat) :=
  if 0 < x.2 then (some (mk (x.1 - 1) x.2), some (mk (x.1 + 1) x.2))
  else if x.1 = 0 then (none, none) else if 0 < x.1 then (some (x.1 - 1, 0), none) else (none, some (x.1 + 1, 0))
inductive Simp (lo hi : Option (Int × Nat)) (y : Int × Nat) : Prop
  | zero : (∀ l, lo = some l → l.1 < 0) → (∀ h, hi = some h → 0 < h.1) → y = (0, 0) → Simp lo hi y
  | pos (l : Int × Nat) : lo = some l → 0 ≤ l.1 → y = (l.1 / 2 ^ l.2 + 1, 0) → (∀ h, hi = some h → ltD y h) → Simp lo hi y
  | neg (h : Int × Nat) : hi = some h → h.1 ≤ 0 → (∀ l, lo = some l → l.1 < 0 ∧ ltD l y) → y = (-(-h.1 / 2 ^ h.2) - 1, 0) → Simp lo hi y
  | mid (N : Nat) (l h : Int × Nat) (w : Int) : lo = some l → hi = some h → Mid N l h y → w * 2 ^ N ≤ sc N l → sc N h ≤ (w + 1) * 2 ^ N → Simp lo hi y
theorem odd_ne {t a : Int} {m : Nat} (ho : t % 2 = 1) (hm : 1 ≤ m) : t ≠ a * 2 ^ m := by
  obtain ⟨q, rfl⟩ : ∃ q, m = q + 1 := ⟨m - 1, by omega⟩
  rw [pow_succ2, show a * (2 * 2 ^ q) = 2 * (a * 2 ^ q) by grind]
  omega
theorem whole_neg {t : Int} {m : Nat} (ho : t % 2 = 1) (hm : 1 ≤ m) : -t / 2 ^ m = -(t / 2 ^ m) - 1 := by
  have hp := pow_pos2 m
  have h1 : t / 2 ^ m * 2 ^ m ≤ t := Int.ediv_mul_le _ (by omega)
  have h2 : t < (t / 2 ^ m + 1) * 2 ^ m := Int.lt_ediv_add_one_mul_self _ hp
  have h3 := odd_ne (a := t / 2 ^ m) ho hm
  generalize t / 2 ^ m = w at *
  rw [Int.add_mul, Int.one_mul] at h2
  have a1 : -w - 1 ≤ -t / 2 ^ m := (Int.le_ediv_iff_mul_le hp).mpr (by rw [Int.sub_mul, Int.neg_mul, Int.one_mul]; omega)
  have a2 : -t / 2 ^ m < -w := Int.ediv_lt_of_lt_mul hp (by rw [Int.neg_mul]; omega)
  omega
theorem max_neg (w : Int) : maxI (absI (-w - 1)) (absI (-w - 1 + 1)) = maxI (absI w) (absI (w + 1)) := by
  unfold maxI absI; split <;> split <;> split <;> split <;> omega
theorem ltD_whole {x : Int × Nat} {i : Int} : ltD x (i, 0) ↔ x.1 < i * 2 ^ x.2 := by
  unfold ltD
  rw [Int.pow_zero, Int.mul_one]
theorem neg_mk (t : Int) (k : Nat) : neg (mk t k) = mk (-t) k := (mk_neg k t).symm
/-- above, within -/
theorem ab_in {x : Int × Nat} {d : Nat} (h1 : x.1 < (d : Int) * 2 ^ x.2) (h2 : -(d : Int) * 2 ^ x.2 ≤ x.1) : ∃ e : Nat, (e : Int) = (d : Int) - maxI (absI (whole x)) (absI (whole x + 1)) ∧ ab x d = some (mk (x.1 * 2 ^ e / 2 ^ x.2 + 1) e) := by
  have hp := pow_pos2 x.2
  have hw1 : whole x < d := Int.ediv_lt_of_lt_mul hp h1
  have hw2 : -(d : Int) ≤ whole x := (Int.le_ediv_iff_mul_le hp).mpr h2
  refine ⟨((d : Int) - maxI (absI (whole x)) (absI (whole x + 1))).toNat, Int.toNat_of_nonneg ?_, ?_⟩
  · unfold maxI absI; split <;> split <;> split <;> omega
  · unfold ab
    rw [if_pos (ltD_whole.mpr h1), if_neg (fun z => absurd (ltD_whole.mp z) (by omega))]
theorem ab_out {x : Int × Nat} {d : Nat} (h1 : ¬ x.1 < (d : Int) * 2 ^ x.2) : ab x d = none := by
  unfold ab; rw [if_neg (fun z => h1 (ltD_whole.mp z))]
theorem ab_far {x : Int × Nat} {d : Nat} (h1 : x.1 < -(d : Int) * 2 ^ x.2) : ab x d = some (-(d : Int), 0) := by
  have hp := pow_pos2 x.2
  have hd : 0 ≤ (d : Int) * 2 ^ x.2 := Int.mul_nonneg (by omega) (by omega)
  unfold ab; rw [if_pos (ltD_whole.mpr (by rw [Int.neg_mul] at h1; omega)), if_pos (ltD_whole.mpr h1)]
/-- both neighbours of a number that is not whole, within -/
theorem both_in {t : Int} {m d : Nat} (ho : t % 2 = 1) (hm : 1 ≤ m) (h1 : t < (d : Int) * 2 ^ m) (h2 : -(d : Int) * 2 ^ m < t) : ∃ e : Nat, (e : Int) = (d : Int) - maxI (absI (t / 2 ^ m)) (absI (t / 2 ^ m + 1)) ∧
    ab (t, m) d = some (mk (t * 2 ^ e / 2 ^ m + 1) e) ∧ lowN (t, m) d = some (mk (-(-t * 2 ^ e / 2 ^ m) - 1) e) := by
  obtain ⟨e, he, h3⟩ := ab_in (x := (t, m)) h1 (Int.le_of_lt h2)
  obtain ⟨e', he', h4⟩ := ab_in (x := neg (t, m)) (d := d) (by show -t < (d : Int) * 2 ^ m; rw [Int.neg_mul] at h2; omega) (by show -(d : Int) * 2 ^ m ≤ -t; rw [Int.neg_mul]; omega)
  have e1 : whole (neg (t, m)) = -(t / 2 ^ m) - 1 := whole_neg ho hm
  rw [e1, max_neg] at he'
  have : e' = e := by
    have : (e' : Int) = (e : Int) := he'.trans he.symm
    omega
  subst this
  refine ⟨e', he', h3, ?_⟩
  unfold lowN
  rw [h4, Option.map_some, neg_mk]
  congr 2
  show -(-t * 2 ^ e' / 2 ^ m + 1) = _
  omega
theorem mul_div_pow {t : Int} {e m : Nat} (h : m ≤ e) : t * 2 ^ e / 2 ^ m = t * 2 ^ (e - m) := by
  rw [pow_split h, show t * (2 ^ m * 2 ^ (e - m)) = (t * 2 ^ (e - m)) * 2 ^ m by grind]
  exact Int.mul_ediv_cancel _ (by have := pow_pos2 m; omega)
theorem pow_le2 {a b : Nat} (h : a ≤ b) : (2 : Int) ^ a ≤ 2 ^ b := by
  rw [pow_split h]
  have h1 := pow_pos2 a
  have h2 := pow_pos2 (b - a)
  have := Int.mul_le_mul_of_nonneg_left (show 1 ≤ (2 : Int) ^ (b - a) by omega) (Int.le_of_lt h1)
  omega
/-- not whole, as few days as there are -/
theorem mid_few {t : Int} {m e : Nat} (ho : t % 2 = 1) (hm : 1 ≤ m) (he : m ≤ e) : ∃ (N : Nat) (w : Int), Mid N (mk (-(-t * 2 ^ e / 2 ^ m) - 1) e) (mk (t * 2 ^ e / 2 ^ m + 1) e) (t, m) ∧ w * 2 ^ N ≤ sc N (mk (-(-t * 2 ^ e / 2 ^ m) - 1) e) ∧ sc N (mk (t * 2 ^ e / 2 ^ m + 1) e) ≤ (w + 1) * 2 ^ N := by
  have n1 := mk_le e (-(-t * 2 ^ e / 2 ^ m) - 1)
  have n2 := mk_le e (t * 2 ^ e / 2 ^ m + 1)
  have s1 := mk_sc (N := e) e (-(-t * 2 ^ e / 2 ^ m) - 1) (Nat.le_refl _)
  have s2 := mk_sc (N := e) e (t * 2 ^ e / 2 ^ m + 1) (Nat.le_refl _)
  rw [mul_div_pow he, mul_div_pow he] at *
  generalize mk (-(-t * 2 ^ (e - m)) - 1) e = L at *
  generalize mk (t * 2 ^ (e - m) + 1) e = H at *
  rw [Nat.sub_self, Int.pow_zero, Int.mul_one] at s1 s2
  have hp := pow_pos2 (e - m)
  have hX : sc e (t, m) = t * 2 ^ (e - m) := rfl
  have q1 := Int.neg_mul t (2 ^ (e - m))
  refine ⟨e, t / 2 ^ m, ⟨hm, ho, n1, n2, he, ?_, ?_, ?_, ?_⟩, ?_, ?_⟩
  · rw [hX, s1]; show _ - 2 ^ (e - m) ≤ _; omega
  · rw [hX, s1]; omega
  · rw [hX, s2]; omega
  · rw [hX, s2]; show _ ≤ _ + 2 ^ (e - m); omega
  · rw [s1]
    have h1 : t / 2 ^ m * 2 ^ m ≤ t := Int.ediv_mul_le _ (by have := pow_pos2 m; omega)
    have h3 := odd_ne (a := t / 2 ^ m) ho hm
    have h4 : (t / 2 ^ m * 2 ^ m + 1) * 2 ^ (e - m) ≤ t * 2 ^ (e - m) := Int.mul_le_mul_of_nonneg_right (by omega) (by omega)
    rw [Int.add_mul, Int.one_mul, Int.mul_assoc, ← pow_split he] at h4
    omega
  · rw [s2]
    have h2 : t < (t / 2 ^ m + 1) * 2 ^ m := Int.lt_ediv_add_one_mul_self _ (pow_pos2 m)
    have h4 : (t + 1) * 2 ^ (e - m) ≤ ((t / 2 ^ m + 1) * 2 ^ m) * 2 ^ (e - m) := Int.mul_le_mul_of_nonneg_right (by omega) (by omega)
    rw [Int.add_mul t, Int.one_mul, Int.mul_assoc, ← pow_split he] at h4
    omega
/-- not whole, more days than there are -/
theorem mid_many {t : Int} {m e : Nat} (ho : t % 2 = 1) (he : e < m) : ∃ a : Int, -(-t * 2 ^ e / 2 ^ m) - 1 = a ∧ t * 2 ^ e / 2 ^ m = a ∧ t / 2 ^ m * 2 ^ e ≤ a ∧ a + 1 ≤ (t / 2 ^ m + 1) * 2 ^ e ∧ a * 2 ^ (m - e) < t ∧ t < (a + 1) * 2 ^ (m - e) := by
  have e1 : ∀ s : Int, s * 2 ^ e / 2 ^ m = s / 2 ^ (m - e) := fun s => by
    rw [pow_split (Nat.le_of_lt he), Int.mul_comm s]
    exact Int.mul_ediv_mul_of_pos _ _ (pow_pos2 e)
  refine ⟨t / 2 ^ (m - e), ?_, e1 t, ?_, ?_, ?_, ?_⟩
  · rw [e1, whole_neg ho (by omega)]; omega
  · have h1 : t / 2 ^ m * 2 ^ m ≤ t := Int.ediv_mul_le _ (by have := pow_pos2 m; omega)
    refine (Int.le_ediv_iff_mul_le (pow_pos2 _)).mpr ?_
    rw [Int.mul_assoc, ← pow_split (Nat.le_of_lt he)]
    exact h1
  · have h2 : t < (t / 2 ^ m + 1) * 2 ^ m := Int.lt_ediv_add_one_mul_self _ (pow_pos2 m)
    have : t / 2 ^ (m - e) < (t / 2 ^ m + 1) * 2 ^ e := Int.ediv_lt_of_lt_mul (pow_pos2 _) (by rw [Int.mul_assoc, ← pow_split (Nat.le_of_lt he)]; exact h2)
    omega
  · have h1 : t / 2 ^ (m - e) * 2 ^ (m - e) ≤ t := Int.ediv_mul_le _ (by have := pow_pos2 (m - e); omega)
    have h3 := odd_ne (a := t / 2 ^ (m - e)) ho (show 1 ≤ m - e by omega)
    omega
  · exact Int.lt_ediv_add_one_mul_self _ (pow_pos2 _)
theorem mid_grid {a w : Int} {e : Nat} (h1 : w * 2 ^ e ≤ a) (h2 : a + 1 ≤ (w + 1) * 2 ^ e) : Mid (e + 1) (mk a e) (mk (a + 1) e) (2 * a + 1, e + 1) ∧ w * 2 ^ (e + 1) ≤ sc (e + 1) (mk a e) ∧ sc (e + 1) (mk (a + 1) e) ≤ (w + 1) * 2 ^ (e + 1) := by
  have n1 := mk_le e a
  have n2 := mk_le e (a + 1)
  have s1 := mk_sc (N := e + 1) e a (by omega)
  have s2 := mk_sc (N := e + 1) e (a + 1) (by omega)
  rw [show e + 1 - e = 1 by omega, Int.pow_one] at s1 s2
  have sy : sc (e + 1) (2 * a + 1, e + 1) = 2 * a + 1 := by show (2 * a + 1) * 2 ^ (e + 1 - (e + 1)) = _; rw [Nat.sub_self, Int.pow_zero, Int.mul_one]
  have e0 : (2 : Int) ^ (e + 1 - (e + 1)) = 1 := by rw [Nat.sub_self, Int.pow_zero]
  refine ⟨⟨by show 1 ≤ e + 1; omega, by show (2 * a + 1) % 2 = 1; omega, by omega, by omega, Nat.le_refl _, ?_, ?_, ?_, ?_⟩, ?_, ?_⟩
  · rw [sy, s1]; show _ - (2 : Int) ^ (e + 1 - (e + 1)) ≤ _; omega
  · rw [sy, s1]; omega
  · rw [sy, s2]; omega
  · rw [sy, s2]; show _ ≤ _ + (2 : Int) ^ (e + 1 - (e + 1)); omega
  · rw [s1, pow_succ2, show w * (2 * 2 ^ e) = 2 * (w * 2 ^ e) by grind]; omega
  · rw [s2, pow_succ2, show (w + 1) * (2 * 2 ^ e) = 2 * ((w + 1) * 2 ^ e) by grind]; omega

theorem plus_grid {a : Int} {j : Nat} : plus (mk a j) (mk (a + 1) j) = mk (2 * a + 1) j := by
  have h1 := mk_le j a
  have h2 := mk_le j (a + 1)
  have e1 := mk_sc (N := j) j a (Nat.le_refl _)
  have e2 := mk_sc (N := j) j (a + 1) (Nat.le_refl _)
  rw [Nat.sub_self, Int.pow_zero, Int.mul_one] at e1 e2
  unfold plus
  generalize mk a j = x at *
  generalize mk (a + 1) j = y at *
  refine mk_eq (N := 2 * j) (by omega) (by omega) ?_
  have e4 : x.1 * 2 ^ y.2 * 2 ^ (2 * j - (x.2 + y.2)) = sc j x * 2 ^ j := by
    unfold sc
    rw [Int.mul_assoc, Int.mul_assoc, ← Int.pow_add, ← Int.pow_add]
    congr 2; omega
  have e5 : y.1 * 2 ^ x.2 * 2 ^ (2 * j - (x.2 + y.2)) = sc j y * 2 ^ j := by
    unfold sc
    rw [Int.mul_assoc, Int.mul_assoc, ← Int.pow_add, ← Int.pow_add]
    congr 2; omega
  rw [Int.add_mul, e4, e5, e1, e2, show 2 * j - j = j by omega]
  grind
theorem day_whole {t : Int} : dayI (t, 0) = absI t := if_pos rfl
theorem day_odd {t : Int} {m : Nat} (hm : 1 ≤ m) : dayI (t, m) = maxI (absI (t / 2 ^ m)) (absI (t / 2 ^ m + 1)) + m := by
  unfold dayI whole; rw [if_neg (by show ¬ m = 0; omega)]
theorem rd_odd {t : Int} {m : Nat} (h : Rd0 (t, m)) (hm : 1 ≤ m) : t % 2 = 1 := by
  rcases h with h | h
  · have h : m = 0 := h
    omega
  · exact h
/-- where a number that is not whole lies -/
theorem side {t : Int} {m d : Nat} (ho : t % 2 = 1) (hm : 1 ≤ m) : (t < (d : Int) * 2 ^ m ∧ -(d : Int) * 2 ^ m < t ∧ maxI (absI (t / 2 ^ m)) (absI (t / 2 ^ m + 1)) ≤ d) ∨ (¬ t < (d : Int) * 2 ^ m ∧ -(d : Int) * 2 ^ m ≤ t ∧ (d : Int) * 2 ^ m < t ∧ (d : Int) < dayI (t, m)) ∨ (t < -(d : Int) * 2 ^ m ∧ (d : Int) < dayI (t, m)) := by
  have hp := pow_pos2 m
  have h0 : 0 ≤ (d : Int) * 2 ^ m := Int.mul_nonneg (by omega) (by omega)
  have o1 := odd_ne (a := (d : Int)) ho hm
  have o2 := odd_ne (a := -(d : Int)) ho hm
  rw [day_odd hm]
  by_cases h1 : t < (d : Int) * 2 ^ m
  · by_cases h2 : -(d : Int) * 2 ^ m < t
    · refine .inl ⟨h1, h2, ?_⟩
      have hw1 : t / 2 ^ m < d := Int.ediv_lt_of_lt_mul hp h1
      have hw2 : -(d : Int) ≤ t / 2 ^ m := (Int.le_ediv_iff_mul_le hp).mpr (Int.le_of_lt h2)
      unfold maxI absI; split <;> split <;> split <;> omega
    · refine .inr (.inr ⟨by omega, ?_⟩)
      have hw1 : t / 2 ^ m < -d := Int.ediv_lt_of_lt_mul hp (by omega)
      unfold maxI absI; split <;> split <;> split <;> omega
  · refine .inr (.inl ⟨h1, by rw [Int.neg_mul]; omega, by omega, ?_⟩)
    have hw2 : (d : Int) ≤ t / 2 ^ m := (Int.le_ediv_iff_mul_le hp).mpr (by omega)
    unfold maxI absI; split <;> split <;> split <;> omega
theorem low_out {t : Int} {m d : Nat} (h : t ≤ -(d : Int) * 2 ^ m) : lowN (t, m) d = none := by
  unfold lowN
  rw [ab_out (x := neg (t, m)) (by show ¬ -t < (d : Int) * 2 ^ m; rw [Int.neg_mul] at h; omega)]; rfl
theorem low_far {t : Int} {m d : Nat} (h : (d : Int) * 2 ^ m < t) : lowN (t, m) d = some ((d : Int), 0) := by
  unfold lowN
  rw [ab_far (x := neg (t, m)) (by show -t < -(d : Int) * 2 ^ m; rw [Int.neg_mul]; omega)]
  show some (- -(d : Int), 0) = _
  rw [Int.neg_neg]
/-- a whole number: its neighbours -/
theorem ab_whole {t : Int} {d : Nat} (h1 : t < d) (h2 : -(d : Int) ≤ t) : ∃ e : Nat, (e : Int) = (d : Int) - maxI (absI t) (absI (t + 1)) ∧ ab (t, 0) d = some (mk (t * 2 ^ e + 1) e) := by
  obtain ⟨e, h3, h4⟩ := ab_in (x := (t, 0)) (d := d) (by show t < (d : Int) * 2 ^ 0; omega) (by show -(d : Int) * 2 ^ 0 ≤ t; omega)
  have e1 : whole (t, 0) = t := Int.ediv_one t
  rw [e1] at h3
  refine ⟨e, h3, ?_⟩
  rw [h4]
  congr 3
  exact Int.ediv_one _
theorem low_whole {t : Int} {d : Nat} (h1 : -(d : Int) < t) (h2 : t ≤ d) : ∃ e : Nat, (e : Int) = (d : Int) - maxI (absI (-t)) (absI (-t + 1)) ∧ lowN (t, 0) d = some (mk (t * 2 ^ e - 1) e) := by
  obtain ⟨e, h3, h4⟩ := ab_whole (t := -t) (d := d) (by omega) (by omega)
  refine ⟨e, h3, ?_⟩
  show (ab (-t, 0) d).map neg = _
  rw [h4, Option.map_some, neg_mk]
  congr 2
  rw [Int.neg_mul]
  omega
theorem mk_sign {a : Int} {e : Nat} : (0 < (mk a e).1 ↔ 0 < a) ∧ ((mk a e).1 < 0 ↔ a < 0) := by
  have h := mk_sc (N := e) e a (Nat.le_refl _)
  rw [Nat.sub_self, Int.pow_zero, Int.mul_one] at h
  unfold sc at h
  have hp := pow_pos2 (e - (mk a e).2)
  generalize (2 : Int) ^ (e - (mk a e).2) = P at *
  generalize (mk a e).1 = b at *
  rcases Int.lt_trichotomy b 0 with z | z | z
  · have := Int.mul_neg_of_neg_of_pos z hp
    omega
  · subst z; omega
  · have := Int.mul_pos z hp
    omega
theorem nb_few {x : Int × Nat} {d : Nat} (rd : Rd0 x) (h : dayI x ≤ d) : Simp (lowN x d) (ab x d) x := by
  obtain ⟨t, m⟩ := x
  rcases Nat.eq_zero_or_pos m with hm | hm
  · subst hm
    rw [day_whole] at h
    have hb : -(d : Int) ≤ t ∧ t ≤ d := by unfold absI at h; split at h <;> omega
    by_cases t0 : t = 0
    · subst t0
      refine .zero (fun l hl => ?_) (fun h' hh => ?_) rfl
      · rcases Nat.eq_zero_or_pos d with z | z
        · subst z
          rw [low_out (by decide)] at hl; cases hl
        · obtain ⟨e, _, q⟩ := low_whole (t := 0) (d := d) (by omega) (by omega)
          rw [q] at hl; cases hl
          exact mk_sign.2.mpr (by omega)
      · rcases Nat.eq_zero_or_pos d with z | z
        · subst z
          rw [ab_out (by decide)] at hh; cases hh
        · obtain ⟨e, _, q⟩ := ab_whole (t := 0) (d := d) (by omega) (by omega)
          rw [q] at hh; cases hh
          exact mk_sign.1.mpr (by omega)
    · rcases Int.lt_or_gt_of_ne t0 with hs | hs
      · -- below 0
        obtain ⟨e, _, q⟩ := ab_whole (t := t) (d := d) (by omega) (by omega)
        have hp := pow_pos2 e
        have hneg : t * 2 ^ e ≤ -1 * 2 ^ e := Int.mul_le_mul_of_nonneg_right (by omega) (by omega)
        have hn := mk_le e (t * 2 ^ e + 1)
        have hsg := (mk_sign (a := t * 2 ^ e + 1) (e := e))
        refine .neg _ q ?_ (fun l hl => ?_) ?_
        · rcases Int.lt_or_le 0 (mk (t * 2 ^ e + 1) e).1 with z | z
          · have := hsg.1.mp z
            omega
          · exact z
        · rcases Int.lt_or_le (-(d : Int)) t with z | z
          · obtain ⟨e', _, q'⟩ := low_whole (t := t) (d := d) (by omega) (by omega)
            have hp' := pow_pos2 e'
            have hneg' : t * 2 ^ e' ≤ -1 * 2 ^ e' := Int.mul_le_mul_of_nonneg_right (by omega) (by omega)
            rw [q'] at hl; cases hl
            refine ⟨mk_sign.2.mpr (by omega), ?_⟩
            have hn' := mk_le e' (t * 2 ^ e' - 1)
            rw [ltD_sc (N := e') hn' (by show 0 ≤ e'; omega), mk_sc e' _ (Nat.le_refl _), Nat.sub_self, Int.pow_zero, Int.mul_one]
            show _ < t * 2 ^ (e' - 0)
            rw [Nat.sub_zero]; omega
          · rw [low_out (by show t ≤ -(d : Int) * 2 ^ 0; omega)] at hl; cases hl
        · have hS := mk_sc (N := e) e (t * 2 ^ e + 1) (Nat.le_refl _)
          rw [Nat.sub_self, Int.pow_zero, Int.mul_one] at hS
          generalize mk (t * 2 ^ e + 1) e = H at *
          have : -H.1 / 2 ^ H.2 = -t - 1 := by
            refine whole_sc (N := e) (x := (-H.1, H.2)) hn ?_ ?_
            · rw [sc_neg]
              show _ ≤ - sc e H
              rw [hS, Int.sub_mul, Int.neg_mul]; omega
            · rw [sc_neg]
              show - sc e H < _
              rw [hS, show -t - 1 + 1 = -t by omega, Int.neg_mul]; omega
          rw [this]
          show (t, 0) = (_, 0)
          congr 1
          omega
      · -- above 0
        obtain ⟨e, _, q⟩ := low_whole (t := t) (d := d) (by omega) (by omega)
        have hp := pow_pos2 e
        have hpos : 1 * 2 ^ e ≤ t * 2 ^ e := Int.mul_le_mul_of_nonneg_right (by omega) (by omega)
        have hn := mk_le e (t * 2 ^ e - 1)
        have hsg := (mk_sign (a := t * 2 ^ e - 1) (e := e))
        refine .pos _ q ?_ ?_ (fun l hl => ?_)
        · rcases Int.lt_or_le (mk (t * 2 ^ e - 1) e).1 0 with z | z
          · have := hsg.2.mp z
            omega
          · exact z
        · have hS := mk_sc (N := e) e (t * 2 ^ e - 1) (Nat.le_refl _)
          rw [Nat.sub_self, Int.pow_zero, Int.mul_one] at hS
          generalize mk (t * 2 ^ e - 1) e = L at *
          have : L.1 / 2 ^ L.2 = t - 1 := by
            refine whole_sc (N := e) (x := L) hn ?_ ?_
            · rw [hS, Int.sub_mul]; omega
            · rw [hS, show t - 1 + 1 = t by omega]; omega
          rw [this]
          show (t, 0) = (_, 0)
          congr 1
          omega
        · rcases Int.lt_or_le t d with z | z
          · obtain ⟨e', _, q'⟩ := ab_whole (t := t) (d := d) (by omega) (by omega)
            rw [q'] at hl; cases hl
            have hn' := mk_le e' (t * 2 ^ e' + 1)
            rw [ltD_sc (N := e') (by show 0 ≤ e'; omega) hn', mk_sc e' _ (Nat.le_refl _), Nat.sub_self, Int.pow_zero, Int.mul_one]
            show t * 2 ^ (e' - 0) < _
            rw [Nat.sub_zero]; omega
          · rw [ab_out (by show ¬ t < (d : Int) * 2 ^ 0; omega)] at hl; cases hl
  · have ho := rd_odd rd hm
    rcases side (d := d) ho hm with ⟨h1, h2, _⟩ | ⟨_, _, _, h3⟩ | ⟨_, h3⟩
    · obtain ⟨e, he, q1, q2⟩ := both_in ho hm h1 h2
      rw [day_odd hm] at h
      obtain ⟨N, w, hM, hw1, hw2⟩ := mid_few (e := e) ho hm (by omega)
      exact .mid N _ _ w q2 q1 hM hw1 hw2
    · omega
    · omega
/-- more days than there are -/
inductive Many (x : Int × Nat) (d : Nat) : Prop
  | both (a w : Int) (e : Nat) : e < x.2 → lowN x d = some (mk a e) → ab x d = some (mk (a + 1) e) → w * 2 ^ e ≤ a → a + 1 ≤ (w + 1) * 2 ^ e → w = x.1 / 2 ^ x.2 → dayI (2 * a + 1, e + 1) = d + 1 → Many x d
  | up : lowN x d = some ((d : Int), 0) → ab x d = none → Many x d
  | down : lowN x d = none → ab x d = some (-(d : Int), 0) → Many x d
theorem nb_many {x : Int × Nat} {d : Nat} (rd : Rd0 x) (h : (d : Int) < dayI x) : Many x d := by
  obtain ⟨t, m⟩ := x
  rcases Nat.eq_zero_or_pos m with hm | hm
  · subst hm
    rw [day_whole] at h
    unfold absI at h
    split at h
    · exact .down (low_out (by show t ≤ -(d : Int) * 2 ^ 0; omega)) (ab_far (by show t < -(d : Int) * 2 ^ 0; omega))
    · exact .up (low_far (by show (d : Int) * 2 ^ 0 < t; omega)) (ab_out (by show ¬ t < (d : Int) * 2 ^ 0; omega))
  · have ho := rd_odd rd hm
    rcases side (d := d) ho hm with ⟨h1, h2, _⟩ | ⟨h1, _, h2, h3⟩ | ⟨h1, h3⟩
    · obtain ⟨e, he, q1, q2⟩ := both_in ho hm h1 h2
      rw [day_odd hm] at h
      obtain ⟨a, a1, a2, a3, a4, _, _⟩ := mid_many (m := m) (e := e) ho (by omega)
      rw [a1] at q2
      rw [a2] at q1
      refine .both a (t / 2 ^ m) e (by show e < m; omega) q2 q1 a3 a4 rfl ?_
      have : (2 * a + 1) / 2 ^ (e + 1) = t / 2 ^ m := by
        refine whole_sc (N := e + 1) (x := (2 * a + 1, e + 1)) (Nat.le_refl _) ?_ ?_
        · show _ ≤ (2 * a + 1) * 2 ^ (e + 1 - (e + 1))
          rw [Nat.sub_self, Int.pow_zero, pow_succ2, show t / 2 ^ m * (2 * 2 ^ e) = 2 * (t / 2 ^ m * 2 ^ e) by grind]; omega
        · show (2 * a + 1) * 2 ^ (e + 1 - (e + 1)) < _
          rw [Nat.sub_self, Int.pow_zero, pow_succ2, show (t / 2 ^ m + 1) * (2 * 2 ^ e) = 2 * ((t / 2 ^ m + 1) * 2 ^ e) by grind]; omega
      rw [day_odd (by omega), this]
      omega
    · exact .up (low_far h2) (ab_out h1)
    · exact .down (low_out (by omega)) (ab_far h1)
theorem simp_up (d : Nat) : Simp (some ((d : Int), 0)) none ((d : Int) + 1, 0) := .pos _ rfl (by show (0 : Int) ≤ d; omega) (by show _ = ((d : Int) / 2 ^ 0 + 1, 0); rw [Int.pow_zero, Int.ediv_one]) (fun _ z => by cases z)
theorem simp_down (d : Nat) : Simp none (some (-(d : Int), 0)) (0 - (d : Int) - 1, 0) := .neg _ rfl (by show -(d : Int) ≤ 0; omega) (fun _ z => by cases z) (by
  show _ = (-(- -(d : Int) / 2 ^ 0) - 1, 0)
  rw [Int.pow_zero, Int.ediv_one, Int.neg_neg, Int.zero_sub])
theorem simp_both {a w : Int} {e : Nat} (h1 : w * 2 ^ e ≤ a) (h2 : a + 1 ≤ (w + 1) * 2 ^ e) : Simp (some (mk a e)) (some (mk (a + 1) e)) (2 * a + 1, e + 1) :=
  let ⟨q1, q2, q3⟩ := mid_grid h1 h2
  .mid (e + 1) _ _ w rfl rfl q1 q2 q3
/-- parents are the next ones of a day less -/
theorem parents_next {x : Int × Nat} {d : Nat} (rd : Rd0 x) (h : dayI x = d + 1) : parD x = (lowN x d, ab x d) := by
  obtain ⟨t, m⟩ := x
  rcases Nat.eq_zero_or_pos m with hm | hm
  · subst hm
    rw [day_whole] at h
    unfold absI at h
    unfold parD
    dsimp only
    rw [if_neg (by omega)]
    split at h
    · rw [low_out (by show t ≤ -(d : Int) * 2 ^ 0; omega), ab_far (by show t < -(d : Int) * 2 ^ 0; omega), if_neg (by omega), if_neg (by omega)]
      congr 3
      omega
    · rw [low_far (by show (d : Int) * 2 ^ 0 < t; omega), ab_out (by show ¬ t < (d : Int) * 2 ^ 0; omega), if_neg (by omega), if_pos (by omega)]
      congr 3
      omega
  · have ho := rd_odd rd hm
    unfold parD
    dsimp only
    rw [if_pos hm]
    rcases side (d := d) ho hm with ⟨h1, h2, _⟩ | ⟨_, _, h2, h3⟩ | ⟨h1, h3⟩
    · obtain ⟨e, he, q1, q2⟩ := both_in ho hm h1 h2
      rw [day_odd hm] at h
      obtain ⟨j, rfl⟩ : ∃ j, m = j + 1 := ⟨m - 1, by omega⟩
      obtain rfl : e = j := by omega
      have hdiv : ∀ s : Int, s * 2 ^ e / 2 ^ (e + 1) = s / 2 := fun s => by
        rw [pow_succ2]
        exact Int.mul_ediv_mul_of_pos_left _ _ (pow_pos2 e)
      rw [q1, q2, hdiv, hdiv, mk_even (by omega), mk_even (by omega)]
      congr 3 <;> omega
    all_goals
      exfalso
      rw [day_odd hm] at h
      have hp := pow_pos2 m
    · have hw2 : (d : Int) ≤ t / 2 ^ m := (Int.le_ediv_iff_mul_le hp).mpr (by omega)
      revert h
      unfold maxI absI; split <;> split <;> split <;> omega
    · have hw1 : t / 2 ^ m < -d := Int.ediv_lt_of_lt_mul hp (by omega)
      revert h
      unfold maxI absI; split <;> split <;> split <;> omega
/-! ### tuples of the module -/
def GT (c : Cfg) (x : Str) (d : D) : Prop := ∃ u v, c.mg x = some u ∧ RelV v u ∧ ∀ H, Rep c.K H d v
theorem gt_tup {c : Cfg} {x : Str} {a : Addr} {o : Obj} {its : Array Value} {n : Nat} {ds : List D} {xs : List V} (hm : c.mg x = some (.ref a)) (hl : c.K.lookup a = some o) (h1 : o.cls = .type "tuple") (h2 : o.data = .seq its n) (h3 : its.size ≤ sizeLine) (h4 : Vals xs its.toList) (h5 : ∀ H, Reps c.K H ds xs) : GT c x (.tup ds) :=
  ⟨_, .ref a, hm, rfl, fun H => rep_tup.mpr ⟨a, xs, rfl, .inr ⟨o, its, n, hl, h1, h2, h3, h4⟩, h5 H⟩⟩
section
variable {ι : Type} {Xs : ι → Cx} {c : Cfg} {kk : Nat} {N : List Str} {δ : List (Option AV)} {μ : List M} {k : AV → List M → Prop} {x : Str} {pos : Pos}
theorem se_gD {d : D} (ck : COk c kk N Xs) (hm : GT c x d) (h : k (.im d) μ) (hg : ∀ i, Gl (Xs i) x) (hd : (x == ("__debug__" : Str)) = false) : SE Xs c.K (.Name x pos) δ μ k :=
  let ⟨_, _, h1, h2, h3⟩ := hm
  se_glob ck h1 h2 h3 h hg hd
theorem op_isN_dy {y : Int × Nat} (h : k (.im (.bl false)) μ) : OP Xs c.K (compareOp .Is) (.im (dy y)) (.im .non) μ k := op_isNone h
theorem op_notN_dy {y : Int × Nat} (h : k (.im (.bl true)) μ) : OP Xs c.K (compareOp .IsNot) (.im (dy y)) (.im .non) μ k := op_isNotNone h
end
local macro_rules | `(tactic| walk_at "al con") => `(tactic| ((with_reducible refine' se_gD ?ck ?hm ?h ?hg ?hd); (case ck => assumption); (case hm => assumption); (case hg => exact fun _ => rfl); (case hd => decide)))
local macro_rules | `(tactic| walk_at "al op") => `(tactic| with_reducible refine' op_isN_dy ?_)
local macro_rules | `(tactic| walk_at "al op") => `(tactic| with_reducible refine' op_notN_dy ?_)
local macro_rules | `(tactic| walk_at "al con") => `(tactic| ((with_reducible refine' se_gD ?ck ?hm ?h ?hg ?hd); (case ck => assumption); (case hm => assumption); (case hg => exact fun _ => rfl); (case hd => decide)))
local macro_rules | `(tactic| walk_at "al op") => `(tactic| with_reducible refine' op_isN_dy ?_)
local macro_rules | `(tactic| walk_at "al op") => `(tactic| with_reducible refine' op_notN_dy ?_)
section
variable {c : Cfg} {f : Addr} {fd : FuncData} {μ : List M} {k : AV → List M → Prop}
def dyNot : D := .tup [.int 0, .int 1]
theorem ltD_0 {x : Int × Nat} : ltD x (0, 0) ↔ x.1 < 0 := by rw [ltD_whole, Int.zero_mul]
theorem ltD_0' {x : Int × Nat} : ltD (0, 0) x ↔ 0 < x.1 := by unfold ltD; rw [Int.zero_mul, Int.pow_zero, Int.mul_one]
theorem small0 : DyS (0, 0) := ⟨show Builtin.Int.intBits 0 ≤ 60000000 by decide, by show 0 < 60000000; decide⟩
def OkO (o : Option (Int × Nat)) : Prop := ∀ x, o = some x → DyOk x
theorem uLess0 {x : Int × Nat} {d : D} (e : d = dy (0, 0)) (hx : DyOk x) (h : k (.im (.bl (decide (x.1 < 0)))) μ) : [AV.im (dy x), AV.im d].length = 2 ∧ CL cLess [.im (dy x), .im d] μ k := by
  subst e
  refine uLess hx.small small0 ?_
  rw [show decide (ltD x (0, 0)) = decide (x.1 < 0) from by simp only [ltD_0]]
  exact h
theorem uLess1 {x : Int × Nat} {d : D} (e : d = dy (0, 0)) (hx : DyOk x) (h : k (.im (.bl (decide (0 < x.1)))) μ) : [AV.im d, AV.im (dy x)].length = 2 ∧ CL cLess [.im d, .im (dy x)] μ k := by
  subst e
  refine uLess small0 hx.small ?_
  rw [show decide (ltD (0, 0) x) = decide (0 < x.1) from by simp only [ltD_0']]
  exact h
theorem fl_le {a : Int} {p : Nat} (h1 : -1000000000000000000000000000000 ≤ a) (h2 : a ≤ 1000000000000000000000000000000) : -1000000000000000000000000000000 ≤ a / 2 ^ p ∧ a / 2 ^ p ≤ 1000000000000000000000000000000 := by
  have hp := pow_pos2 p
  constructor
  · refine (Int.le_ediv_iff_mul_le hp).mpr ?_
    have : (1 : Int) ≤ 2 ^ p := by omega
    have := Int.mul_le_mul_of_nonneg_left this (show (0 : Int) ≤ 1000000000000000000000000000000 by decide)
    rw [Int.neg_mul]
    omega
  · rcases Int.lt_or_le a 0 with z | z
    · have := Int.ediv_neg_of_neg_of_pos z hp
      omega
    · have := Int.ediv_le_self (2 ^ p) z
      omega
theorem sm_whole {a : Int} {p : Nat} (h : DyOk (a, p)) : Sm 60000000 (a / 2 ^ p + 1) := by
  have l : -1000000000000000000000000000000 ≤ a := h.lo
  have u : a ≤ 1000000000000000000000000000000 := h.hi
  obtain ⟨h1, h2⟩ := fl_le (p := p) l u
  exact sm_mono (m := 110) (by decide) (sm_of (by omega) (by omega))
theorem sm_whole' {a : Int} {p : Nat} (h : DyOk (a, p)) : Sm 60000000 (-(-a / 2 ^ p) - 1) := by
  have l : -1000000000000000000000000000000 ≤ a := h.lo
  have u : a ≤ 1000000000000000000000000000000 := h.hi
  obtain ⟨h1, h2⟩ := fl_le (a := -a) (p := p) (by omega) (by omega)
  exact sm_mono (m := 110) (by decide) (sm_of (by omega) (by omega))
/-- a call whose answer is one of some -/
theorem clP {as : List AV} {F : Ct} {ar : Nat} (P : D → Prop) (hl : as.length = ar) (ha : Paired (AsC []) as as) (hF : ∀ post : AV → List M → Prop, (∀ d, P d → post (.im d) []) → F as [] post) (h : ∀ d, P d → k (.im d) μ) : as.length = ar ∧ CL F as μ k :=
  ⟨hl, cl_pure ha (hF _ fun d hd => by show k (.im d) (upds μ [] []); rw [upds_nil, List.append_nil]; exact h d hd)⟩
abbrev sWhole : Stmt := topS 31
theorem scWhole : FnScope ["low", "high", "found"] ["low", "high"] (defScope sWhole) := ⟨rfl, rfl, rfl, by decide +kernel, rfl, by decide +kernel, by decide +kernel⟩
def MidAll (lo hi : Option (Int × Nat)) (y : Int × Nat) : Prop := ∃ (N : Nat) (l h : Int × Nat) (w : Int), lo = some l ∧ hi = some h ∧ Mid N l h y ∧ w * 2 ^ N ≤ sc N l ∧ sc N h ≤ (w + 1) * 2 ^ N
def cWhole : Ct := fun as μ post => μ = [] ∧ ∃ lo hi y, OkO lo ∧ OkO hi ∧ Simp lo hi y ∧ as = [.im (optD lo), .im (optD hi)] ∧ post (.im (dy y)) [] ∧ (MidAll lo hi y → post (.im .non) [])
theorem okWhole (g : GT c "NOTHING" (dy (0, 0))) (hL : Callee c "is_less_dyadic" 1 2 cLess) (F : Fun c.K "simplest_whole" "simplest_whole" sWhole f fd) : FnOk c.P c.w c.K c.mg c.base CX0 2 f fd ["low", "high"] (spOf c.K cWhole 2) := by
  refine fn_abs F scWhole (fun as μ post h => by obtain ⟨rfl, lo, hi, y, _, _, _, rfl, _⟩ := h; rfl) ?_
  intro cdv A outer s H EX as μ post hF ck
  obtain ⟨rfl, lo, hi, y, ol, oh, hS, rfl, hq, hq2⟩ := hF
  cases hS with
  | zero h1 h2 h3 =>
    subst h3
    cases lo with
    | none =>
      cases hi with
      | none =>
        show SS _ _ _ (startA _ [.im .non, .im .non]) _ _
        walk_at "al"
        exact rt_im rfl hq
      | some h =>
        have hp := h2 h rfl
        show SS _ _ _ (startA _ [.im .non, .im (dy h)]) _ _
        walk_at "al"
        refine uLess1 rfl (oh h rfl) ?_
        rw [decide_eq_true hp]
        walk_at "al"
        exact rt_im rfl hq
    | some l =>
      have hn := h1 l rfl
      cases hi with
      | none =>
        show SS _ _ _ (startA _ [.im (dy l), .im .non]) _ _
        walk_at "al"
        refine uLess0 rfl (ol l rfl) ?_
        rw [decide_eq_true hn]
        walk_at "al"
        exact rt_im rfl hq
      | some h =>
        have hp := h2 h rfl
        show SS _ _ _ (startA _ [.im (dy l), .im (dy h)]) _ _
        walk_at "al"
        refine uLess0 rfl (ol l rfl) ?_
        rw [decide_eq_true hn]
        walk_at "al"
        refine uLess1 rfl (oh h rfl) ?_
        rw [decide_eq_true hp]
        walk_at "al"
        exact rt_im rfl hq
  | pos l e1 h1 h2 h3 =>
    subst e1
    have okl := ol l rfl
    have hn : ¬ l.1 < 0 := by omega
    obtain ⟨a, p⟩ := l
    have hp := okl.k
    have hc : CDivW a (2 ^ p) := cdw (by have : p ≤ 64 := hp; omega)
    have hy : DyS y := by
      rw [h2]
      exact ⟨sm_whole okl, by show 0 < 60000000; decide⟩
    subst h2
    cases hi with
    | none =>
      show SS _ _ _ (startA _ [.im (.tup [.int a, .int (2 ^ p)]), .im .non]) _ _
      walk_at "al"
      refine uLess0 rfl okl ?_
      rw [decide_eq_false hn]
      walk_at "al"
      refine ss_nil ?_
      walk_at "al"
      refine uLess0 rfl okl ?_
      rw [decide_eq_false hn]
      walk_at "al"
      exact rt_im rfl hq
    | some h =>
      have okh := oh h rfl
      show SS _ _ _ (startA _ [.im (.tup [.int a, .int (2 ^ p)]), .im (dy h)]) _ _
      walk_at "al"
      refine uLess0 rfl okl ?_
      rw [decide_eq_false hn]
      walk_at "al"
      refine ss_nil ?_
      walk_at "al"
      refine uLess0 rfl okl ?_
      rw [decide_eq_false hn]
      walk_at "al"
      refine uLess (x := (a / 2 ^ p + 1, 0)) hy okh.small ?_
      rw [decide_eq_true (h3 h rfl)]
      walk_at "al"
      exact rt_im rfl hq
  | neg h e1 h1 h2 h3 =>
    subst e1
    have okh := oh h rfl
    have hn : ¬ 0 < h.1 := by omega
    obtain ⟨a, p⟩ := h
    have hp := okh.k
    have hc : CDivW (-a) (2 ^ p) := cdw (by have : p ≤ 64 := hp; omega)
    have hy : DyS y := by
      rw [h3]
      exact ⟨sm_whole' okh, by show 0 < 60000000; decide⟩
    subst h3
    cases lo with
    | none =>
      show SS _ _ _ (startA _ [.im .non, .im (.tup [.int a, .int (2 ^ p)])]) _ _
      walk_at "al"
      refine uLess1 rfl okh ?_
      rw [decide_eq_false hn]
      walk_at "al"
      refine ss_nil ?_
      walk_at "al"
      refine ss_nil ?_
      walk_at "al"
      exact rt_im rfl hq
    | some l =>
      have okl := ol l rfl
      obtain ⟨hl1, hl2⟩ := h2 l rfl
      show SS _ _ _ (startA _ [.im (dy l), .im (.tup [.int a, .int (2 ^ p)])]) _ _
      walk_at "al"
      refine uLess0 rfl okl ?_
      rw [decide_eq_true hl1]
      walk_at "al"
      refine uLess1 rfl okh ?_
      rw [decide_eq_false hn]
      walk_at "al"
      refine ss_nil ?_
      walk_at "al"
      refine uLess0 rfl okl ?_
      rw [decide_eq_true hl1]
      walk_at "al"
      refine ss_nil ?_
      walk_at "al"
      refine uLess (x := l) (y := (-(-a / 2 ^ p) - 1, 0)) okl.small hy ?_
      rw [decide_eq_true hl2]
      walk_at "al"
      exact rt_im rfl hq
  | mid N l h w e1 e2 hM hw1 hw2 =>
    have hq3 := hq2 ⟨N, l, h, w, e1, e2, hM, hw1, hw2⟩
    subst e1 e2
    have okl := ol l rfl
    have okh := oh h rfl
    obtain ⟨n1, odd, nl, nh, ny, Ma, Mb, Mc, Md⟩ := hM
    obtain ⟨a, p⟩ := l
    obtain ⟨b, q⟩ := h
    have hLs : DyS (a / 2 ^ p + 1, 0) := ⟨sm_whole okl, by show 0 < 60000000; decide⟩
    have hHs : DyS (-(-b / 2 ^ q) - 1, 0) := ⟨sm_whole' okh, by show 0 < 60000000; decide⟩
    have hc : CDivW a (2 ^ p) := cdw (by have : p ≤ 64 := okl.k; omega)
    have hc2 : CDivW (-b) (2 ^ q) := cdw (by have : q ≤ 64 := okh.k; omega)
    have hpN := pow_pos2 N
    have fl : a / 2 ^ p = w := whole_sc (N := N) (x := (a, p)) nl hw1 (by omega)
    have fh : -b / 2 ^ q = -w - 1 := whole_sc (N := N) (x := (-b, q)) nh (by rw [sc_neg]; rw [show (-w - 1) * 2 ^ N = -((w + 1) * 2 ^ N) by grind]; omega) (by rw [sc_neg, show (-w - 1 + 1) * 2 ^ N = -(w * 2 ^ N) by grind]; omega)
    have t1 : ¬ ltD (a / 2 ^ p + 1, 0) (b, q) := by
      rw [ltD_sc (N := N) (Nat.zero_le N) nh, fl]
      show ¬ (w + 1) * 2 ^ (N - 0) < _
      rw [Nat.sub_zero]; omega
    have t2 : ¬ ltD (a, p) (-(-b / 2 ^ q) - 1, 0) := by
      rw [ltD_sc (N := N) nl (Nat.zero_le N), fh]
      show ¬ _ < (-(-w - 1) - 1) * 2 ^ (N - 0)
      rw [Nat.sub_zero, show -(-w - 1) - 1 = w by omega]; omega
    show SS _ _ _ (startA _ [.im (.tup [.int a, .int (2 ^ p)]), .im (.tup [.int b, .int (2 ^ q)])]) _ _
    by_cases hn : a < 0
    · have hb : ¬ 0 < b := by
        intro hb
        have h1 : sc N (a, p) < 0 := Int.mul_neg_of_neg_of_pos hn (pow_pos2 _)
        have h2 : 0 < sc N (b, q) := Int.mul_pos hb (pow_pos2 _)
        have h3 : w * 2 ^ N < 0 := by omega
        have h4 : 0 < (w + 1) * 2 ^ N := by omega
        rcases Int.lt_or_le w 0 with z | z
        · have := Int.mul_le_mul_of_nonneg_right (show w + 1 ≤ 0 by omega) (Int.le_of_lt hpN)
          rw [Int.zero_mul] at this
          omega
        · have := Int.mul_nonneg z (Int.le_of_lt hpN)
          omega
      walk_at "al"
      refine uLess0 (x := (a, p)) rfl okl ?_
      rw [decide_eq_true hn]
      walk_at "al"
      refine uLess1 (x := (b, q)) rfl okh ?_
      rw [decide_eq_false hb]
      walk_at "al"
      refine ss_nil ?_
      walk_at "al"
      refine uLess0 (x := (a, p)) rfl okl ?_
      rw [decide_eq_true hn]
      walk_at "al"
      refine ss_nil ?_
      walk_at "al"
      refine uLess (x := (a, p)) (y := (-(-b / 2 ^ q) - 1, 0)) okl.small hHs ?_
      rw [decide_eq_false t2]
      walk_at "al"
      exact rt_im rfl hq3
    · walk_at "al"
      refine uLess0 (x := (a, p)) rfl okl ?_
      rw [decide_eq_false hn]
      walk_at "al"
      refine ss_nil ?_
      walk_at "al"
      refine uLess0 (x := (a, p)) rfl okl ?_
      rw [decide_eq_false hn]
      walk_at "al"
      refine uLess (x := (a / 2 ^ p + 1, 0)) (y := (b, q)) hLs okh.small ?_
      rw [decide_eq_false t1]
      walk_at "al"
      exact rt_im rfl hq3
theorem uWhole {d1 d2 : D} {lo hi : Option (Int × Nat)} {y : Int × Nat} (e1 : d1 = optD lo) (e2 : d2 = optD hi) (ol : OkO lo) (oh : OkO hi) (hS : Simp lo hi y) (h : k (.im (dy y)) μ) (h2 : MidAll lo hi y → k (.im .non) μ) : [AV.im d1, AV.im d2].length = 2 ∧ CL cWhole [.im d1, .im d2] μ k := by
  subst e1 e2
  exact clP (fun d => d = dy y ∨ (MidAll lo hi y ∧ d = .non)) rfl (.cons rfl (.cons rfl .nil)) (fun post hp => ⟨rfl, lo, hi, y, ol, oh, hS, rfl, hp _ (.inl rfl), fun m => hp _ (.inr ⟨m, rfl⟩)⟩) (fun d hd => by
    rcases hd with rfl | ⟨m, rfl⟩
    · exact h
    · exact h2 m)
end
section
variable {c : Cfg} {f : Addr} {fd : FuncData} {μ : List M} {k : AV → List M → Prop}
/-! ### simplest_by -/
theorem DyS.of {t : Int} {n : Nat} (h1 : -(2 ^ 300) < t) (h2 : t < 2 ^ 300) (h3 : n ≤ 300) : DyS (t, n) := ⟨sm_mono (m := 300) (by decide) (sm_of h1 h2), by show n < 60000000; omega⟩
theorem mk_bound {a B : Int} {j : Nat} (h1 : -B ≤ a) (h2 : a ≤ B) : -B ≤ (mk a j).1 ∧ (mk a j).1 ≤ B := by
  have h := mk_sc (N := j) j a (Nat.le_refl _)
  rw [Nat.sub_self, Int.pow_zero, Int.mul_one] at h
  unfold sc at h
  have hp := pow_pos2 (j - (mk a j).2)
  generalize (2 : Int) ^ (j - (mk a j).2) = P at *
  generalize (mk a j).1 = b at *
  rcases Int.lt_or_le b 0 with z | z
  · have := Int.mul_le_mul_of_nonneg_left (show 1 ≤ P by omega) (show 0 ≤ -b by omega)
    rw [Int.neg_mul, Int.neg_mul] at this
    constructor <;> omega
  · have := Int.mul_le_mul_of_nonneg_left (show 1 ≤ P by omega) z
    constructor <;> omega
theorem pow_70 {j : Nat} (h : j ≤ 65) : (2 : Int) ^ j ≤ 36893488147419103232 := by
  have := pow_le2 h
  simpa using this
abbrev sSBy : Stmt := topS 32
theorem scSBy : FnScope ["low", "high", "found", "below", "lower", "upper", "middle"] ["low", "high"] (defScope sSBy) := ⟨rfl, rfl, rfl, by decide +kernel, rfl, by decide +kernel, by decide +kernel⟩
def cSBy : Ct := fun as μ post => μ = [] ∧ ∃ lo hi y, OkO lo ∧ OkO hi ∧ y.2 ≤ 65 ∧ Simp lo hi y ∧ as = [.im (optD lo), .im (optD hi)] ∧ post (.im (dy y)) []
theorem okSBy (hW : Callee c "simplest_whole" 2 2 cWhole) (hP : Callee c "plus_dyadic" 2 2 cPlus) (hH : Callee c "half_dyadic" 2 1 cHalf) (hL : Callee c "is_less_dyadic" 1 2 cLess) (F : Fun c.K "simplest_by" "simplest_by" sSBy f fd) : FnOk c.P c.w c.K c.mg c.base CX0 3 f fd ["low", "high"] (spOf c.K cSBy 2) := by
  refine fn_abs F scSBy (fun as μ post h => by obtain ⟨rfl, lo, hi, y, _, _, _, _, rfl, _⟩ := h; rfl) ?_
  intro cdv A outer s H EX as μ post hF ck
  obtain ⟨rfl, lo, hi, y, ol, oh, hy, hS, rfl, hq⟩ := hF
  walk_at "al"
  refine uWhole rfl rfl ol oh hS ?_ ?_
  · walk_at "al"
    exact rt_im rfl hq
  · rintro ⟨N, l, h, w, e1, e2, hM, hw1, hw2⟩
    subst e1 e2
    have okl := ol l rfl
    have okh := oh h rfl
    obtain ⟨a0, p⟩ := l
    have hc : CDivW a0 (2 ^ p) := cdw (by have : p ≤ 64 := okl.k; omega)
    have fb := fl_le (a := a0) (p := p) okl.lo okl.hi
    have hpN := pow_pos2 N
    have hMM := hM
    obtain ⟨n1, odd, nl, nh, ny, Ma, Mb, Mc, Md⟩ := hM
    have fl : a0 / 2 ^ p = w := whole_sc (N := N) (x := (a0, p)) nl hw1 (by omega)
    rw [fl] at fb
    show SS _ _ _ [some (.im (.tup [.int a0, .int (2 ^ p)])), some (.im (dy h)), some (.im .non), none, none, none, none] _ _
    walk_at "al"
    refine ss_nil ?_
    walk_at "al"
    rw [fl]
    have hs0 : DyS (w, 0) := .of (by omega) (by omega) (by omega)
    refine uPlus (x := (w, 0)) (y := (1, 0)) hs0 (.of (by decide) (by decide) (by decide)) ?_
    walk_at "al e"
    have ep : plus (w, 0) (1, 0) = mk (w + 1) 0 := by
      show mk (w * 2 ^ 0 + 1 * 2 ^ 0) 0 = _
      rw [Int.pow_zero, Int.mul_one, Int.mul_one]
    rw [ep]
    refine ss_cons ?_
    refine s1_while (P := Int × Nat) (fun q => [some (.im (dy (a0, p))), some (.im (dy h)), some (.im .non), none, some (.im (dy (mk q.1 q.2))), some (.im (dy (mk (q.1 + 1) q.2))), none]) (fun _ => []) (fun q => Bis N y q.1 q.2) (fun q => y.2 - q.2) ck ⟨(w, 0), ⟨n1, by rw [Nat.sub_zero]; show w * 2 ^ N < _; omega, by rw [Nat.sub_zero]; show _ < (w + 1) * 2 ^ N; omega⟩, by walk_at "al fg", rfl⟩ (fun q hB => ?_)
    obtain ⟨a, j⟩ := q
    have hB : Bis N y a j := hB
    have hjy := hB.jn
    have hj65 : j ≤ 65 := by omega
    have hjN : j ≤ N := by omega
    have b1 : w * 2 ^ j < a + 1 := by
      have h1 := hB.hi
      rw [pow_split hjN, ← Int.mul_assoc] at hw1
      exact Int.lt_of_mul_lt_mul_right (show w * 2 ^ j * 2 ^ (N - j) < (a + 1) * 2 ^ (N - j) by omega) (Int.le_of_lt (pow_pos2 _))
    have b2 : a < (w + 1) * 2 ^ j := by
      have h1 := hB.lo
      rw [pow_split hjN, ← Int.mul_assoc (w + 1)] at hw2
      exact Int.lt_of_mul_lt_mul_right (show a * 2 ^ (N - j) < (w + 1) * 2 ^ j * 2 ^ (N - j) by omega) (Int.le_of_lt (pow_pos2 _))
    have hpj := pow_pos2 j
    have hpj2 := pow_70 hj65
    have b3 : -(1000000000000000000000000000000 * 36893488147419103232) ≤ w * 2 ^ j := by
      rcases Int.lt_or_le w 0 with z | z
      · have h1 := Int.mul_le_mul_of_nonneg_left hpj2 (show 0 ≤ -w by omega)
        rw [Int.neg_mul, Int.neg_mul] at h1
        omega
      · have := Int.mul_nonneg z (Int.le_of_lt hpj)
        omega
    have b4 : (w + 1) * 2 ^ j ≤ 1000000000000000000000000000001 * 36893488147419103232 := by
      rcases Int.lt_or_le (w + 1) 0 with z | z
      · have := Int.mul_neg_of_neg_of_pos z hpj
        omega
      · have h1 := Int.mul_le_mul_of_nonneg_left hpj2 z
        omega
    have hA := mk_bound (a := a) (B := 2000000000000000000000000000000 * 36893488147419103232) (j := j) (by omega) (by omega)
    have hA1 := mk_bound (a := a + 1) (B := 2000000000000000000000000000000 * 36893488147419103232) (j := j) (by omega) (by omega)
    have hL : DyS (mk a j) := .of (by omega) (by omega) (by have := mk_le j a; omega)
    have hU : DyS (mk (a + 1) j) := .of (by omega) (by omega) (by have := mk_le j (a + 1); omega)
    have hPl : DyS (plus (mk a j) (mk (a + 1) j)) := by
      rw [plus_grid]
      have hA2 := mk_bound (a := 2 * a + 1) (B := 5000000000000000000000000000000 * 36893488147419103232) (j := j) (by omega) (by omega)
      exact .of (by omega) (by omega) (by have := mk_le j (2 * a + 1); omega)
    have hMi : DyS (2 * a + 1, j + 1) := .of (by omega) (by omega) (by omega)
    obtain ⟨g1, g2, g3⟩ := bis_next hMM hB
    walk_at "al"
    refine uPlus hL hU ?_
    walk_at "al"
    refine uHalf hPl ?_
    rw [middle]
    walk_at "al"
    refine uLess (x := (a0, p)) (y := (2 * a + 1, j + 1)) okl.small hMi ?_
    walk_at "al"
    refine if_ndec (fun h1 => ?_) (fun h1 => ?_)
    · walk_at "al"
      have e1 : ((2 * a + 1, j + 1) : Int × Nat) = mk (2 * a + 1) (j + 1) := half_odd.symm
      have e2 : mk (a + 1) j = mk (2 * a + 1 + 1) (j + 1) := by
        rw [show 2 * a + 1 + 1 = 2 * (a + 1) by omega, mk_even (by omega)]; congr 1; omega
      refine ss_nil (ss_nil ⟨(2 * a + 1, j + 1), ⟨g1 h1, by show y.2 - (j + 1) < y.2 - j; omega⟩, ?_, rfl⟩)
      dsimp only
      rw [← e1, ← e2]
      walk_at "al fg"
    · walk_at "al"
      refine uLess (x := (2 * a + 1, j + 1)) (y := h) hMi okh.small ?_
      walk_at "al"
      refine if_ndec (fun h2 => ?_) (fun h2 => ?_)
      · walk_at "al"
        have e1 : ((2 * a + 1, j + 1) : Int × Nat) = mk (2 * a + 1) (j + 1) := half_odd.symm
        have e2 : mk a j = mk (2 * a) (j + 1) := by
          rw [mk_even (by omega)]; congr 1; omega
        refine ss_nil (ss_nil (ss_nil ⟨(2 * a, j + 1), ⟨g2 h1 h2, by show y.2 - (j + 1) < y.2 - j; omega⟩, ?_, rfl⟩))
        dsimp only
        rw [← e1, ← e2]
        walk_at "al fg"
      · rw [g3 h1 h2] at hq
        walk_at "al"
        exact rt_im rfl hq
theorem uSBy {d1 d2 : D} {lo hi : Option (Int × Nat)} {y : Int × Nat} (e1 : d1 = optD lo) (e2 : d2 = optD hi) (ol : OkO lo) (oh : OkO hi) (hy : y.2 ≤ 65) (hS : Simp lo hi y) (h : k (.im (dy y)) μ) : [AV.im d1, AV.im d2].length = 2 ∧ CL cSBy [.im d1, .im d2] μ k := by
  subst e1 e2
  exact clI _ rfl (.cons rfl (.cons rfl .nil)) (fun post hp => ⟨rfl, lo, hi, y, ol, oh, hy, hS, rfl, hp⟩) h
end
section
variable {c : Cfg} {f : Addr} {fd : FuncData} {μ : List M} {k : AV → List M → Prop}
/-! ### simplest_between, parents, neighbours -/
abbrev sNeedEnd : Stmt := topS 33
theorem scNeedEnd : FnScope ["end"] ["end"] (defScope sNeedEnd) := ⟨rfl, rfl, rfl, by decide +kernel, rfl, by decide +kernel, by decide +kernel⟩
def cNeedEnd : Ct := fun as μ post => μ = [] ∧ ∃ o, OkO o ∧ as = [.im (optD o)] ∧ post (.im (optD o)) []
theorem okNeedEnd (hN : Callee c "need_dyadic" 3 1 cNeedD) (F : Fun c.K "need_end" "need_end" sNeedEnd f fd) : FnOk c.P c.w c.K c.mg c.base CX0 4 f fd ["end"] (spOf c.K cNeedEnd 1) := by
  refine fn_abs F scNeedEnd (fun as μ post h => by obtain ⟨rfl, o, _, rfl, _⟩ := h; rfl) ?_
  intro cdv A outer s H EX as μ post hF ck
  obtain ⟨rfl, o, ho, rfl, hq⟩ := hF
  cases o with
  | none =>
    show SS _ _ _ (startA _ [.im .non]) _ _
    walk_at "al"
    exact rt_im rfl hq
  | some x =>
    show SS _ _ _ (startA _ [.im (dy x)]) _ _
    walk_at "al"
    refine uNeedD (ho x rfl) ?_
    exact rt_im rfl hq
theorem uNeedEnd {d : D} {o : Option (Int × Nat)} (e : d = optD o) (ho : OkO o) (h : k (.im d) μ) : [AV.im d].length = 1 ∧ CL cNeedEnd [.im d] μ k := by
  subst e
  exact clI _ rfl (.cons rfl .nil) (fun post hp => ⟨rfl, o, ho, rfl, hp⟩) h
abbrev sSBt : Stmt := topS 34
theorem scSBt : FnScope ["low", "high"] ["low", "high"] (defScope sSBt) := ⟨rfl, rfl, rfl, by decide +kernel, rfl, by decide +kernel, by decide +kernel⟩
def cSBt : Ct := fun as μ post => μ = [] ∧ ∃ lo hi y, OkO lo ∧ OkO hi ∧ y.2 ≤ 65 ∧ Simp lo hi y ∧ (∀ l h, lo = some l → hi = some h → ltD l h) ∧ as = [.im (optD lo), .im (optD hi)] ∧ post (.im (dy y)) []
theorem okSBt (hE : Callee c "need_end" 4 1 cNeedEnd) (hS : Callee c "simplest_by" 3 2 cSBy) (hL : Callee c "is_less_dyadic" 1 2 cLess) (F : Fun c.K "simplest_between" "simplest_between" sSBt f fd) : FnOk c.P c.w c.K c.mg c.base CX0 5 f fd ["low", "high"] (spOf c.K cSBt 2) := by
  refine fn_abs F scSBt (fun as μ post h => by obtain ⟨rfl, lo, hi, y, _, _, _, _, _, rfl, _⟩ := h; rfl) ?_
  intro cdv A outer s H EX as μ post hF ck
  obtain ⟨rfl, lo, hi, y, ol, oh, hy, hS', hlt, rfl, hq⟩ := hF
  walk_at "al"
  refine uNeedEnd rfl ol ?_
  walk_at "al"
  refine uNeedEnd rfl oh ?_
  cases lo with
  | none =>
    show SS _ _ _ (startA _ [.im .non, .im (optD hi)]) _ _
    walk_at "al"
    refine ss_nil ?_
    walk_at "al"
    refine uSBy (lo := none) rfl rfl ol oh hy hS' ?_
    exact rt_im rfl hq
  | some l =>
    cases hi with
    | none =>
      show SS _ _ _ (startA _ [.im (dy l), .im .non]) _ _
      walk_at "al"
      refine ss_nil ?_
      walk_at "al"
      refine uSBy (lo := some l) (hi := none) rfl rfl ol oh hy hS' ?_
      exact rt_im rfl hq
    | some h =>
      show SS _ _ _ (startA _ [.im (dy l), .im (dy h)]) _ _
      walk_at "al"
      refine uLess (ol l rfl).small (oh h rfl).small ?_
      rw [decide_eq_true (hlt l h rfl rfl)]
      walk_at "al"
      refine ss_nil ?_
      walk_at "al"
      refine uSBy (lo := some l) (hi := some h) rfl rfl ol oh hy hS' ?_
      exact rt_im rfl hq
theorem uSBt {d1 d2 : D} {lo hi : Option (Int × Nat)} {y : Int × Nat} (e1 : d1 = optD lo) (e2 : d2 = optD hi) (ol : OkO lo) (oh : OkO hi) (hy : y.2 ≤ 65) (hS : Simp lo hi y) (hlt : ∀ l h, lo = some l → hi = some h → ltD l h) (h : k (.im (dy y)) μ) : [AV.im d1, AV.im d2].length = 2 ∧ CL cSBt [.im d1, .im d2] μ k := by
  subst e1 e2
  exact clI _ rfl (.cons rfl (.cons rfl .nil)) (fun post hp => ⟨rfl, lo, hi, y, ol, oh, hy, hS, hlt, rfl, hp⟩) h
def parT (p : Option (Int × Nat) × Option (Int × Nat)) : D := .tup [optD p.1, optD p.2]
abbrev sParBy : Stmt := topS 35
theorem scParBy : FnScope ["dyadic", "top", "bottom"] ["dyadic"] (defScope sParBy) := ⟨rfl, rfl, rfl, by decide +kernel, rfl, by decide +kernel, by decide +kernel⟩
def cParBy : Ct := fun as μ post => μ = [] ∧ ∃ x : Int × Nat, as = [.im (dy x)] ∧ post (.im (parT (parD x))) []
theorem okParBy (hM : Callee c "made_dyadic" 1 2 cMade) (F : Fun c.K "parents_by" "parents_by" sParBy f fd) : FnOk c.P c.w c.K c.mg c.base CX0 2 f fd ["dyadic"] (spOf c.K cParBy 1) := by
  refine fn_abs F scParBy (fun as μ post h => by obtain ⟨rfl, x, rfl, _⟩ := h; rfl) ?_
  intro cdv A outer s H EX as μ post hF ck
  obtain ⟨rfl, ⟨t, m⟩, rfl, hq⟩ := hF
  show SS _ _ _ (startA _ [.im (.tup [.int t, .int (2 ^ m)])]) _ _
  unfold parD at hq
  dsimp only at hq
  walk_at "al"
  refine if_dec (fun h1 => ?_) (fun h1 => ?_)
  · rw [pow_gt1] at h1
    rw [if_pos h1] at hq
    walk_at "al"
    refine uMade m rfl ?_
    walk_at "al"
    refine uMade m rfl ?_
    walk_at "al"
    exact rt_im rfl hq
  · rw [pow_gt1] at h1
    rw [if_neg h1] at hq
    obtain rfl : m = 0 := by omega
    refine ss_nil ?_
    walk_at "al"
    refine if_dec (fun h2 => ?_) (fun h2 => ?_)
    · rw [if_pos h2] at hq
      walk_at "al"
      exact rt_im rfl hq
    · rw [if_neg h2] at hq
      refine ss_nil ?_
      walk_at "al"
      refine if_dec (fun h3 => ?_) (fun h3 => ?_)
      · rw [if_pos h3] at hq
        walk_at "al"
        exact rt_im rfl hq
      · rw [if_neg h3] at hq
        walk_at "al"
        exact rt_im rfl hq
theorem uParBy {x : Int × Nat} (h : k (.im (parT (parD x))) μ) : [AV.im (dy x)].length = 1 ∧ CL cParBy [.im (dy x)] μ k :=
  clI _ rfl (.cons rfl .nil) (fun post hp => ⟨rfl, x, rfl, hp⟩) h
abbrev sParOf : Stmt := topS 36
theorem scParOf : FnScope ["dyadic"] ["dyadic"] (defScope sParOf) := ⟨rfl, rfl, rfl, by decide +kernel, rfl, by decide +kernel, by decide +kernel⟩
def cParOf : Ct := fun as μ post => μ = [] ∧ ∃ x : Int × Nat, DyOk x ∧ as = [.im (dy x)] ∧ post (.im (parT (parD x))) []
theorem okParOf (hN : Callee c "need_dyadic" 3 1 cNeedD) (hP : Callee c "parents_by" 2 1 cParBy) (F : Fun c.K "parents_of" "parents_of" sParOf f fd) : FnOk c.P c.w c.K c.mg c.base CX0 4 f fd ["dyadic"] (spOf c.K cParOf 1) := by
  refine fn_abs F scParOf (fun as μ post h => by obtain ⟨rfl, x, _, rfl, _⟩ := h; rfl) ?_
  intro cdv A outer s H EX as μ post hF ck
  obtain ⟨rfl, x, hx, rfl, hq⟩ := hF
  walk_at "al"
  refine uNeedD hx ?_
  walk_at "al"
  refine uParBy ?_
  exact rt_im rfl hq
theorem uParOf {x : Int × Nat} (hx : DyOk x) (h : k (.im (parT (parD x))) μ) : [AV.im (dy x)].length = 1 ∧ CL cParOf [.im (dy x)] μ k :=
  clI _ rfl (.cons rfl .nil) (fun post hp => ⟨rfl, x, hx, rfl, hp⟩) h
abbrev sNb : Stmt := topS 40
theorem scNb : FnScope ["dyadic", "days", "below"] ["dyadic", "days"] (defScope sNb) := ⟨rfl, rfl, rfl, by decide +kernel, rfl, by decide +kernel, by decide +kernel⟩
def cNb : Ct := fun as μ post => μ = [] ∧ ∃ (x : Int × Nat) (d : Nat), DyOk x ∧ d ≤ 1000 ∧ as = [.im (dy x), .im (.int (d : Nat))] ∧ post (.im (parT (lowN x d, ab x d))) []
theorem okNb {t1 : Tok} (g1 : c.mg "MOST_FAR_DAYS" = some (.int 1000 t1)) (hN : Callee c "need_dyadic" 3 1 cNeedD) (hA : Callee c "is_among" 2 3 cIsAmong) (hAb : Callee c "next_above" 2 2 cNextAbove) (hT : Callee c "turned_dyadic" 1 1 cTurned) (F : Fun c.K "neighbours_of" "neighbours_of" sNb f fd) : FnOk c.P c.w c.K c.mg c.base CX0 4 f fd ["dyadic", "days"] (spOf c.K cNb 2) := by
  refine fn_abs F scNb (fun as μ post h => by obtain ⟨rfl, x, d, _, _, rfl, _⟩ := h; rfl) ?_
  intro cdv A outer s H EX as μ post hF ck
  obtain ⟨rfl, x, d, hx, hd, rfl, hq⟩ := hF
  have s1 : Sm 1000 x.1 := sm_mono (m := 110) (by decide) (sm_of (by have := hx.lo; omega) (by have := hx.hi; omega))
  have s2 : Sm 1000 (neg x).1 := sm_mono (m := 110) (by decide) (sm_of (by have := hx.hi; show _ < -x.1; omega) (by have := hx.lo; show -x.1 < _; omega))
  have hk : x.2 < 1000 := by have := hx.k; omega
  walk_at "al"
  refine uNeedD hx ?_
  walk_at "al"
  rw [decide_eq_true (show (0 : Int) ≤ (d : Int) ∧ (d : Int) ≤ 1000 by omega)]
  walk_at "al"
  refine ss_nil ?_
  walk_at "al"
  refine uTurned ?_
  walk_at "al"
  refine uNextAbove (x := neg x) d s2 hk hd rfl ?_
  have hq' : post (.im (parT ((ab (neg x) d).map neg, ab x d))) [] := hq
  generalize ab (neg x) d = a at hq' ⊢
  cases a with
  | none =>
    show SS _ _ _ [some (.im (dy x)), some (.im (.int (d : Nat))), some (.im .non)] _ _
    walk_at "al"
    refine uNextAbove (x := x) d s1 hk hd rfl ?_
    walk_at "al"
    exact rt_im rfl hq'
  | some y =>
    show SS _ _ _ [some (.im (dy x)), some (.im (.int (d : Nat))), some (.im (dy y))] _ _
    walk_at "al"
    refine uTurned ?_
    walk_at "al"
    refine uNextAbove (x := x) d s1 hk hd rfl ?_
    walk_at "al"
    exact rt_im rfl hq'
theorem uNb {x : Int × Nat} {i : Int} (d : Nat) (hx : DyOk x) (hd : d ≤ 1000) (e : i = (d : Int)) (h : k (.im (parT (lowN x d, ab x d))) μ) : [AV.im (dy x), AV.im (.int i)].length = 2 ∧ CL cNb [.im (dy x), .im (.int i)] μ k := by
  subst e
  exact clI _ rfl (.cons rfl (.cons rfl .nil)) (fun post hp => ⟨rfl, x, d, hx, hd, rfl, hp⟩) h
end
section
variable {ι : Type} {Xs : ι → Cx} {c : Cfg} {kk : Nat} {N : List Str} {δ : List (Option AV)} {μ : List M} {k : AV → List M → Prop} {e : Expr} {pos apos : Pos}
theorem se_bits (h : SE Xs c.K e δ μ fun x μ1 => ∃ n, x = .im (.int n) ∧ k (.im (.int (Builtin.Int.intBits n : Nat))) μ1) (hbase : ∀ i, attributeBase e "bit_length" (Xs i).env (eval e (Xs i).env) = eval e (Xs i).env) (hline : (apos.endLine == pos.line) = true) : SE Xs c.K (.Call (.Attribute e "bit_length" apos) [] [] pos) δ μ k := by
  refine ⟨fun en τ σ τv H Q q hk => ⟨tBits (wE Xs e), fun i => pe_bits (wE_ok i) (hbase i) hline, ?_⟩⟩
  refine h.run en τ σ τv H _ q fun x μ1 vx H1 hx q1 => ?_
  obtain ⟨n, rfl, hx⟩ := hx
  exact ⟨n, rep_int.mp q1.top, hk _ _ _ _ hx (q1.pop.push (rep_int.mpr rfl))⟩
end
theorem bits_pow (n : Nat) : Builtin.Int.intBits (2 ^ n) = n + 1 := by
  have e : ((2 : Int) ^ n).natAbs = 2 ^ n := by rw [Int.natAbs_pow]; rfl
  have h1 : Builtin.Int.intBits (2 ^ n) ≤ n + 1 := PySem.intBits_le_iff.mpr (by rw [e]; exact Nat.pow_lt_pow_right (by decide) (by omega))
  have h2 : ¬ Builtin.Int.intBits (2 ^ n) ≤ n := fun z => by
    have := PySem.intBits_le_iff.mp z
    rw [e] at this
    omega
  omega
theorem op_shl1 {ι : Type} {Xs : ι → Cx} {c : Cfg} {μ : List M} {k : AV → List M → Prop} {i : Int} (n : Nat) (e : i = (n : Int)) (hn : n ≤ 1000000) (h : k (.im (.int (2 ^ n))) μ) : OP Xs c.K (binaryOp .LShift) (.im (.int 1)) (.im (.int i)) μ k := by
  subst e
  refine op_shlI ⟨by omega, ?_⟩ (by rw [Int.one_mul, Int.toNat_natCast]; exact h)
  have : Builtin.Int.intBits 1 = 1 := by decide
  rw [this]; omega
section
variable {c : Cfg} {f : Addr} {fd : FuncData} {μ : List M} {k : AV → List M → Prop}
/-! ### the law's own: numbers -/
abbrev sLMade : Stmt := topS 47
theorem scLMade : FnScope ["top", "bottom"] ["top", "bottom"] (defScope sLMade) := ⟨rfl, rfl, rfl, by decide +kernel, rfl, by decide +kernel, by decide +kernel⟩
theorem okLMade (hBE : BE c) (F : Fun c.K "_law_made" "_law_made" sLMade f fd) : FnOk c.P c.w c.K c.mg c.base CX0 1 f fd ["top", "bottom"] (spOf c.K cMade 2) := by
  obtain ⟨b_len, b_isi, b_int, b_bool, b_str, b_tuple, b_list, b_dict, b_range, b_enumerate, b_all, b_max, b_min⟩ := hBE
  refine fn_abs F scLMade (fun as μ post h => by obtain ⟨rfl, t, k, rfl, _⟩ := h; rfl) ?_
  intro cdv A outer s H EX as μ post hF ck
  obtain ⟨rfl, t, k, rfl, hq⟩ := hF
  walk_at "al"
  refine s1_while (P := Int × Nat) (fun x => [some (.im (.int x.1)), some (.im (.int (2 ^ x.2)))]) (fun _ => []) (fun x => mk x.1 x.2 = mk t k) (fun x => x.2) ck ⟨(t, k), rfl, by walk_at "al fg", rfl⟩ (fun x hx => ?_)
  obtain ⟨t', k'⟩ := x
  have hx : mk t' k' = mk t k := hx
  walk_at "al"
  refine if_dec (fun h1 => ?_) (fun h1 => ?_)
  · rw [pow_gt1] at h1
    obtain ⟨k', rfl⟩ : ∃ q, k' = q + 1 := ⟨k' - 1, by omega⟩
    walk_at "al"
    refine if_dec (fun h2 => ?_) (fun h2 => ?_)
    · walk_at "al"
      rw [pow_half]
      refine ss_nil ⟨(t' / 2, k'), ⟨?_, Nat.lt_succ_self k'⟩, by walk_at "al fg", rfl⟩
      show mk (t' / 2) k' = mk t k
      rw [← hx, mk_even h2]
    · have e : mk t k = (t', k' + 1) := by rw [← hx, mk_odd h2]
      rw [e] at hq
      walk_at "al"
      exact rt_im rfl hq
  · rw [pow_gt1] at h1
    obtain rfl : k' = 0 := by omega
    have e : mk t k = (t', 0) := by rw [← hx]; rfl
    rw [e] at hq
    walk_at "al"
    exact rt_im rfl hq
abbrev sLPlus : Stmt := topS 48
theorem scLPlus : FnScope ["one", "other"] ["one", "other"] (defScope sLPlus) := ⟨rfl, rfl, rfl, by decide +kernel, rfl, by decide +kernel, by decide +kernel⟩
theorem okLPlus (hM : Callee c "_law_made" 1 2 cMade) (F : Fun c.K "_law_plus" "_law_plus" sLPlus f fd) : FnOk c.P c.w c.K c.mg c.base CX0 2 f fd ["one", "other"] (spOf c.K cPlus 2) := by
  refine fn_abs F scLPlus (fun as μ post h => by obtain ⟨rfl, x, y, _, _, rfl, _⟩ := h; rfl) ?_
  intro cdv A outer s H EX as μ post hF ck
  obtain ⟨rfl, ⟨t, m⟩, ⟨u, n⟩, hx, hy, rfl, hq⟩ := hF
  obtain ⟨h1, h2⟩ := hx
  obtain ⟨h3, h4⟩ := hy
  have hc1 : CMulX t (2 ^ n) := sm_mul h1 (sm_pow h4) (by decide)
  have hc2 : CMulX u (2 ^ m) := sm_mul h3 (sm_pow h2) (by decide)
  have hc3 : CMulX ((2 : Int) ^ m) (2 ^ n) := sm_mul (sm_pow h2) (sm_pow h4) (by decide)
  show SS _ _ _ (startA _ [.im (.tup [.int t, .int (2 ^ m)]), .im (.tup [.int u, .int (2 ^ n)])]) _ _
  walk_at "al"
  refine uMade (m + n) (Int.pow_add 2 m n).symm ?_
  exact rt_im rfl hq
abbrev sLMinus : Stmt := topS 49
theorem scLMinus : FnScope ["one"] ["one"] (defScope sLMinus) := ⟨rfl, rfl, rfl, by decide +kernel, rfl, by decide +kernel, by decide +kernel⟩
theorem okLMinus (F : Fun c.K "_law_minus" "_law_minus" sLMinus f fd) : FnOk c.P c.w c.K c.mg c.base CX0 1 f fd ["one"] (spOf c.K cTurned 1) := by
  refine fn_abs F scLMinus (fun as μ post h => by obtain ⟨rfl, x, rfl, _⟩ := h; rfl) ?_
  intro cdv A outer s H EX as μ post hF ck
  obtain ⟨rfl, ⟨t, m⟩, rfl, hq⟩ := hF
  show SS _ _ _ (startA _ [.im (.tup [.int t, .int (2 ^ m)])]) _ _
  have hq : post (.im (.tup [.int (-t), .int (2 ^ m)])) [] := hq
  rw [← Int.zero_sub] at hq
  walk_at "al"
  exact rt_im rfl hq
abbrev sLDay : Stmt := topS 51
theorem scLDay : FnScope ["number", "top", "bottom", "whole"] ["number"] (defScope sLDay) := ⟨rfl, rfl, rfl, by decide +kernel, rfl, by decide +kernel, by decide +kernel⟩
theorem okLDay (hBE : BE c) (b_abs : c.mg "abs" = none) (F : Fun c.K "_law_day" "_law_day" sLDay f fd) : FnOk c.P c.w c.K c.mg c.base CX0 2 f fd ["number"] (spOf c.K cDayBy 1) := by
  obtain ⟨b_len, b_isi, b_int, b_bool, b_str, b_tuple, b_list, b_dict, b_range, b_enumerate, b_all, b_max, b_min⟩ := hBE
  refine fn_abs F scLDay (fun as μ post h => by obtain ⟨rfl, x, _, rfl, _⟩ := h; rfl) ?_
  intro cdv A outer s H EX as μ post hF ck
  obtain ⟨rfl, ⟨t, m⟩, hm, rfl, hq⟩ := hF
  have hm : m < 9000 := hm
  have hc1 : CDivW t (2 ^ m) := cdw hm
  show SS _ _ _ (startA _ [.im (.tup [.int t, .int (2 ^ m)])]) _ _
  walk_at "al"
  refine if_dec (fun h1 => ?_) (fun h1 => ?_) <;> rw [pow_is1] at h1
  · subst h1
    have hq : post (.im (.int (absI t))) [] := hq
    walk_at "al"
    exact rt_im rfl hq
  · have e : dayI (t, m) = maxI (absI (t / 2 ^ m)) (absI (t / 2 ^ m + 1)) + (m + 1 : Nat) - 1 := by
      unfold dayI whole
      rw [if_neg h1]
      show maxI (absI (t / 2 ^ m)) (absI (t / 2 ^ m + 1)) + (m : Int) = _
      omega
    rw [e] at hq
    refine ss_nil ?_
    walk_at "al"
    refine se_bits ?_ (fun _ => rfl) rfl
    walk_at "al"
    rw [bits_pow]
    walk_at "al"
    exact rt_im rfl hq
def FineOk (x : Int × Nat) (d : Nat) : Prop := (d : Int) - maxI (absI (whole x)) (absI (whole x + 1)) ≤ 1000
def cLAbove : Ct := fun as μ post => μ = [] ∧ ∃ (x : Int × Nat) (d : Nat), Sm 1000 x.1 ∧ x.2 < 1000 ∧ d ≤ 3000000 ∧ FineOk x d ∧ as = [.im (dy x), .im (.int (d : Nat))] ∧ post (.im (optD (ab x d))) []
theorem uLAbove {x : Int × Nat} {i : Int} (d : Nat) (hs : Sm 1000 x.1) (hm : x.2 < 1000) (hd : d ≤ 3000000) (hf : FineOk x d) (e : i = (d : Int)) (h : k (.im (optD (ab x d))) μ) : [AV.im (dy x), AV.im (.int i)].length = 2 ∧ CL cLAbove [.im (dy x), .im (.int i)] μ k := by
  subst e
  exact clI _ rfl (.cons rfl (.cons rfl .nil)) (fun post hp => ⟨rfl, x, d, hs, hm, hd, hf, rfl, hp⟩) h
theorem fine_few {x : Int × Nat} {d : Nat} (h : d ≤ 1000) : FineOk x d := by
  unfold FineOk maxI absI; split <;> split <;> split <;> omega
abbrev sLAbove : Stmt := topS 52
theorem scLAbove : FnScope ["number", "days", "top", "bottom", "whole", "fine"] ["number", "days"] (defScope sLAbove) := ⟨rfl, rfl, rfl, by decide +kernel, rfl, by decide +kernel, by decide +kernel⟩
theorem okLAbove (hBE : BE c) (b_abs : c.mg "abs" = none) (hM : Callee c "_law_made" 1 2 cMade) (F : Fun c.K "_law_above" "_law_above" sLAbove f fd) : FnOk c.P c.w c.K c.mg c.base CX0 2 f fd ["number", "days"] (spOf c.K cLAbove 2) := by
  obtain ⟨b_len, b_isi, b_int, b_bool, b_str, b_tuple, b_list, b_dict, b_range, b_enumerate, b_all, b_max, b_min⟩ := hBE
  refine fn_abs F scLAbove (fun as μ post h => by obtain ⟨rfl, x, d, _, _, _, _, rfl, _⟩ := h; rfl) ?_
  intro cdv A outer s H EX as μ post hF ck
  obtain ⟨rfl, ⟨t, m⟩, d, hs, hm, hd, hfine, rfl, hq⟩ := hF
  have hm : m < 1000 := hm
  have hfine : (d : Int) - maxI (absI (t / 2 ^ m)) (absI (t / 2 ^ m + 1)) ≤ 1000 := hfine
  have hds : Sm 30 (d : Int) := sm_int (n := 3000000) (by show -((3000000 : Nat) : Int) ≤ (d : Int); omega) (by show (d : Int) ≤ ((3000000 : Nat) : Int); omega) (by decide)
  have hc0 : CMulX (d : Int) (2 ^ m) := sm_mul hds (sm_pow (m := 1001) (by omega)) (by decide)
  have hc1 : CDivW t (2 ^ m) := cdw (by omega)
  have e1 : ltD (t, m) ((d : Int), 0) ↔ t < d * 2 ^ m := ltD_whole
  have e2 : ltD (t, m) (-(d : Int), 0) ↔ t < 0 - d * 2 ^ m := by rw [Int.zero_sub, ← Int.neg_mul]; exact ltD_whole
  show SS _ _ _ (startA _ [.im (.tup [.int t, .int (2 ^ m)]), .im (.int (d : Nat))]) _ _
  unfold ab at hq
  walk_at "al"
  refine if_dec (fun h1 => ?_) (fun h1 => ?_)
  · rw [if_neg (fun z => absurd (e1.mp z) (by omega))] at hq
    walk_at "al"
    exact rt_im rfl hq
  rw [if_pos (e1.mpr (by omega))] at hq
  refine ss_nil ?_
  walk_at "al"
  refine if_dec (fun h2 => ?_) (fun h2 => ?_)
  · rw [if_pos (e2.mpr h2), ← Int.zero_sub] at hq
    walk_at "al"
    exact rt_im rfl hq
  rw [if_neg (fun z => h2 (e2.mp z))] at hq
  refine ss_nil ?_
  walk_at "al"
  have hp := pow_pos2 m
  have hw1 : t / 2 ^ m < d := Int.ediv_lt_of_lt_mul hp (by omega)
  have hw2 : -(d : Int) ≤ t / 2 ^ m := (Int.le_ediv_iff_mul_le hp).mpr (by rw [Int.neg_mul]; omega)
  have hM2 : ∃ e : Nat, ((d : Int) - maxI (absI (t / 2 ^ m)) (absI (t / 2 ^ m + 1))) = (e : Int) ∧ e ≤ 1000 := by
    generalize t / 2 ^ m = w at hw1 hw2 hfine
    refine ⟨((d : Int) - maxI (absI w) (absI (w + 1))).toNat, ?_, ?_⟩ <;> (unfold maxI absI at *; split at hfine <;> split at hfine <;> omega)
  obtain ⟨e, he, he2⟩ := hM2
  have hq2 : post (.im (dy (mk (t * 2 ^ e / 2 ^ m + 1) e))) [] := by
    have hq : post (.im (optD (some (mk (t * 2 ^ ((d : Int) - maxI (absI (t / 2 ^ m)) (absI (t / 2 ^ m + 1))).toNat / 2 ^ m + 1) ((d : Int) - maxI (absI (t / 2 ^ m)) (absI (t / 2 ^ m + 1))).toNat)))) [] := hq
    rw [he, Int.toNat_natCast] at hq
    exact hq
  refine op_shl1 e he (by omega) ?_
  have hcm : CMulX t (2 ^ e) := sm_mul hs (sm_pow (m := 2000) (by omega)) (by decide)
  have hcd : CDivW (t * 2 ^ e) (2 ^ m) := cdw (by omega)
  walk_at "al"
  refine uMade e rfl ?_
  exact rt_im rfl hq2
abbrev sLBoth : Stmt := topS 53
theorem scLBoth : FnScope ["number", "days", "below"] ["number", "days"] (defScope sLBoth) := ⟨rfl, rfl, rfl, by decide +kernel, rfl, by decide +kernel, by decide +kernel⟩
def cLBoth : Ct := fun as μ post => μ = [] ∧ ∃ (x : Int × Nat) (d : Nat), Sm 1000 x.1 ∧ x.2 < 1000 ∧ d ≤ 3000000 ∧ FineOk x d ∧ FineOk (neg x) d ∧ as = [.im (dy x), .im (.int (d : Nat))] ∧ post (.im (parT (lowN x d, ab x d))) []
theorem okLBoth (hAb : Callee c "_law_above" 2 2 cLAbove) (hT : Callee c "_law_minus" 1 1 cTurned) (F : Fun c.K "_law_both" "_law_both" sLBoth f fd) : FnOk c.P c.w c.K c.mg c.base CX0 3 f fd ["number", "days"] (spOf c.K cLBoth 2) := by
  refine fn_abs F scLBoth (fun as μ post h => by obtain ⟨rfl, x, d, _, _, _, _, _, rfl, _⟩ := h; rfl) ?_
  intro cdv A outer s H EX as μ post hF ck
  obtain ⟨rfl, x, d, s1, hk, hd, f1, f2, rfl, hq⟩ := hF
  have s2 : Sm 1000 (neg x).1 := by
    show Builtin.Int.intBits (-x.1) ≤ 1000
    have := PySem.intBits_le_iff.mp s1
    exact PySem.intBits_le_iff.mpr (by rw [Int.natAbs_neg]; exact this)
  walk_at "al"
  refine uTurned ?_
  walk_at "al"
  refine uLAbove (x := neg x) d s2 hk hd f2 rfl ?_
  have hq' : post (.im (parT ((ab (neg x) d).map neg, ab x d))) [] := hq
  generalize ab (neg x) d = a at hq' ⊢
  cases a with
  | none =>
    show SS _ _ _ [some (.im (dy x)), some (.im (.int (d : Nat))), some (.im .non)] _ _
    walk_at "al"
    refine uLAbove (x := x) d s1 hk hd f1 rfl ?_
    walk_at "al"
    exact rt_im rfl hq'
  | some y =>
    show SS _ _ _ [some (.im (dy x)), some (.im (.int (d : Nat))), some (.im (dy y))] _ _
    walk_at "al"
    refine uTurned ?_
    walk_at "al"
    refine uLAbove (x := x) d s1 hk hd f1 rfl ?_
    walk_at "al"
    exact rt_im rfl hq'
theorem uLBoth {x : Int × Nat} {i : Int} (d : Nat) (hs : Sm 1000 x.1) (hm : x.2 < 1000) (hd : d ≤ 3000000) (f1 : FineOk x d) (f2 : FineOk (neg x) d) (e : i = (d : Int)) (h : k (.im (parT (lowN x d, ab x d))) μ) : [AV.im (dy x), AV.im (.int i)].length = 2 ∧ CL cLBoth [.im (dy x), .im (.int i)] μ k := by
  subst e
  exact clI _ rfl (.cons rfl (.cons rfl .nil)) (fun post hp => ⟨rfl, x, d, hs, hm, hd, f1, f2, rfl, hp⟩) h
end
section
variable {c : Cfg} {f : Addr} {fd : FuncData} {μ : List M} {k : AV → List M → Prop}
/-! ### drawn ones -/
theorem clC2 {F : Ct} {as as0 : List AV} {ar : Nat} {m1 m2 : M} (j1 j2 : Nat) (hne : j1 ≠ j2) (h1 : μ[j1]? = some m1) (h2 : μ[j2]? = some m2) (hl : as.length = ar) (ha : Paired (AsC [j1, j2]) as0 as) (P : D → M → Prop) (hF : ∀ post : AV → List M → Prop, (∀ d m', P d m' → post (.im d) [m', m2]) → F as0 [m1, m2] post) (h : ∀ d m', P d m' → k (.im d) (μ.set j1 m')) : as.length = ar ∧ CL F as μ k :=
  ⟨hl, cl_two j1 j2 hne h1 h2 ha (hF _ fun d m' hp => by
    have e : (μ.set j1 m')[j2]? = some m2 := by rw [List.getElem?_set_ne hne]; exact h2
    show k (.im d) (upds ((μ.set j1 m').set j2 m2) [] [])
    rw [upds_nil, List.append_nil, set_same e]; exact h d m' hp)⟩
abbrev sOf : Stmt := topS 45
theorem scOf : FnScope ["m", "some"] ["m", "some"] (defScope sOf) := ⟨rfl, rfl, rfl, by decide +kernel, rfl, by decide +kernel, by decide +kernel⟩
def cOf : Ct := fun as μ post => ∃ (n : Nat) (ds : List D), n ≤ 1000000 ∧ 0 < ds.length ∧ ds.length ≤ 1000 ∧ μ = [.drw n, .lst ds] ∧ as = [.own 0, .own 1] ∧ ∀ d ∈ ds, post (.im d) [.drw (n + 1), .lst ds]
theorem okOf (hBE : BE c) (hN : Callee c "_law_next" 1 2 cNext) (F : Fun c.K "_law_of" "_law_of" sOf f fd) : FnOk c.P c.w c.K c.mg c.base CX0 2 f fd ["m", "some"] (spOf c.K cOf 2) := by
  obtain ⟨b_len, b_isi, b_int, b_bool, b_str, b_tuple, b_list, b_dict, b_range, b_enumerate, b_all, b_max, b_min⟩ := hBE
  refine fn_abs F scOf (fun as μ post h => by obtain ⟨n, ds, _, _, _, _, rfl, _⟩ := h; rfl) ?_
  intro cdv A outer s H EX as μ post hF ck
  obtain ⟨n, ds, hn, h0, h1, rfl, rfl, hq⟩ := hF
  walk_at "al"
  refine uNext (many := ds.length) 0 hn h0 (by omega) rfl rfl (fun r hr => ?_)
  have hx : atI ds ((r : Nat) : Int) = some (ds[r]) := atI_nat (List.getElem?_eq_getElem hr)
  walk_at "al"
  exact rt_im rfl (hq _ (List.getElem_mem hr))
theorem uOf {n : Nat} {ds : List D} (j1 j2 : Nat) (hne : j1 ≠ j2) (h1 : μ[j1]? = some (.drw n)) (h2 : μ[j2]? = some (.lst ds)) (hn : n ≤ 1000000) (l0 : 0 < ds.length) (l1 : ds.length ≤ 1000) (h : ∀ d ∈ ds, k (.im d) (μ.set j1 (.drw (n + 1)))) : [AV.own j1, AV.own j2].length = 2 ∧ CL cOf [.own j1, .own j2] μ k :=
  clC2 j1 j2 hne h1 h2 rfl (.cons asc_0 (.cons asc_1 .nil)) (fun d m' => d ∈ ds ∧ m' = .drw (n + 1)) (fun post hp => ⟨n, ds, hn, l0, l1, rfl, rfl, fun d hd => hp _ _ ⟨hd, rfl⟩⟩) (fun d m' ⟨hd, e⟩ => by subst e; exact h d hd)
/-- a drawn number -/
structure Far (x : Int × Nat) : Prop where
  rd : Rd0 x
  k : x.2 ≤ 60
  lo : -2500000000000000000000000 ≤ x.1
  hi : x.1 ≤ 2500000000000000000000000
  v1 : -(2000000 * 2 ^ x.2) ≤ x.1
  v2 : x.1 < 2000000 * 2 ^ x.2
abbrev sFar : Stmt := topS 50
theorem scFar : FnScope ["m", "whole", "halvings", "top", "many", "turn"] ["m", "whole", "halvings"] (defScope sFar) := ⟨rfl, rfl, rfl, by decide +kernel, rfl, by decide +kernel, by decide +kernel⟩
def cFar : Ct := fun as μ post => ∃ n W h : Nat, n ≤ 900000 ∧ W ≤ 1000000 ∧ h ≤ 60 ∧ μ = [.drw n] ∧ as = [.own 0, .im (.int (W : Nat)), .im (.int (h : Nat))] ∧ ∀ x n', Far x → n' ≤ n + 70 → post (.im (dy x)) [.drw n']
theorem okFar (hBE : BE c) (hN : Callee c "_law_next" 1 2 cNext) (hM : Callee c "_law_made" 1 2 cMade) (F : Fun c.K "_law_far_number" "_law_far_number" sFar f fd) : FnOk c.P c.w c.K c.mg c.base CX0 2 f fd ["m", "whole", "halvings"] (spOf c.K cFar 3) := by
  obtain ⟨b_len, b_isi, b_int, b_bool, b_str, b_tuple, b_list, b_dict, b_range, b_enumerate, b_all, b_max, b_min⟩ := hBE
  refine fn_abs F scFar (fun as μ post h => by obtain ⟨n, W, h, _, _, _, _, rfl, _⟩ := h; rfl) ?_
  intro cdv A outer s H EX as μ post hF ck
  obtain ⟨n, W, h, hn, hW, hh, rfl, rfl, hq⟩ := hF
  walk_at "al"
  refine uNext (many := 2 * W + 1) 0 (by omega) (by omega) (by omega) (by omega) rfl (fun r hr => ?_)
  walk_at "al"
  refine uNext (many := h + 1) 0 (by omega) (by omega) (by omega) (by omega) rfl (fun r2 hr2 => ?_)
  walk_at "al e"
  refine ss_cons ?_
  refine s1_for (P := Int × Nat) (fun i p => [some (.own 0), some (.im (.int (W : Nat))), some (.im (.int (h : Nat))), some (.im (.int p.1)), some (.im (.int (r2 : Nat))), none]) (fun _ p => [.drw p.2]) (fun i p => p.2 ≤ n + 2 + i ∧ -(2000000 * 2 ^ i) ≤ p.1 ∧ p.1 < 2000000 * 2 ^ i) ck ?_
  refine si_range1 ck b_range ?_
  walk_at "al"
  rw [Int.toNat_natCast]
  refine ⟨by omega, by omega, ⟨((r : Int) - W, n + 2), ⟨by show n + 2 ≤ _; omega, by rw [Int.pow_zero]; show _ ≤ (r : Int) - W; omega, by rw [Int.pow_zero]; show (r : Int) - W < _; omega⟩, by walk_at "al fg", rfl⟩, fun i p hi _ q hq => by simp at hq, fun i p hi hp => ?_, fun p hp => ?_⟩
  · obtain ⟨t, n1⟩ := p
    obtain ⟨p1, p2, p3⟩ := hp
    dsimp only at p1 p2 p3 ⊢
    have hpp := pow_le2 (a := i) (b := 60) (by omega)
    have hpp : (2 : Int) ^ i ≤ 1152921504606846976 := hpp
    have hcm : CMulX (2 : Int) t := sm_mul (m := 2) (n := 200) (sm_of (by decide) (by decide)) (sm_of (by omega) (by omega)) (by decide)
    walk_at "al"
    refine uNext (many := 2) 0 (by omega) (by decide) (by decide) rfl rfl (fun r3 hr3 => ?_)
    walk_at "al"
    refine ss_nil ⟨(2 * t + (r3 : Nat), n1 + 1), ⟨by show n1 + 1 ≤ _; omega, ?_, ?_⟩, by walk_at "al fg", rfl⟩
    · rw [pow_succ2]; show _ ≤ 2 * t + (r3 : Nat); omega
    · rw [pow_succ2]; show 2 * t + (r3 : Nat) < _; omega
  · obtain ⟨t, n1⟩ := p
    obtain ⟨p1, p2, p3⟩ := hp
    dsimp only at p1 p2 p3 ⊢
    have hpp := pow_le2 (a := r2) (b := 60) (by omega)
    have hpp : (2 : Int) ^ r2 ≤ 1152921504606846976 := hpp
    walk_at "al"
    refine op_shl1 r2 rfl (by omega) ?_
    walk_at "al"
    refine uMade r2 rfl ?_
    have hb := mk_bound (a := t) (B := 2500000000000000000000000) (j := r2) (by omega) (by omega)
    have hsc := mk_sc (N := r2) r2 t (Nat.le_refl _)
    have hle := mk_le r2 t
    rw [Nat.sub_self, Int.pow_zero, Int.mul_one] at hsc
    unfold sc at hsc
    have hp0 := pow_pos2 (r2 - (mk t r2).2)
    rw [← hsc, pow_split hle, show 2000000 * (2 ^ (mk t r2).2 * 2 ^ (r2 - (mk t r2).2)) = (2000000 * (2 : Int) ^ (mk t r2).2) * 2 ^ (r2 - (mk t r2).2) by grind] at p2 p3
    rw [← Int.neg_mul] at p2
    exact rt_im rfl (hq _ _ ⟨mk_rd t r2, by omega, hb.1, hb.2, Int.le_of_mul_le_mul_right p2 hp0, Int.lt_of_mul_lt_mul_right p3 (Int.le_of_lt hp0)⟩ (by omega))
theorem uFar {n : Nat} {i j : Int} (jo W h' : Nat) (hn : n ≤ 900000) (hW : W ≤ 1000000) (hh : h' ≤ 60) (e1 : i = (W : Int)) (e2 : j = (h' : Int)) (hj : μ[jo]? = some (.drw n)) (h : ∀ x n', Far x → n' ≤ n + 70 → k (.im (dy x)) (μ.set jo (.drw n'))) : [AV.own jo, AV.im (.int i), AV.im (.int j)].length = 3 ∧ CL cFar [.own jo, .im (.int i), .im (.int j)] μ k := by
  subst e1 e2
  exact clC jo hj rfl (.cons asc_0 (.cons asc_im (.cons asc_im .nil))) (fun d m' => ∃ x n', Far x ∧ n' ≤ n + 70 ∧ d = dy x ∧ m' = .drw n') (fun post hp => ⟨n, W, h', hn, hW, hh, rfl, rfl, fun x n' h1 h2 => hp _ _ ⟨x, n', h1, h2, rfl, rfl⟩⟩) (fun d m' ⟨x, n', h1, h2, e3, e4⟩ => by subst e3 e4; exact h x n' h1 h2)
end
section
variable {c : Cfg} {f : Addr} {fd : FuncData} {μ : List M} {k : AV → List M → Prop}
/-! ### lists of days -/
abbrev D2 := Int × Nat
def ext : List D2 → List D2
  | [] => []
  | a :: l => match l with
    | [] => []
    | b :: _ => half (plus a b) :: b :: ext l
def nextL (l : List D2) (d : Nat) : List D2 := (-(d : Int), 0) :: l.headD (0, 0) :: (ext l ++ [((d : Int), 0)])
def dl : Nat → List D2
  | 0 => [(0, 0)]
  | n + 1 => nextL (dl n) (n + 1)
def okD (x : D2) : Bool := decide (-1000000 ≤ x.1 ∧ x.1 ≤ 1000000 ∧ x.2 ≤ 40)
theorem dl_ok : (List.range 11).all (fun n => (dl n).all okD && decide ((dl n).length ≤ 2100) && decide (0 < (dl n).length)) = true := by decide +kernel
theorem dl_at {n : Nat} (h : n ≤ 10) : (∀ x ∈ dl n, okD x = true) ∧ (dl n).length ≤ 2100 ∧ 0 < (dl n).length := by
  have h1 := List.all_eq_true.mp dl_ok n (List.mem_range.mpr (by omega))
  simp only [Bool.and_eq_true, decide_eq_true_eq, List.all_eq_true] at h1
  exact ⟨h1.1.1, h1.1.2, h1.2⟩
theorem ok_small {x : D2} (h : okD x = true) : DyS x := by
  have h := of_decide_eq_true h
  exact .of (by omega) (by omega) (by omega)
theorem ok_plus {x y : D2} (h1 : okD x = true) (h2 : okD y = true) : DyS (plus x y) := by
  obtain ⟨a1, a2, a3⟩ := of_decide_eq_true h1
  obtain ⟨b1, b2, b3⟩ := of_decide_eq_true h2
  have p1 := pow_le2 (a := y.2) (b := 40) b3
  have p2 := pow_le2 (a := x.2) (b := 40) a3
  have p1 : (2 : Int) ^ y.2 ≤ 1099511627776 := p1
  have p2 : (2 : Int) ^ x.2 ≤ 1099511627776 := p2
  have q1 := pow_pos2 y.2
  have q2 := pow_pos2 x.2
  have m1 : -(1000000 * 1099511627776) ≤ x.1 * 2 ^ y.2 ∧ x.1 * 2 ^ y.2 ≤ 1000000 * 1099511627776 := by
    generalize (2 : Int) ^ y.2 = P at *
    constructor
    · have := Int.mul_le_mul_of_nonneg_right a1 (Int.le_of_lt q1)
      have := Int.mul_le_mul_of_nonneg_left p1 (show (0 : Int) ≤ 1000000 by decide)
      omega
    · have := Int.mul_le_mul_of_nonneg_right a2 (Int.le_of_lt q1)
      have := Int.mul_le_mul_of_nonneg_left p1 (show (0 : Int) ≤ 1000000 by decide)
      omega
  have m2 : -(1000000 * 1099511627776) ≤ y.1 * 2 ^ x.2 ∧ y.1 * 2 ^ x.2 ≤ 1000000 * 1099511627776 := by
    generalize (2 : Int) ^ x.2 = P at *
    constructor
    · have := Int.mul_le_mul_of_nonneg_right b1 (Int.le_of_lt q2)
      have := Int.mul_le_mul_of_nonneg_left p2 (show (0 : Int) ≤ 1000000 by decide)
      omega
    · have := Int.mul_le_mul_of_nonneg_right b2 (Int.le_of_lt q2)
      have := Int.mul_le_mul_of_nonneg_left p2 (show (0 : Int) ≤ 1000000 by decide)
      omega
  unfold plus
  have hb := mk_bound (a := x.1 * 2 ^ y.2 + y.1 * 2 ^ x.2) (B := 3000000 * 1099511627776) (j := x.2 + y.2) (by omega) (by omega)
  exact .of (by omega) (by omega) (by have := mk_le (x.2 + y.2) (x.1 * 2 ^ y.2 + y.1 * 2 ^ x.2); omega)
theorem ext_drop {l : List D2} {i : Nat} (h : i + 1 < l.length) : ext (l.drop i) = half (plus (l.getD i (0, 0)) (l.getD (i + 1) (0, 0))) :: l.getD (i + 1) (0, 0) :: ext (l.drop (i + 1)) := by
  have e1 : l.drop i = l.getD i (0, 0) :: l.drop (i + 1) := by
    rw [List.drop_eq_getElem_cons (by omega), List.getD_eq_getElem?_getD, List.getElem?_eq_getElem (by omega)]; rfl
  have e2 : l.drop (i + 1) = l.getD (i + 1) (0, 0) :: l.drop (i + 1 + 1) := by
    rw [List.drop_eq_getElem_cons h, List.getD_eq_getElem?_getD, List.getElem?_eq_getElem h]; rfl
  rw [e1, e2]
  rfl
theorem ext_end {l : List D2} : ext (l.drop (l.length - 1)) = [] := by
  cases l with
  | nil => rfl
  | cons a l =>
    have h : (a :: l).length - 1 < (a :: l).length := by simp
    rw [List.drop_eq_getElem_cons h]
    have : (a :: l).drop ((a :: l).length - 1 + 1) = [] := List.drop_eq_nil_of_le (by simp)
    rw [this]
    rfl
theorem getD_dy {l : List D2} {i : Nat} (h : i < l.length) : (l.map dy).getD i .non = dy (l.getD i (0, 0)) := by
  rw [List.getD_eq_getElem?_getD, List.getElem?_map, List.getElem?_eq_getElem h, List.getD_eq_getElem?_getD, List.getElem?_eq_getElem h]; rfl
theorem getD_mem {l : List D2} {i : Nat} (h : i < l.length) : l.getD i (0, 0) ∈ l := by
  rw [List.getD_eq_getElem?_getD, List.getElem?_eq_getElem h]; exact List.getElem_mem h
theorem headD_getD {l : List D2} : l.headD (0, 0) = l.getD 0 (0, 0) := by cases l <;> rfl
abbrev sDL : Stmt := topS 37
theorem scDL : FnScope ["days", "found", "day", "later", "one", "other"] ["days"] (defScope sDL) := ⟨rfl, rfl, rfl, by decide +kernel, rfl, by decide +kernel, by decide +kernel⟩
def cDL : Ct := fun as μ post => μ = [] ∧ ∃ d : Nat, d ≤ 10 ∧ as = [.im (.int (d : Nat))] ∧ post (.own 0) [.lst ((dl d).map dy)]
theorem okDL (hBE : BE c) (b_zip : c.mg "zip" = none) (g : GT c "NOTHING" (dy (0, 0))) (hP : Callee c "plus_dyadic" 2 2 cPlus) (hH : Callee c "half_dyadic" 2 1 cHalf) (F : Fun c.K "dyadics_by" "dyadics_by" sDL f fd) : FnOk c.P c.w c.K c.mg c.base CX0 3 f fd ["days"] (spOf c.K cDL 1) := by
  obtain ⟨b_len, b_isi, b_int, b_bool, b_str, b_tuple, b_list, b_dict, b_range, b_enumerate, b_all, b_max, b_min⟩ := hBE
  refine fn_abs F scDL (fun as μ post h => by obtain ⟨rfl, d, _, rfl, _⟩ := h; rfl) ?_
  intro cdv A outer s H EX as μ post hF ck
  obtain ⟨rfl, d, hd, rfl, hq⟩ := hF
  refine ss_cons ?_
  walk_at "al e"
  refine ss_cons ?_
  refine s1_forS (P := Unit) 0 (fun i _ => [some (.im (.int (d : Nat))), some (.own 0), none, none, none, none]) (fun i _ => [.lst ((dl i).map dy)]) (fun _ _ => True) ck ?_ ?_
  · exact Nat.le_refl 0
  refine si_range2 ck b_range ?_
  walk_at "al"
  have en : (((d : Int) + 1 - 1)).toNat = d := by omega
  rw [en]
  refine ⟨⟨by decide, by decide, by omega, by omega⟩, Nat.zero_le _, fun p hp => (by cases hp), ⟨(), [0], trivial, by decide, fun i hi => absurd hi (by omega), .cons rfl .nil, .cons rfl (.cons rfl (.cons trivial (.cons trivial (.cons trivial (.cons trivial .nil)))))⟩, fun i p hi _ q hq => by simp at hq, fun i p hi _ => ?_, fun p _ => ?_⟩
  · obtain ⟨lo, ll, l0⟩ := dl_at (n := i) (by omega)
    try dsimp only
    have hx0 : atI ((dl i).map dy) 0 = some (dy ((dl i).headD (0, 0))) := by
      refine atI_nat (j := 0) ?_
      rw [List.getElem?_map, List.getElem?_eq_getElem l0, headD_getD, List.getD_eq_getElem?_getD, List.getElem?_eq_getElem l0]; rfl
    walk_at "al e"
    refine ss_cons ?_
    walk_at "al e"
    refine ss_cons ?_
    have ecut : AL.cutD ((dl i).map dy) (some 1) none = ((dl i).drop 1).map dy := by
      rw [show (1 : Int) = ((1 : Nat) : Int) from rfl, cut_from, List.map_drop]
    refine s1_for (P := List D2) (fun _ _ => [some (.im (.int (d : Nat))), some (.own 0), some (.im (.int (1 + (i : Nat)))), some (.own 1), none, none]) (fun j p => [.lst ((dl i).map dy), .lst (p.map dy), .lst (AL.cutD ((dl i).map dy) (some 1) none)]) (fun j p => p.length = 2 + 2 * j ∧ p ++ ext ((dl i).drop j) = (-((i : Int) + 1), 0) :: (dl i).headD (0, 0) :: ext (dl i)) ck ?_
    refine si_zip ck b_zip ?_
    walk_at "al"
    refine ⟨0, 2, _, _, rfl, rfl, rfl, ?_⟩
    have elen : min ((dl i).map dy).length (AL.cutD ((dl i).map dy) (some 1) none).length = (dl i).length - 1 := by
      rw [ecut, List.length_map, List.length_map, List.length_drop]; omega
    rw [elen]
    refine ⟨⟨[(-((i : Int) + 1), 0), (dl i).headD (0, 0)], ⟨rfl, rfl⟩, ?_, ?_⟩, fun j p hj _ q hq => ?_, fun j p hj hp => ?_, fun p hp => ?_⟩
    · exact .cons rfl (.cons ⟨rfl, by show 0 < 3; decide⟩ (.cons rfl (.cons ⟨rfl, by show 1 < 3; decide⟩ (.cons trivial (.cons trivial .nil)))))
    · show [M.lst ((dl i).map dy), M.lst _, M.lst _] = [M.lst ((dl i).map dy), M.lst _, M.lst _]
      rw [show -(1 + (i : Int)) = -((i : Int) + 1) by omega]
      rfl
    · simp only [List.mem_cons, List.not_mem_nil, or_false] at hq
      rcases hq with rfl | rfl <;> rfl
    · obtain ⟨hpl, hpe⟩ := hp
      have o1 := lo _ (getD_mem (i := j) (l := dl i) (by omega))
      have o2 := lo _ (getD_mem (i := j + 1) (l := dl i) (by omega))
      have e1 : ((dl i).map dy).getD j .non = dy ((dl i).getD j (0, 0)) := getD_dy (by omega)
      have e2 : (AL.cutD ((dl i).map dy) (some 1) none).getD j .non = dy ((dl i).getD (j + 1) (0, 0)) := by
        rw [ecut, getD_dy (by rw [List.length_drop]; omega), List.getD_eq_getElem?_getD, List.getElem?_drop, List.getD_eq_getElem?_getD, show 1 + j = j + 1 by omega]
      dsimp only
      rw [e1, e2]
      walk_at "al"
      refine uPlus (ok_small o1) (ok_small o2) ?_
      walk_at "al"
      refine uHalf (ok_plus o1 o2) ?_
      walk_at "al"
      refine ⟨_, _, rfl, rfl, by rw [List.length_map, hpl]; show 2 + 2 * j + 2 ≤ _; omega, ?_⟩
      refine ss_nil ⟨p ++ [half (plus ((dl i).getD j (0, 0)) ((dl i).getD (j + 1) (0, 0))), (dl i).getD (j + 1) (0, 0)], ⟨by rw [List.length_append, hpl]; show 2 + 2 * j + 2 = _; omega, ?_⟩, ?_, ?_⟩
      · rw [← hpe, ext_drop (i := j) (by omega), List.append_assoc]; rfl
      · exact .cons rfl (.cons ⟨rfl, by show 0 < 3; decide⟩ (.cons rfl (.cons ⟨rfl, by show 1 < 3; decide⟩ (.cons trivial (.cons trivial .nil)))))
      · simp only [List.map_append]
        rfl
    · obtain ⟨hpl, hpe⟩ := hp
      rw [ext_end, List.append_nil] at hpe
      have hll : p.length ≤ 4300 := by rw [hpl]; omega
      walk_at "al"
      refine op_catL (j1 := 1) (j2 := 3) rfl rfl (by rw [List.length_map]; show p.length + 1 ≤ _; omega) ?_
      walk_at "al"
      refine ss_nil ⟨(), [4], trivial, by decide, fun i hi => absurd hi (by omega), .cons ?_ .nil, .cons rfl (.cons rfl (.cons trivial (.cons trivial (.cons trivial (.cons trivial .nil)))))⟩
      show some (M.lst (p.map dy ++ [D.tup [D.int (1 + (i : Nat)), D.int 1]])) = some (M.lst ((nextL (dl i) (i + 1)).map dy))
      have ec : ((i + 1 : Nat) : Int) = (i : Int) + 1 := by omega
      rw [hpe, Int.add_comm 1 (i : Int)]
      simp only [nextL, ec, List.map_cons, List.map_append, List.cons_append, List.map_nil]
      rfl
  · walk_at "al"
    exact rt_new (n := 0) (j := 0) rfl (Nat.le_refl _) rfl hq
theorem uDL {i : Int} (d : Nat) (hd : d ≤ 10) (e : i = (d : Int)) (h : k (.own μ.length) (μ ++ [.lst ((dl d).map dy)])) : [AV.im (.int i)].length = 1 ∧ CL cDL [.im (.int i)] μ k := by
  subst e
  exact clN _ rfl (.cons rfl .nil) (fun post hp => ⟨rfl, d, hd, rfl, hp⟩) h
abbrev sDDays : Stmt := topS 38
theorem scDDays : FnScope ["days"] ["days"] (defScope sDDays) := ⟨rfl, rfl, rfl, by decide +kernel, rfl, by decide +kernel, by decide +kernel⟩
def cDDays : Ct := fun as μ post => μ = [] ∧ ∃ d : Nat, d ≤ 10 ∧ as = [.im (.int (d : Nat))] ∧ post (.im (.tup ((dl d).map dy))) []
theorem okDDays (hBE : BE c) {t1 : Tok} (g1 : c.mg "MOST_LIST_DAYS" = some (.int 10 t1)) (hA : Callee c "is_among" 2 3 cIsAmong) (hD : Callee c "dyadics_by" 3 1 cDL) (F : Fun c.K "dyadics_of_days" "dyadics_of_days" sDDays f fd) : FnOk c.P c.w c.K c.mg c.base CX0 4 f fd ["days"] (spOf c.K cDDays 1) := by
  obtain ⟨b_len, b_isi, b_int, b_bool, b_str, b_tuple, b_list, b_dict, b_range, b_enumerate, b_all, b_max, b_min⟩ := hBE
  refine fn_abs F scDDays (fun as μ post h => by obtain ⟨rfl, d, _, rfl, _⟩ := h; rfl) ?_
  intro cdv A outer s H EX as μ post hF ck
  obtain ⟨rfl, d, hd, rfl, hq⟩ := hF
  walk_at "al"
  rw [decide_eq_true (show (0 : Int) ≤ (d : Int) ∧ (d : Int) ≤ 10 by omega)]
  walk_at "al"
  refine ss_nil ?_
  walk_at "al"
  refine uDL d hd rfl ?_
  walk_at "al"
  exact rt_im rfl hq
theorem uDDays {i : Int} (d : Nat) (hd : d ≤ 10) (e : i = (d : Int)) (h : k (.im (.tup ((dl d).map dy))) μ) : [AV.im (.int i)].length = 1 ∧ CL cDDays [.im (.int i)] μ k := by
  subst e
  exact clI _ rfl (.cons rfl .nil) (fun post hp => ⟨rfl, d, hd, rfl, hp⟩) h
abbrev sOrder : Stmt := topS 21
theorem scOrder : FnScope ["one", "other"] ["one", "other"] (defScope sOrder) := ⟨rfl, rfl, rfl, by decide +kernel, rfl, by decide +kernel, by decide +kernel⟩
def cOrder : Ct := fun as μ post => μ = [] ∧ ∃ x y : D2, DyS x ∧ DyS y ∧ ltD x y ∧ as = [.im (dy x), .im (dy y)] ∧ post (.im (.int (-1))) []
theorem py_dy (x : D2) : (dy x).plain = true := by
  unfold dy; simp [D.plain, plains]
theorem okOrder (hL : Callee c "is_less_dyadic" 1 2 cLess) (F : Fun c.K "order_dyadics" "order_dyadics" sOrder f fd) : FnOk c.P c.w c.K c.mg c.base CX0 2 f fd ["one", "other"] (spOf c.K cOrder 2) := by
  refine fn_abs F scOrder (fun as μ post h => by obtain ⟨rfl, x, y, _, _, _, rfl, _⟩ := h; rfl) ?_
  intro cdv A outer s H EX as μ post hF ck
  obtain ⟨rfl, x, y, hx, hy, hlt, rfl, hq⟩ := hF
  have e0 : PyData.eqv (dy x).py (dy y).py = false := by
    unfold dy
    simp only [D.py, pys, PyData.eqv, PyData.eqvAll, Bool.and_true]
    rw [Bool.eq_false_iff]
    intro z
    rw [Bool.and_eq_true, beq_iff_eq, beq_iff_eq] at z
    have hlt : x.1 * 2 ^ y.2 < y.1 * 2 ^ x.2 := hlt
    rw [z.1, z.2] at hlt
    exact absurd hlt (Int.lt_irrefl _)
  have p1 : ∀ z : D2, pyOf [] (.im (dy z)) = some (dy z).py := fun z => by
    show (if (dy z).plain = true then some (dy z).py else none) = _
    rw [if_pos (py_dy z)]
  walk_at "al"
  refine op_eqG ck (p1 x) (p1 y) (by unfold dy; rw [D.py]; rfl) (by unfold dy; rw [D.py]; rfl) e0 ?_
  walk_at "al"
  refine ss_nil ?_
  walk_at "al"
  refine uLess hx hy ?_
  rw [decide_eq_true hlt]
  walk_at "al"
  exact rt_im rfl hq
theorem uOrder {x y : D2} (hx : DyS x) (hy : DyS y) (hlt : ltD x y) (h : k (.im (.int (-1))) μ) : [AV.im (dy x), AV.im (dy y)].length = 2 ∧ CL cOrder [.im (dy x), .im (dy y)] μ k :=
  clI _ rfl (.cons rfl (.cons rfl .nil)) (fun post hp => ⟨rfl, x, y, hx, hy, hlt, rfl, hp⟩) h
abbrev sCompare : Stmt := topS 24
theorem scCompare : FnScope ["one", "other"] ["one", "other"] (defScope sCompare) := ⟨rfl, rfl, rfl, by decide +kernel, rfl, by decide +kernel, by decide +kernel⟩
def cCompare : Ct := fun as μ post => μ = [] ∧ ∃ x y : D2, DyOk x ∧ DyOk y ∧ ltD x y ∧ as = [.im (dy x), .im (dy y)] ∧ post (.im (.int (-1))) []
theorem okCompare (hT : Callee c "need_two_dyadics" 4 2 cTwo) (hO : Callee c "order_dyadics" 2 2 cOrder) (F : Fun c.K "compare_dyadics" "compare_dyadics" sCompare f fd) : FnOk c.P c.w c.K c.mg c.base CX0 5 f fd ["one", "other"] (spOf c.K cCompare 2) := by
  refine fn_abs F scCompare (fun as μ post h => by obtain ⟨rfl, x, y, _, _, _, rfl, _⟩ := h; rfl) ?_
  intro cdv A outer s H EX as μ post hF ck
  obtain ⟨rfl, x, y, hx, hy, hlt, rfl, hq⟩ := hF
  walk_at "al"
  refine uTwo hx hy ?_
  walk_at "al"
  refine uOrder hx.small hy.small hlt ?_
  exact rt_im rfl hq
theorem uCompare {x y : D2} (hx : DyOk x) (hy : DyOk y) (hlt : ltD x y) (h : k (.im (.int (-1))) μ) : [AV.im (dy x), AV.im (dy y)].length = 2 ∧ CL cCompare [.im (dy x), .im (dy y)] μ k :=
  clI _ rfl (.cons rfl (.cons rfl .nil)) (fun post hp => ⟨rfl, x, y, hx, hy, hlt, rfl, hp⟩) h
/-! ### the law's own lists of days -/
def fineE (d : Nat) (w : Int) : Nat := ((d : Int) - maxI (absI w) (absI (w + 1))).toNat
def ldayW (d : Nat) (i : Nat) : List D2 := (List.range (2 ^ fineE d ((i : Int) - d))).map fun p : Nat => mk (((i : Int) - d) * 2 ^ fineE d ((i : Int) - d) + (p : Int)) (fineE d ((i : Int) - d))
def ldays (d : Nat) : List D2 := ((List.range (2 * d)).flatMap (ldayW d)) ++ [((d : Int), 0)]
abbrev sLDays : Stmt := topS 42
theorem scLDays : FnScope ["days", "found", "whole", "bottom", "part"] ["days"] (defScope sLDays) := ⟨rfl, rfl, rfl, by decide +kernel, rfl, by decide +kernel, by decide +kernel⟩
def cLDays : Ct := fun as μ post => μ = [] ∧ ∃ d : Nat, d ≤ 10 ∧ as = [.im (.int (d : Nat))] ∧ post (.own 0) [.lst ((ldays d).map dy)]
theorem okLDays (hBE : BE c) (b_abs : c.mg "abs" = none) (hM : Callee c "_law_made" 1 2 cMade) (F : Fun c.K "_law_days_of" "_law_days_of" sLDays f fd) : FnOk c.P c.w c.K c.mg c.base CX0 2 f fd ["days"] (spOf c.K cLDays 1) := by
  obtain ⟨b_len, b_isi, b_int, b_bool, b_str, b_tuple, b_list, b_dict, b_range, b_enumerate, b_all, b_max, b_min⟩ := hBE
  refine fn_abs F scLDays (fun as μ post h => by obtain ⟨rfl, d, _, rfl, _⟩ := h; rfl) ?_
  intro cdv A outer s H EX as μ post hF ck
  obtain ⟨rfl, d, hd, rfl, hq⟩ := hF
  refine ss_cons ?_
  walk_at "al e"
  refine ss_cons ?_
  refine s1_for (P := List D2) (fun i _ => [some (.im (.int (d : Nat))), some (.own 0), none, none, none]) (fun i p => [.lst (p.map dy)]) (fun i p => p.length ≤ 1100 * i ∧ p = (List.range i).flatMap (ldayW d)) ck ?_
  refine si_range2 ck b_range ?_
  walk_at "al"
  have en : (((d : Int) - (0 - (d : Int)))).toNat = 2 * d := by omega
  rw [en]
  refine ⟨⟨by omega, by omega, by omega, by omega⟩, ⟨[], ⟨Nat.zero_le _, rfl⟩, .cons rfl (.cons ⟨rfl, Nat.lt_succ_self 0⟩ (.cons trivial (.cons trivial (.cons trivial .nil)))), rfl⟩, fun i p hi _ q hq => by simp at hq, fun i p hi hp => ?_, fun p hp => ?_⟩
  · obtain ⟨hpl, hpe⟩ := hp
    dsimp only
    rw [show (0 - (d : Int) + (i : Int)) = (i : Int) - d by omega]
    have he : (d : Int) - maxI (absI ((i : Int) - d)) (absI ((i : Int) - d + 1)) = (fineE d ((i : Int) - d) : Int) ∧ fineE d ((i : Int) - d) ≤ 10 := by
      unfold fineE maxI absI
      split <;> split <;> split <;> omega
    obtain ⟨he, he2⟩ := he
    have hew : ldayW d i = (List.range (2 ^ fineE d ((i : Int) - d))).map fun p : Nat => mk (((i : Int) - d) * 2 ^ fineE d ((i : Int) - d) + (p : Int)) (fineE d ((i : Int) - d)) := rfl
    generalize fineE d ((i : Int) - d) = E at he he2 hew
    have hpw : (2 : Int) ^ E ≤ 1024 := pow_le2 (b := 10) he2
    have hpw0 := pow_pos2 E
    have hpn : (2 : Int) ^ E = ((2 ^ E : Nat) : Int) := by simp
    have hnn : 2 ^ E ≤ 1024 := Nat.pow_le_pow_right (n := 2) (by decide) he2
    walk_at "al e"
    refine ss_cons ?_
    walk_at "al e"
    refine op_shl1 E he (by omega) ?_
    walk_at "al e"
    refine ss_cons ?_
    walk_at "al e"
    refine se_lcP [("part", 4)] [.lst (p.map dy)] (fun _ => true) (fun t => dy (mk (((i : Int) - d) * 2 ^ E + (t : Int)) E)) ck (by walk_at "al at") (by decide) (fun _ => (show BlkOk ["days", "found", "whole", "bottom", "part"] (defScope sLDays) _ [("part", 4)] from ⟨rfl, by decide +kernel, by decide +kernel, by decide +kernel, by decide +kernel⟩)) (fun _ => Or.inl rfl) (fun _ => Or.inr rfl) ?_
    intro ckb
    refine si_range1 ck b_range ?_
    walk_at "al"
    have er : ((2 : Int) ^ E).toNat = 2 ^ E := by rw [hpn, Int.toNat_natCast]
    rw [er]
    refine ⟨by omega, by omega, lcm_all rfl (fun z hz => by simp at hz) (by omega) (fun t ht m => ?_) ?_⟩
    · have hcm : CMulX ((i : Int) - d) (2 ^ E) := sm_mul (m := 20) (n := 20) (sm_of (by omega) (by omega)) (sm_pow (by omega)) (by decide)
      have e0 : (0 + (t : Int)) = (t : Int) := by omega
      rw [e0]
      walk_at "al"
      refine uMade E rfl ?_
      exact ⟨rfl, rfl⟩
    · refine ⟨1, rfl, _, _, rfl, rfl, ?_, ?_⟩
      · rw [List.length_map, List.length_map, List.length_range]
        have : 1100 * i ≤ 1100 * 20 := Nat.mul_le_mul_left _ (by omega)
        omega
      · refine ss_nil ⟨p ++ ldayW d i, ⟨?_, ?_⟩, .cons rfl (.cons ⟨rfl, Nat.lt_succ_self 0⟩ (.cons trivial (.cons trivial (.cons trivial .nil)))), ?_⟩
        · rw [List.length_append, hew, List.length_map, List.length_range]; omega
        · rw [List.range_succ, List.flatMap_append, ← hpe, List.flatMap_cons, List.flatMap_nil, List.append_nil]
        · show [M.lst (p.map dy ++ _)] = [M.lst ((p ++ ldayW d i).map dy)]
          rw [List.map_append, hew, List.map_map]
          rfl
  · obtain ⟨hpl, hpe⟩ := hp
    subst hpe
    walk_at "al"
    refine op_catL (j1 := 0) (j2 := 1) rfl rfl ?_ ?_
    · rw [List.length_map]
      have : 1100 * (2 * d) ≤ 1100 * 20 := Nat.mul_le_mul_left _ (by omega)
      show _ + 1 ≤ _
      omega
    · refine rt_new (n := 0) (j := 2) rfl (Nat.zero_le _) rfl ?_
      have e : (ldays d).map dy = ((List.range (2 * d)).flatMap (ldayW d)).map dy ++ [D.tup [D.int (d : Nat), D.int 1]] := by
        unfold ldays
        rw [List.map_append]
        rfl
      rw [e] at hq
      exact hq
theorem uLDays {i : Int} (d : Nat) (hd : d ≤ 10) (e : i = (d : Int)) (h : k (.own μ.length) (μ ++ [.lst ((ldays d).map dy)])) : [AV.im (.int i)].length = 1 ∧ CL cLDays [.im (.int i)] μ k := by
  subst e
  exact clN _ rfl (.cons rfl .nil) (fun post hp => ⟨rfl, d, hd, rfl, hp⟩) h
end
section
variable {c : Cfg} {f : Addr} {fd : FuncData} {μ : List M} {k : AV → List M → Prop}
/-! ### one number right -/
theorem Far.ok {x : D2} (h : Far x) : DyOk x := ⟨h.rd, by have := h.lo; omega, by have := h.hi; omega, by have := h.k; omega⟩
theorem Far.sm {x : D2} (h : Far x) : Sm 1000 x.1 := sm_mono (m := 110) (by decide) (sm_of (by have := h.lo; omega) (by have := h.hi; omega))
theorem Far.w1 {x : D2} (h : Far x) : -2000000 ≤ whole x := (Int.le_ediv_iff_mul_le (pow_pos2 x.2)).mpr (by have := h.v1; rw [← Int.neg_mul] at this; exact this)
theorem Far.w2 {x : D2} (h : Far x) : whole x < 2000000 := Int.ediv_lt_of_lt_mul (pow_pos2 x.2) h.v2
theorem Far.day {x : D2} (h : Far x) : 0 ≤ dayI x ∧ dayI x ≤ 2000100 := by
  have h1 := h.w1
  have h2 := h.w2
  have h3 := h.k
  unfold dayI
  split
  · rename_i e
    have : whole x = x.1 := by
      unfold whole
      rw [e, Int.pow_zero, Int.ediv_one]
    rw [this] at h1 h2
    unfold absI; split <;> omega
  · unfold maxI absI; split <;> split <;> split <;> omega
theorem fine_less {x : D2} {d : Nat} (hx : Far x) (h : dayI x = (d : Int) + 1) : FineOk x d ∧ FineOk (neg x) d := by
  have h3 := hx.k
  obtain ⟨t, m⟩ := x
  unfold FineOk
  rcases Nat.eq_zero_or_pos m with hm | hm
  · subst hm
    rw [day_whole] at h
    have e1 : whole (t, 0) = t := Int.ediv_one t
    have e2 : whole (neg (t, 0)) = -t := Int.ediv_one (-t)
    rw [e1, e2]
    unfold absI at h
    unfold maxI absI
    constructor <;> (split at h <;> (repeat' split) <;> omega)
  · have ho := rd_odd hx.rd hm
    rw [day_odd hm] at h
    have e2 : whole (neg (t, m)) = -(t / 2 ^ m) - 1 := whole_neg ho hm
    have h3 : m ≤ 60 := h3
    rw [e2, max_neg]
    show (d : Int) - maxI (absI (t / 2 ^ m)) (absI (t / 2 ^ m + 1)) ≤ 1000 ∧ _
    constructor <;> omega
theorem simp_lt {l h y : D2} (hS : Simp (some l) (some h) y) : ltD l h := by
  cases hS with
  | zero h1 h2 h3 =>
    have a := h1 l rfl
    have b := h2 h rfl
    have p1 := Int.mul_neg_of_neg_of_pos a (pow_pos2 h.2)
    have p2 := Int.mul_pos b (pow_pos2 l.2)
    show l.1 * 2 ^ h.2 < h.1 * 2 ^ l.2
    omega
  | pos l' e1 h1 h2 h3 =>
    cases e1
    have a := h3 h rfl
    have hN : ∃ N, l.2 ≤ N ∧ h.2 ≤ N ∧ y.2 ≤ N := ⟨l.2 + h.2 + y.2, by omega, by omega, by omega⟩
    obtain ⟨N, n1, n2, n3⟩ := hN
    rw [ltD_sc n3 n2] at a
    rw [ltD_sc n1 n2]
    have w := (whole_le n1).2
    have : sc N y = (l.1 / 2 ^ l.2 + 1) * 2 ^ N := by rw [h2]; rfl
    omega
  | neg h' e1 h1 h2 h3 =>
    cases e1
    have a := (h2 l rfl).2
    have hN : ∃ N, l.2 ≤ N ∧ h.2 ≤ N ∧ y.2 ≤ N := ⟨l.2 + h.2 + y.2, by omega, by omega, by omega⟩
    obtain ⟨N, n1, n2, n3⟩ := hN
    rw [ltD_sc n1 n3] at a
    rw [ltD_sc n1 n2]
    have w := (whole_le (N := N) (x := (-h.1, h.2)) n2).2
    rw [sc_neg] at w
    have w : - sc N h < (-h.1 / 2 ^ h.2 + 1) * 2 ^ N := w
    have e : sc N y = (-(-h.1 / 2 ^ h.2) - 1) * 2 ^ N := by rw [h3]; rfl
    rw [show -(-h.1 / 2 ^ h.2) - 1 = -(-h.1 / 2 ^ h.2 + 1) by omega, Int.neg_mul] at e
    omega
  | mid N l' h' w e1 e2 hM _ _ =>
    cases e1; cases e2
    rw [ltD_sc hM.nl hM.nh]
    have := hM.b
    have := hM.c
    omega
theorem ab_rd {x : D2} {d : Nat} {y : D2} (h : ab x d = some y) : Rd0 y := by
  unfold ab at h
  split at h
  · split at h
    · cases h; exact .inl rfl
    · cases h; exact mk_rd _ _
  · cases h
theorem neg_rd {y : D2} (h : Rd0 y) : Rd0 (neg y) := by
  rcases h with h | h
  · exact .inl h
  · exact .inr (by show (-y.1) % 2 = 1; omega)
theorem low_rd {x : D2} {d : Nat} {y : D2} (h : lowN x d = some y) : Rd0 y := by
  unfold lowN at h
  cases e : ab (neg x) d with
  | none => rw [e] at h; cases h
  | some z => rw [e] at h; cases h; exact neg_rd (ab_rd e)
/-- too great to be handed in -/
def bigB (x : D2) : Bool := decide (10 ^ 30 < absI x.1) || decide ((2 : Int) ^ 64 < 2 ^ x.2)
theorem not_big {x : D2} (rd : Rd0 x) (h : bigB x = false) : DyOk x := by
  unfold bigB at h
  rw [Bool.or_eq_false_iff, decide_eq_false_iff_not, decide_eq_false_iff_not] at h
  obtain ⟨h1, h2⟩ := h
  refine ⟨rd, ?_, ?_, ?_⟩
  · unfold absI at h1; split at h1 <;> omega
  · unfold absI at h1; split at h1 <;> omega
  · rcases Nat.lt_or_ge 64 x.2 with z | z
    · exfalso
      apply h2
      exact_mod_cast Nat.pow_lt_pow_right (show 1 < 2 by decide) z
    · exact z
theorem lk_dy {x : D2} {n : Nat} : lk (n + 1) (dy x) := .inr ⟨_, rfl, Nat.le_of_ble_eq_true rfl, fun z hz => by
  simp only [List.mem_cons, List.not_mem_nil, or_false] at hz
  rcases hz with rfl | rfl <;> exact lk_sc trivial⟩
theorem lk_opt {o : Option D2} {n : Nat} : lk (n + 1) (optD o) := by
  cases o with
  | none => exact lk_sc trivial
  | some x => exact lk_dy
theorem lk_par {p : Option D2 × Option D2} {n : Nat} : lk (n + 2) (parT p) := .inr ⟨_, rfl, Nat.le_of_ble_eq_true rfl, fun z hz => by
  simp only [List.mem_cons, List.not_mem_nil, or_false] at hz
  rcases hz with rfl | rfl <;> exact lk_opt⟩
def ends (lo hi : Option D2) : List D2 := lo.toList ++ hi.toList
theorem lay_dys (l : List D2) : (l.map dy).all (lay 1) = true := by
  rw [List.all_map, List.all_eq_true]
  intro x _
  rfl
end
section
variable {c : Cfg} {f : Addr} {fd : FuncData} {μ : List M} {k : AV → List M → Prop}
theorem ends_eq (lo hi : Option D2) : (((List.range 2).filter fun t => !isNon (.im ([optD lo, optD hi].getD t .non))).map fun t => [optD lo, optD hi].getD t .non) = (ends lo hi).map dy := by
  cases lo <;> cases hi <;> rfl
theorem ends_len (lo hi : Option D2) : (ends lo hi).length ≤ 2 := by cases lo <;> cases hi <;> exact Nat.le_of_ble_eq_true rfl
theorem plus_half {a : Int} {e : Nat} : mk (mk (2 * a + 1) e).1 ((mk (2 * a + 1) e).2 + 1) = (2 * a + 1, e + 1) := by
  have := middle (a := a) (j := e)
  rw [plus_grid] at this
  exact this
theorem both_ok {a w : Int} {e : Nat} (he : e < 60) (h1 : w * 2 ^ e ≤ a) (h2 : a + 1 ≤ (w + 1) * 2 ^ e) (w1 : -2000000 ≤ w) (w2 : w < 2000000) : -10000000000000000000000000 ≤ 2 * a + 1 ∧ 2 * a + 1 ≤ 10000000000000000000000000 := by
  have hp := pow_pos2 e
  have hp2 := pow_le2 (a := e) (b := 60) (by omega)
  have hp2 : (2 : Int) ^ e ≤ 1152921504606846976 := hp2
  generalize (2 : Int) ^ e = P at *
  have a1 := Int.mul_le_mul_of_nonneg_right w1 (Int.le_of_lt hp)
  have a2 := Int.mul_le_mul_of_nonneg_right (show w + 1 ≤ 2000000 by omega) (Int.le_of_lt hp)
  constructor <;> omega
abbrev sOne : Stmt := topS 54
abbrev nOne : List Str := ["m", "number", "days", "low", "high", "day", "ends", "told", "both", "end"]
theorem scOne : FnScope nOne ["m", "number", "days"] (defScope sOne) := ⟨rfl, rfl, rfl, by decide +kernel, rfl, by decide +kernel, by decide +kernel⟩
def cOne : Ct := fun as μ post => ∃ (n : Nat) (x : D2) (d : Nat), Far x ∧ d ≤ 1000 ∧ μ = [.drw n] ∧ as = [.own 0, .im (dy x), .im (.int (d : Nat))] ∧ post (.im (.bl true)) [.drw n]
theorem okOne (hBE : BE c) (b_abs : c.mg "abs" = none) (hB : Callee c "_law_both" 3 2 cLBoth) (hL : Callee c "_law_like" 4 2 (cLike 3)) (hNb : Callee c "neighbours_of" 4 2 cNb) (hD : Callee c "_law_day" 2 1 cDayBy) (hDO : Callee c "day_of" 4 1 cDayOf) (hP : Callee c "parents_of" 4 1 cParOf) (hS : Callee c "simplest_between" 5 2 cSBt) (hLP : Callee c "_law_plus" 2 2 cPlus) (hM : Callee c "_law_made" 1 2 cMade) (hDH : Callee c "dyadic_half" 4 1 cDHalf) (hDS : Callee c "dyadic_sum" 5 2 cDSum) (F : Fun c.K "_law_one_right" "_law_one_right" sOne f fd) : FnOk c.P c.w c.K c.mg c.base CX0 6 f fd ["m", "number", "days"] (spOf c.K cOne 3) := by
  obtain ⟨b_len, b_isi, b_int, b_bool, b_str, b_tuple, b_list, b_dict, b_range, b_enumerate, b_all, b_max, b_min⟩ := hBE
  refine fn_abs F scOne (fun as μ post h => by obtain ⟨n, x, d, _, _, _, rfl, _⟩ := h; rfl) ?_
  intro cdv A outer s H EX as μ post hF ck
  obtain ⟨n, x, d, hx, hd, rfl, rfl, hq⟩ := hF
  have hxo := hx.ok
  have hk60 := hx.k
  obtain ⟨hd0, hd1⟩ := hx.day
  walk_at "al"
  refine uLBoth d hx.sm (by omega) (by omega) (fine_few hd) (fine_few hd) rfl ?_
  unfold parT
  walk_at "al"
  refine uNb d hxo hd rfl ?_
  walk_at "al"
  refine uLike (n := 3) (lk_par (p := (lowN x d, ab x d))) rfl ?_
  walk_at "al"
  refine ss_nil ?_
  walk_at "al"
  refine uDayBy (by omega) ?_
  walk_at "al e"
  refine ss_cut (fun δ' μ' => δ' = [some (.own 0), some (.im (dy x)), some (.im (.int (d : Nat))), some (.im (optD (lowN x d))), some (.im (optD (ab x d))), some (.im (.int (dayI x))), none, none, none, none] ∧ μ' = [.drw n]) ?_ ?_
  · walk_at "al"
    refine uDayOf hxo ?_
    walk_at "al"
    refine uParOf hxo ?_
    walk_at "al"
    refine if_dec (fun h1 => ?_) (fun h1 => ?_)
    · obtain ⟨dd, hdd⟩ : ∃ dd : Nat, dayI x = (dd : Int) + 1 := ⟨(dayI x - 1).toNat, by omega⟩
      obtain ⟨f1, f2⟩ := fine_less hx hdd
      walk_at "al"
      refine uLBoth dd hx.sm (by omega) (by omega) f1 f2 (by omega) ?_
      walk_at "al"
      refine uLike (n := 3) (.inr ⟨_, rfl, Nat.le_of_ble_eq_true rfl, fun z hz => ?_⟩) ?_ ?_
      · simp only [List.mem_cons, List.not_mem_nil, or_false] at hz
        rcases hz with rfl | rfl
        · exact lk_sc trivial
        · exact lk_par (n := 0)
      · rw [parents_next hx.rd hdd]
      · walk_at "al"
        exact ss_nil ⟨rfl, rfl⟩
    · have e0 : parD x = (none, none) := by
        obtain ⟨t, m⟩ := x
        have h0 : dayI (t, m) = 0 := by omega
        rcases Nat.eq_zero_or_pos m with hm | hm
        · subst hm
          rw [day_whole] at h0
          have : t = 0 := by unfold absI at h0; split at h0 <;> omega
          subst this
          rfl
        · exfalso
          rw [day_odd hm] at h0
          revert h0
          unfold maxI absI; split <;> split <;> split <;> omega
      walk_at "al"
      refine uLike (n := 3) (.inr ⟨_, rfl, Nat.le_of_ble_eq_true rfl, fun z hz => ?_⟩) ?_ ?_
      · simp only [List.mem_cons, List.not_mem_nil, or_false] at hz
        rcases hz with rfl | rfl
        · exact lk_sc trivial
        · exact lk_par (p := (none, none)) (n := 0)
      · rw [e0]; rfl
      · walk_at "al"
        exact ss_nil ⟨rfl, rfl⟩
  rintro δ' μ' ⟨rfl, rfl⟩
  refine ss_cons ?_
  have hlo : ∀ l, lowN x d = some l → Rd0 l := fun l h => low_rd h
  have hhi : ∀ l, ab x d = some l → Rd0 l := fun l h => ab_rd h
  generalize glo : lowN x d = lo at hlo ⊢
  generalize ghi : ab x d = hi at hhi ⊢
  refine s1_setLcP [("end", 9)] [.drw n] (fun t => !isNon (.im ([optD lo, optD hi].getD t .non))) (fun t => [optD lo, optD hi].getD t .non) ck (by walk_at "al at") (by walk_at "al at") (by decide) (fun _ => (show BlkOk nOne (defScope sOne) _ [("end", 9)] from ⟨rfl, by decide +kernel, by decide +kernel, by decide +kernel, by decide +kernel⟩)) (fun _ => Or.inl rfl) (fun _ => Or.inr rfl) (fun _ => rfl) (fun _ => rfl) ?_
  intro ckb
  refine si_tup ck ?_
  walk_at "al"
  refine lcm_if rfl (fun z hz => by simp at hz) (by show 2 < _; decide) (fun t ht m => ?_) ?_
  · walk_at "al"
    refine ⟨rfl, rfl, fun _ => ?_⟩
    walk_at "al"
    exact ⟨rfl, rfl⟩
  rw [show [optD lo, optD hi].length = 2 from rfl, ends_eq]
  walk_at "al"
  have hel := ends_len lo hi
  refine se_lcP [("end", 9)] [.drw n, .lst ((ends lo hi).map dy)] (fun t => bigB ((ends lo hi).getD t (0, 0))) (fun t => dy ((ends lo hi).getD t (0, 0))) ck (by walk_at "al at") (by decide) (fun _ => (show BlkOk nOne (defScope sOne) _ [("end", 9)] from ⟨rfl, by decide +kernel, by decide +kernel, by decide +kernel, by decide +kernel⟩)) (fun _ => Or.inl rfl) (fun _ => Or.inr rfl) ?_
  intro ckb
  refine si_own ck ?_
  walk_at "al"
  refine lcm_if rfl (fun z hz => by
    obtain rfl := List.mem_singleton.mp hz
    rfl) (by rw [List.length_map]; omega) (fun t ht m => ?_) ?_
  · rw [List.length_map] at ht
    rw [getD_dy ht]
    generalize (ends lo hi).getD t (0, 0) = y
    obtain ⟨a, p⟩ := y
    unfold dy
    walk_at "al"
    refine op_powI ⟨by decide, by decide, by decide⟩ ?_
    walk_at "al"
    refine if_dec (fun h1 => ?_) (fun h1 => ?_)
    · have hT : bigB (a, p) = true := by
        unfold bigB absI
        rw [Bool.or_eq_true]
        exact .inl (decide_eq_true h1)
      refine ⟨hT.symm, rfl, fun _ => ?_⟩
      walk_at "al"
      exact ⟨rfl, rfl⟩
    · walk_at "al"
      refine op_shl1 64 rfl (by decide) ?_
      walk_at "al"
      have hT : bigB (a, p) = decide ((2 : Int) ^ 64 < 2 ^ p) := by
        unfold bigB absI
        rw [show decide (10 ^ 30 < if a < 0 then -a else a) = false from decide_eq_false h1, Bool.false_or]
      refine ⟨hT.symm, rfl, fun _ => ?_⟩
      walk_at "al"
      exact ⟨rfl, rfl⟩
  walk_at "al"
  rw [List.length_map]
  generalize hfl : ((List.range (ends lo hi).length).filter fun t => bigB ((ends lo hi).getD t (0, 0))).map (fun t => dy ((ends lo hi).getD t (0, 0))) = fl
  have hlay : fl.all (lay 1) = true := by
    rw [← hfl, List.all_map, List.all_eq_true]
    intro t _
    rfl
  refine op_neNilL 1 ck rfl rfl hlay (by decide) ?_
  walk_at "al"
  cases hfe : fl.isEmpty with
  | false =>
    walk_at "al"
    exact rt_im rfl hq
  | true =>
  walk_at "al"
  refine ss_nil ?_
  have hb : ∀ y ∈ ends lo hi, bigB y = false := fun y hy => by
    rw [List.isEmpty_iff, ← hfl, List.map_eq_nil_iff, List.filter_eq_nil_iff] at hfe
    obtain ⟨t, ht, e⟩ := List.mem_iff_getElem.mp hy
    have := hfe t (List.mem_range.mpr ht)
    rw [List.getD_eq_getElem?_getD, List.getElem?_eq_getElem ht] at this
    rw [← e]
    exact Bool.eq_false_iff.mpr this
  have ol : OkO lo := fun l h => not_big (hlo l h) (hb l (by rw [h]; unfold ends; simp))
  have oh : OkO hi := fun l h => not_big (hhi l h) (hb l (by rw [h]; unfold ends; simp))
  have hslt : ∀ y, Simp lo hi y → ∀ l h, lo = some l → hi = some h → ltD l h := fun y hS l h e1 e2 => by
    subst e1 e2
    exact simp_lt hS
  by_cases hday : dayI x ≤ d
  · have hS := nb_few hx.rd hday
    rw [glo, ghi] at hS
    walk_at "al"
    refine uSBt rfl rfl ol oh (by omega) hS (hslt _ hS) ?_
    walk_at "al"
    rw [decide_eq_true hday]
    walk_at "al"
    refine uLike (n := 3) lk_dy rfl ?_
    exact rt_im rfl hq
  · have hM := nb_many (d := d) hx.rd (by omega)
    have hw1 := hx.w1
    have hw2 := hx.w2
    cases hM with
    | both a w e he h1 h2 h3 h4 h5 h6 =>
      rw [glo] at h1
      rw [ghi] at h2
      subst h1 h2
      have he : e < x.2 := he
      have h5 : w = whole x := h5
      have hS := simp_both h3 h4
      obtain ⟨bb1, bb2⟩ := both_ok (by omega) h3 h4 (by omega) (by omega)
      have okl := ol _ rfl
      have okh := oh _ rfl
      have oky : DyOk (2 * a + 1, e + 1) := ⟨.inr (by show (2 * a + 1) % 2 = 1; omega), by show _ ≤ 2 * a + 1; omega, by show 2 * a + 1 ≤ _; omega, by show e + 1 ≤ 64; omega⟩
      have okp : DyOk (mk (2 * a + 1) e) := by
        have hb2 := mk_bound (a := 2 * a + 1) (B := 10000000000000000000000000) (j := e) (by omega) (by omega)
        exact ⟨mk_rd _ _, by omega, by omega, by have := mk_le e (2 * a + 1); omega⟩
      walk_at "al"
      refine uSBt rfl rfl ol oh (by show e + 1 ≤ 65; omega) hS (hslt _ hS) ?_
      walk_at "al"
      rw [decide_eq_false hday]
      refine if_ff ?_
      refine ss_nil ?_
      show SS _ _ _ [_, _, _, some (.im (dy (mk a e))), some (.im (dy (mk (a + 1) e))), _, _, _, _, _] _ _
      walk_at "al"
      refine uPlus okl.small okh.small ?_
      rw [plus_grid]
      have eh : half (mk (2 * a + 1) e) = (2 * a + 1, e + 1) := plus_half
      have epg : plus (mk a e) (mk (a + 1) e) = mk (2 * a + 1) e := plus_grid
      generalize mk (2 * a + 1) e = z at okp eh epg ⊢
      generalize mk (a + 1) e = hh at *
      generalize mk a e = ll at *
      generalize hy : ((2 * a + 1, e + 1) : D2) = y at *
      obtain ⟨zt, zk⟩ := z
      have eh2 : mk zt (zk + 1) = y := eh
      rw [show dy (zt, zk) = .tup [.int zt, .int (2 ^ zk)] from rfl]
      have hzk : zk ≤ 64 := okp.k
      have hcm : CMulX ((2 : Int) ^ zk) 2 := sm_mul (m := 100) (n := 3) (sm_pow (by omega)) (sm_of (by decide) (by decide)) (by decide)
      walk_at "al"
      refine uMade (zk + 1) (Int.pow_succ 2 _).symm ?_
      rw [eh2]
      walk_at "al"
      refine uLike (n := 3) lk_dy rfl ?_
      walk_at "al"
      refine uDayOf oky ?_
      walk_at "al"
      refine uDSum okl okh ?_
      walk_at "al"
      rw [epg]
      refine uDHalf okp ?_
      walk_at "al"
      refine uLike (n := 3) (.inr ⟨_, rfl, Nat.le_of_ble_eq_true rfl, fun z hz => ?_⟩) ?_ ?_
      · simp only [List.mem_cons, List.not_mem_nil, or_false] at hz
        rcases hz with rfl | rfl
        · exact lk_sc trivial
        · exact lk_dy
      · rw [eh, h6]
      · exact rt_im rfl hq
    | up h1 h2 =>
      rw [glo] at h1
      rw [ghi] at h2
      subst h1 h2
      have hS := simp_up d
      walk_at "al"
      refine uSBt rfl rfl ol oh (Nat.zero_le _) hS (hslt _ hS) ?_
      walk_at "al"
      rw [decide_eq_false hday]
      refine if_ff ?_
      refine ss_nil ?_
      show SS _ _ _ [_, _, _, some (.im (.tup [.int (d : Nat), .int 1])), some (.im .non), _, _, _, _, _] _ _
      walk_at "al"
      refine ss_nil ?_
      walk_at "al"
      refine uLike (n := 3) (lk_dy (x := ((d : Int) + 1, 0))) rfl ?_
      exact rt_im rfl hq
    | down h1 h2 =>
      rw [glo] at h1
      rw [ghi] at h2
      subst h1 h2
      have hS := simp_down d
      walk_at "al"
      refine uSBt rfl rfl ol oh (Nat.zero_le _) hS (hslt _ hS) ?_
      walk_at "al"
      rw [decide_eq_false hday]
      refine if_ff ?_
      refine ss_nil ?_
      show SS _ _ _ [_, _, _, some (.im .non), some (.im (.tup [.int (-(d : Nat)), .int 1])), _, _, _, _, _] _ _
      walk_at "al"
      refine ss_nil ?_
      walk_at "al"
      refine uLike (n := 3) (lk_dy (x := (0 - (d : Int) - 1, 0))) rfl ?_
      exact rt_im rfl hq
end
section
variable {c : Cfg} {f : Addr} {fd : FuncData} {μ : List M} {k : AV → List M → Prop}
theorem uOne {n : Nat} {x : D2} {i : Int} (jo d : Nat) (hx : Far x) (hd : d ≤ 1000) (e : i = (d : Int)) (hj : μ[jo]? = some (.drw n)) (h : k (.im (.bl true)) μ) : [AV.own jo, AV.im (dy x), AV.im (.int i)].length = 3 ∧ CL cOne [.own jo, .im (dy x), .im (.int i)] μ k := by
  subst e
  exact clRI jo (.bl true) hj rfl (.cons asc_0 (.cons asc_im (.cons asc_im .nil))) (fun post hp => ⟨n, x, d, hx, hd, rfl, rfl, hp⟩) h
/-! ### by kernel -/
def okB (x : D2) : Bool := (x.2 == 0 || x.1 % 2 == 1) && decide (-1000000 ≤ x.1 ∧ x.1 ≤ 1000000) && decide (x.2 ≤ 40)
theorem okB_ok {x : D2} (h : okB x = true) : DyOk x := by
  unfold okB at h
  rw [Bool.and_eq_true, Bool.and_eq_true, Bool.or_eq_true, beq_iff_eq, beq_iff_eq, decide_eq_true_eq, decide_eq_true_eq] at h
  exact ⟨h.1.1, by omega, by omega, by omega⟩
def chk (d : Nat) : List D2 → Bool
  | [] => true
  | a :: l => match l with
    | [] => true
    | b :: r => (match r with
      | [] => true
      | q :: _ => decide (lowN b d = some a) && decide (ab b d = some q) && decide (ltD a b) && okB a && okB b) && chk d l
theorem chk_at {d : Nat} : ∀ {l : List D2} (i : Nat), chk d l = true → i + 2 < l.length → lowN (l.getD (i + 1) (0, 0)) d = some (l.getD i (0, 0)) ∧ ab (l.getD (i + 1) (0, 0)) d = some (l.getD (i + 2) (0, 0)) ∧ ltD (l.getD i (0, 0)) (l.getD (i + 1) (0, 0)) ∧ DyOk (l.getD i (0, 0)) ∧ DyOk (l.getD (i + 1) (0, 0))
  | [], i, _, hl => by simp at hl
  | [a], i, _, hl => by simp at hl
  | [a, b], i, _, hl => by have : i + 2 < 2 := hl; omega
  | a :: b :: q :: r, 0, h, _ => by
    have h : (decide (lowN b d = some a) && decide (ab b d = some q) && decide (ltD a b) && okB a && okB b && chk d (b :: q :: r)) = true := h
    simp only [Bool.and_eq_true, decide_eq_true_eq] at h
    exact ⟨h.1.1.1.1.1, h.1.1.1.1.2, h.1.1.1.2, okB_ok h.1.1.2, okB_ok h.1.2⟩
  | a :: b :: q :: r, i + 1, h, hl => by
    have h : (decide (lowN b d = some a) && decide (ab b d = some q) && decide (ltD a b) && okB a && okB b && chk d (b :: q :: r)) = true := h
    rw [Bool.and_eq_true] at h
    exact chk_at (l := b :: q :: r) i h.2 (by simpa using hl)
theorem days_same : ∀ j : Fin 4, dl (7 + j.val) = ldays (7 + j.val) := by decide +kernel
theorem days_chk : ∀ j : Fin 4, (chk (7 + j.val) (ldays (7 + j.val)) && decide (10 < (ldays (7 + j.val)).length) && decide ((ldays (7 + j.val)).length ≤ 2100)) = true := by decide +kernel
def third : D2 := (944067925, 20)
theorem third_ok : DyOk third := ⟨.inr rfl, by decide, by decide, by decide⟩
theorem third_nb : lowN third 1000 = some (mk (944067925 * 2 ^ 99 / 2 ^ 20 - 1) 99) ∧ ab third 1000 = some (mk (944067925 * 2 ^ 99 / 2 ^ 20 + 1) 99) := by decide +kernel
theorem half_ok : DyOk (1, 1) := ⟨.inr rfl, by decide, by decide, by decide⟩
theorem half_nb : ab (1, 1) 999 = some (2 ^ 997 + 1, 998) := by decide +kernel
end
section
variable {c : Cfg} {f : Addr} {fd : FuncData} {μ : List M} {k : AV → List M → Prop}
abbrev sLaw : Stmt := topS 55
abbrev nLaw : List Str := ["script", "m", "turn", "number", "day", "days", "due", "at", "third", "fine", "low"]
theorem scLaw : FnScope nLaw ["script"] (defScope sLaw) := ⟨rfl, rfl, rfl, by decide +kernel, rfl, by decide +kernel, by decide +kernel⟩
def cLaw : Ct := fun as μ post => μ = [] ∧ ∃ ns : List Int, ns.length ≤ 63 ∧ as = [.im (.fl (ns.map D.int))] ∧ post (.im (.bl true)) []
theorem okLaw (hBE : BE c) (hB : Callee c "_law_begun" 1 1 cBegun) (hF : Callee c "_law_far_number" 2 3 cFar) (hO : Callee c "_law_of" 2 2 cOf) (hD : Callee c "_law_day" 2 1 cDayBy) (hN : Callee c "_law_next" 1 2 cNext) (hR : Callee c "_law_one_right" 6 3 cOne) (hLD : Callee c "_law_days_of" 2 1 cLDays) (hL : Callee c "_law_like" 4 2 (cLike 3)) (hDD : Callee c "dyadics_of_days" 4 1 cDDays) (hNb : Callee c "neighbours_of" 4 2 cNb) (hC : Callee c "compare_dyadics" 5 2 cCompare) (hM : Callee c "_law_made" 1 2 cMade)
    (F : Fun c.K "law" "law" sLaw f fd) : FnOk c.P c.w c.K c.mg c.base CX0 7 f fd ["script"] (spOf c.K cLaw 1) := by
  obtain ⟨b_len, b_isi, b_int, b_bool, b_str, b_tuple, b_list, b_dict, b_range, b_enumerate, b_all, b_max, b_min⟩ := hBE
  refine fn_abs F scLaw (fun as μ post h => by obtain ⟨rfl, ns, _, rfl, _⟩ := h; rfl) ?_
  intro cdv A outer s H EX as μ post hF' ck
  obtain ⟨rfl, ns, hl, rfl, hq⟩ := hF'
  walk_at "al"
  refine clN (.drw 0) rfl (.cons rfl .nil) (fun post hp => ⟨rfl, ns, by omega, rfl, hp⟩) ?_
  walk_at "al e"
  refine ss_cons ?_
  refine s1_for (P := Nat) (fun _ _ => [some (.im (.fl (ns.map D.int))), some (.own 0), none, none, none, none, none, none, none, none, none]) (fun _ d => [.drw d]) (fun i d => d ≤ 200 * i) ck ?_
  refine si_range1 ck b_range ?_
  walk_at "al"
  refine ⟨by decide, by decide, ⟨0, Nat.zero_le _, by walk_at "al fg", rfl⟩, fun i p hi _ q hq => by simp at hq, fun i n hi hn => ?_, fun n hn => ?_⟩
  · have hi : i < 8 := hi
    try dsimp only
    walk_at "al"
    refine op_powI ⟨by decide, by decide, by decide⟩ ?_
    walk_at "al"
    refine uOf 0 1 (by decide) rfl rfl (by omega) (by decide) (by decide) (fun W hW => ?_)
    obtain ⟨W', rfl, hW2⟩ : ∃ W' : Nat, W = .int (W' : Nat) ∧ W' ≤ 1000000 := by
      simp only [List.mem_cons, List.not_mem_nil, or_false] at hW
      rcases hW with rfl | rfl | rfl | rfl | rfl
      · exact ⟨1, rfl, by decide⟩
      · exact ⟨3, rfl, by decide⟩
      · exact ⟨20, rfl, by decide⟩
      · exact ⟨400, rfl, by decide⟩
      · exact ⟨1000000, rfl, by decide⟩
    walk_at "al"
    refine uOf 0 2 (by decide) rfl rfl (by omega) (by decide) (by decide) (fun V hV => ?_)
    obtain ⟨V', rfl, hV2⟩ : ∃ V' : Nat, V = .int (V' : Nat) ∧ V' ≤ 60 := by
      simp only [List.mem_cons, List.not_mem_nil, or_false] at hV
      rcases hV with rfl | rfl | rfl | rfl
      · exact ⟨0, rfl, by decide⟩
      · exact ⟨3, rfl, by decide⟩
      · exact ⟨10, rfl, by decide⟩
      · exact ⟨60, rfl, by decide⟩
    walk_at "al"
    refine uFar 0 W' V' (by omega) hW2 hV2 rfl rfl rfl (fun x n' hx hn' => ?_)
    obtain ⟨hd0, hd1⟩ := hx.day
    walk_at "al"
    refine uDayBy (by have := hx.k; omega) ?_
    walk_at "al e"
    refine ss_cons ?_
    refine s1_for (P := Nat) (fun _ _ => [some (.im (.fl (ns.map D.int))), some (.own 0), none, some (.im (dy x)), some (.im (.int (dayI x))), none, none, none, none, none, none]) (fun _ d => [.drw d, .lst [D.int 1, D.int 3, D.int 20, D.int 400, D.int (10 ^ Int.toNat 6)], .lst [D.int 0, D.int 3, D.int 10, D.int 60]]) (fun _ d => d ≤ 200 * (i + 1)) ck ?_
    refine si_tup ck ?_
    walk_at "al"
    refine uNext (many := 40) 0 (by omega) (by decide) (by decide) rfl rfl (fun r1 hr1 => ?_)
    walk_at "al"
    refine uNext (many := 1001) 0 (by omega) (by decide) (by decide) rfl rfl (fun r2 hr2 => ?_)
    walk_at "al"
    refine uNext (many := 701) 0 (by omega) (by decide) (by decide) rfl rfl (fun r3 hr3 => ?_)
    walk_at "al"
    refine uNext (many := 3) 0 (by omega) (by decide) (by decide) rfl rfl (fun r4 hr4 => ?_)
    walk_at "al"
    refine ⟨⟨_, (by omega : n' + 1 + 1 + 1 + 1 ≤ 200 * (i + 1)), by walk_at "al fg", rfl⟩, fun i p hi _ q hq => by simp at hq, fun j p hj hp => ?_, fun p hp => ?_⟩
    · have hj : j < 4 := hj
      have hp : p ≤ 200 * (i + 1) := hp
      try dsimp only
      generalize hel : [D.int (r1 : Nat), D.int (r2 : Nat), D.int (300 + (r3 : Nat)), D.int (if (if dayI x - 1 + (r4 : Nat) > 0 then dayI x - 1 + (r4 : Nat) else 0) < 1000 then (if dayI x - 1 + (r4 : Nat) > 0 then dayI x - 1 + (r4 : Nat) else 0) else 1000)].getD j .non = el
      obtain ⟨v, rfl, hv⟩ : ∃ v : Nat, el = .int (v : Nat) ∧ v ≤ 1000 := by
        rw [← hel]
        match j, hj with
        | 0, _ => exact ⟨r1, rfl, by omega⟩
        | 1, _ => exact ⟨r2, rfl, by omega⟩
        | 2, _ => exact ⟨300 + r3, rfl, by omega⟩
        | 3, _ =>
          refine ⟨(if (if dayI x - 1 + (r4 : Nat) > 0 then dayI x - 1 + (r4 : Nat) else 0) < 1000 then (if dayI x - 1 + (r4 : Nat) > 0 then dayI x - 1 + (r4 : Nat) else 0) else 1000).toNat, ?_, ?_⟩
          · show D.int _ = D.int _
            congr 1
            repeat' split
            all_goals omega
          · repeat' split
            all_goals omega
      walk_at "al"
      refine uOne 0 v hx hv rfl rfl ?_
      walk_at "al"
      refine ss_nil (ss_nil ⟨p, hp, by walk_at "al fg", rfl⟩)
    · exact ss_nil ⟨p, hp, by walk_at "al fg", rfl⟩
  · have hn : n ≤ 200 * 8 := hn
    walk_at "al"
    refine uNext (many := 4) 0 (by omega) (by decide) (by decide) rfl rfl (fun r hr => ?_)
    have h1 := days_same ⟨r, hr⟩
    have h2 := days_chk ⟨r, hr⟩
    simp only [Bool.and_eq_true, decide_eq_true_eq] at h2
    obtain ⟨⟨hchk, hl0⟩, hl1⟩ := h2
    have hd10 : 7 + r ≤ 10 := by omega
    have h1 : dl (7 + r) = ldays (7 + r) := h1
    have hchk : chk (7 + r) (ldays (7 + r)) = true := hchk
    have hl0 : 10 < (ldays (7 + r)).length := hl0
    have hl1 : (ldays (7 + r)).length ≤ 2100 := hl1
    walk_at "al"
    refine uLDays (7 + r) hd10 (by omega) ?_
    walk_at "al"
    refine uDDays (7 + r) hd10 (by omega) ?_
    walk_at "al"
    rw [h1]
    generalize ldays (7 + r) = L at hchk hl0 hl1 ⊢
    refine uLike (n := 3) (.inr ⟨_, rfl, by rw [List.length_map]; omega, fun z hz => ?_⟩) rfl ?_
    · obtain ⟨y, _, rfl⟩ := List.mem_map.mp hz
      exact lk_dy
    walk_at "al"
    refine ss_nil ?_
    refine ss_cons ?_
    refine s1_for (P := Nat) (fun _ _ => [some (.im (.fl (ns.map D.int))), some (.own 0), none, none, none, some (.im (.int (7 + (r : Nat)))), some (.own 1), none, none, none, none]) (fun _ d => [.drw d, .lst (L.map dy)]) (fun i d => d ≤ 5000 + i) ck ?_
    refine si_range1 ck b_range ?_
    walk_at "al"
    refine ⟨by decide, by decide, ⟨_, ?_, by walk_at "al fg", rfl⟩, fun i p hi _ q hq => by simp at hq, fun i n hi hn => ?_, fun n hn => ?_⟩
    · show _ ≤ 5000 + 0; omega
    · have hi : i < 6 := hi
      have hlm : (L.map dy).length = L.length := List.length_map _
      have h1 : 0 < L.length - 2 := by omega
      have hn : n ≤ 5000 + i := hn
      walk_at "al"
      refine uNext (many := L.length - 2) 0 (by omega) h1 (by omega) (by omega) rfl (fun a ha => ?_)
      obtain ⟨g1, g2, g3, g4, g5⟩ := chk_at a hchk (by omega)
      have at_ : ∀ (j : Nat) (i : Int), j < L.length → i = (j : Int) → atI (L.map dy) i = some (dy (L.getD j (0, 0))) := fun j i hj e => by
        subst e
        refine atI_nat ?_
        rw [List.getElem?_map, List.getElem?_eq_getElem hj, List.getD_eq_getElem?_getD, List.getElem?_eq_getElem hj]; rfl
      have x1 : atI (L.map dy) (1 + (a : Nat) : Int) = some (dy (L.getD (a + 1) (0, 0))) := at_ (a + 1) _ (by omega) (by omega)
      have x2 : atI (L.map dy) (1 + (a : Nat) - 1 : Int) = some (dy (L.getD a (0, 0))) := at_ a _ (by omega) (by omega)
      have x3 : atI (L.map dy) (1 + (a : Nat) + 1 : Int) = some (dy (L.getD (a + 2) (0, 0))) := at_ (a + 2) _ (by omega) (by omega)
      walk_at "al"
      refine uNb (7 + r) g5 (by omega) (by omega) ?_
      walk_at "al"
      refine uLike (n := 3) (.inr ⟨_, rfl, Nat.le_of_ble_eq_true rfl, fun z hz => ?_⟩) ?_ ?_
      · simp only [List.mem_cons, List.not_mem_nil, or_false] at hz
        rcases hz with rfl | rfl <;> exact lk_dy
      · rw [g1, g2]; rfl
      walk_at "al"
      refine uCompare g4 g5 g3 ?_
      walk_at "al"
      refine if_ndec (fun h1 => absurd rfl h1) (fun _ => ?_)
      exact ss_nil (ss_nil ⟨n + 1, (by omega : n + 1 ≤ 5000 + (i + 1)), by walk_at "al fg", rfl⟩)
    · have hn : n ≤ 5000 + 6 := hn
      walk_at "al"
      refine op_powI ⟨by decide, by decide, by decide⟩ ?_
      walk_at "al"
      refine op_powI ⟨by decide, by decide, by decide⟩ ?_
      rw [show (2 : Int) ^ Int.toNat 20 = 2 ^ 20 from rfl, show (900 * 2 ^ 20 + 349525 : Int) = 944067925 from by decide]
      walk_at "al"
      refine op_shl1 99 rfl (by decide) ?_
      have hcm : CMulX (944067925 : Int) (2 ^ 99) := sm_mul (m := 40) (n := 100) (sm_of (by decide) (by decide)) (sm_pow (by decide)) (by decide)
      walk_at "al"
      refine op_powI ⟨by decide, by decide, by decide⟩ ?_
      rw [show (2 : Int) ^ Int.toNat 20 = 2 ^ 20 from rfl]
      have hcd : CDivW (944067925 * 2 ^ 99 : Int) (2 ^ 20) := cdw (by decide)
      walk_at "al"
      refine uNb (x := third) 1000 third_ok (by decide) rfl ?_
      rw [third_nb.1, third_nb.2]
      walk_at "al"
      refine uMade 99 rfl ?_
      walk_at "al"
      refine uMade 99 rfl ?_
      walk_at "al"
      refine uLike (n := 3) (.inr ⟨_, rfl, Nat.le_of_ble_eq_true rfl, fun z hz => ?_⟩) rfl ?_
      · simp only [List.mem_cons, List.not_mem_nil, or_false] at hz
        rcases hz with rfl | rfl <;> exact lk_dy
      walk_at "al"
      refine uNb (x := (1, 1)) 999 half_ok (by decide) rfl ?_
      rw [half_nb]
      unfold parT
      walk_at "al"
      refine op_shl1 997 rfl (by decide) ?_
      walk_at "al"
      refine op_shl1 998 rfl (by decide) ?_
      walk_at "al"
      refine uLike (n := 3) (.inr ⟨_, rfl, Nat.le_of_ble_eq_true rfl, fun z hz => ?_⟩) rfl ?_
      · simp only [List.mem_cons, List.not_mem_nil, or_false] at hz
        rcases hz with rfl | rfl <;> exact lk_sc trivial
      exact rt_im rfl hq
end
section
theorem law_sp {K : PySem.W.Frag} {H : Hp} {a : Addr} {ns : List Int} (hl : ns.length ≤ 63) (hO : Only H) (hS : SqL K H a (ns.map V.int)) : spOf K cLaw 1 [.ref a] H (fun v _ => v = .bl true) fun _ _ _ => False := by
  refine ⟨rfl, [.im (.fl (ns.map D.int))], [], [], fun a _ => a = .im (.bl true), ⟨rfl, ns, hl, rfl, rfl⟩, .nil, fun i _ _ _ h1 => by simp at h1, .cons (rep_fl.mpr ⟨a, _, rfl, ?_, reps_ints.mpr rfl⟩) .nil, fun a μ' v H' hp hb => ?_⟩
  · rcases hS with (hS | hS) | hS
    · rcases hO a with z | ⟨o, xs, z⟩ <;> (rw [z] at hS; cases hS)
    · exact .inl hS
    · exact .inr hS
  · obtain ⟨fps, _, _, r, _⟩ := hb
    subst hp
    exact rep_bl.mp (show Rep K H' (.bl true) v from r)
theorem all_mk {l : PySem.W.OpenLaw} {w : World} {K : PySem.W.Frag} {h : Heap} {mg : Str → Option Value} {fa f0 f1 f2 f3 f4 f5 f6 f7 f8 f9 f10 f11 f12 f13 f14 f15 f16 f17 f18 f19 f20 f21 f22 f23 f24 f25 f26 f27 f28 f29 f30 f31 f32 f33 f34 f35 f36 f37 f38 f39 f40 f41 : Addr} (X : K.In h) (G : h.Ns mainGlobals mg) (hfa : mg "law" = some (.ref fa))
    {od0 an0 od1 an1 od2 an2 od3 an3 od4 an4 od5 an5 od6 an6 od7 an7 od8 an8 od9 an9 od10 an10 od11 an11 od12 an12 od13 an13 od14 an14 od15 an15 od16 an16 od17 an17 od18 an18 od19 an19 od20 an20 od21 an21 od22 an22 od23 an23 od24 an24 od25 an25 od26 an26 od27 an27 od28 an28 od29 an29 od30 an30 od31 an31 od32 an32 od33 an33 od34 an34 od35 an35 od36 an36 od37 an37 od38 an38 od39 an39 od40 an40 od41 an41 : Option Addr} {sl0 sl1 sl2 sl3 sl4 sl5 sl6 sl7 sl8 sl9 sl10 sl11 sl12 sl13 sl14 sl15 sl16 sl17 sl18 sl19 sl20 sl21 sl22 sl23 sl24 sl25 sl26 sl27 sl28 sl29 sl30 sl31 sl32 sl33 sl34 sl35 sl36 sl37 sl38 sl39 sl40 sl41 : Array (Option Value)} {oc0 kV0 dc0 pm0 cd0 ct0 oc1 kV1 dc1 pm1 cd1 ct1 oc2 kV2 dc2 pm2 cd2 ct2 oc3 kV3 dc3 pm3 cd3 ct3 oc4 kV4 dc4 pm4 cd4 ct4 oc5 kV5 dc5 pm5 cd5 ct5 oc6 kV6 dc6 pm6 cd6 ct6 oc7 kV7 dc7 pm7 cd7 ct7 oc8 kV8 dc8 pm8 cd8 ct8 oc9 kV9 dc9 pm9 cd9 ct9 oc10 kV10 dc10 pm10 cd10 ct10 oc11 kV11 dc11 pm11 cd11 ct11 oc12 kV12 dc12 pm12 cd12 ct12 oc13 kV13 dc13 pm13 cd13 ct13 oc14 kV14 dc14 pm14 cd14 ct14 oc15 kV15 dc15 pm15 cd15 ct15 oc16 kV16 dc16 pm16 cd16 ct16 oc17 kV17 dc17 pm17 cd17 ct17 oc18 kV18 dc18 pm18 cd18 ct18 oc19 kV19 dc19 pm19 cd19 ct19 oc20 kV20 dc20 pm20 cd20 ct20 oc21 kV21 dc21 pm21 cd21 ct21 oc22 kV22 dc22 pm22 cd22 ct22 oc23 kV23 dc23 pm23 cd23 ct23 oc24 kV24 dc24 pm24 cd24 ct24 oc25 kV25 dc25 pm25 cd25 ct25 oc26 kV26 dc26 pm26 cd26 ct26 oc27 kV27 dc27 pm27 cd27 ct27 oc28 kV28 dc28 pm28 cd28 ct28 oc29 kV29 dc29 pm29 cd29 ct29 oc30 kV30 dc30 pm30 cd30 ct30 oc31 kV31 dc31 pm31 cd31 ct31 oc32 kV32 dc32 pm32 cd32 ct32 oc33 kV33 dc33 pm33 cd33 ct33 oc34 kV34 dc34 pm34 cd34 ct34 oc35 kV35 dc35 pm35 cd35 ct35 oc36 kV36 dc36 pm36 cd36 ct36 oc37 kV37 dc37 pm37 cd37 ct37 oc38 kV38 dc38 pm38 cd38 ct38 oc39 kV39 dc39 pm39 cd39 ct39 oc40 kV40 dc40 pm40 cd40 ct40 oc41 kV41 dc41 pm41 cd41 ct41 : Value} {t0 t1 t2 t3 : Tok}
    {ga0 : Addr} {go0 : Option Addr} {gn0 : Nat} {gs0 : Array (Option Value)} {gt0_0 gt0_1 : Tok}
    (a0 : PySem.W.nsIn K mainGlobals "is_number" = some (some (.ref f0))) (l0 : K.lookup f0 = some ⟨oc0, od0, .func (PySem.W.fnOf "is_number" "is_number" (defArgs sIsNumber) (defBody sIsNumber) (defScope sIsNumber) .none kV0 dc0 pm0 an0 cd0 ct0), sl0⟩) (c0 : PySem.W.codeIn K cd0 "is_number" = true) (k0 : PySem.W.keepIn K (.ref f0) = true)
    (a1 : PySem.W.nsIn K mainGlobals "is_among" = some (some (.ref f1))) (l1 : K.lookup f1 = some ⟨oc1, od1, .func (PySem.W.fnOf "is_among" "is_among" (defArgs sIsAmong) (defBody sIsAmong) (defScope sIsAmong) .none kV1 dc1 pm1 an1 cd1 ct1), sl1⟩) (c1 : PySem.W.codeIn K cd1 "is_among" = true) (k1 : PySem.W.keepIn K (.ref f1) = true)
    (a2 : PySem.W.nsIn K mainGlobals "is_tuple_of" = some (some (.ref f2))) (l2 : K.lookup f2 = some ⟨oc2, od2, .func (PySem.W.fnOf "is_tuple_of" "is_tuple_of" (defArgs sIsTupleOf) (defBody sIsTupleOf) (defScope sIsTupleOf) .none kV2 dc2 pm2 an2 cd2 ct2), sl2⟩) (c2 : PySem.W.codeIn K cd2 "is_tuple_of" = true) (k2 : PySem.W.keepIn K (.ref f2) = true)
    (a3 : PySem.W.nsIn K mainGlobals "is_power_of_two" = some (some (.ref f3))) (l3 : K.lookup f3 = some ⟨oc3, od3, .func (PySem.W.fnOf "is_power_of_two" "is_power_of_two" (defArgs sPow) (defBody sPow) (defScope sPow) .none kV3 dc3 pm3 an3 cd3 ct3), sl3⟩) (c3 : PySem.W.codeIn K cd3 "is_power_of_two" = true) (k3 : PySem.W.keepIn K (.ref f3) = true)
    (a4 : PySem.W.nsIn K mainGlobals "need_dyadic" = some (some (.ref f4))) (l4 : K.lookup f4 = some ⟨oc4, od4, .func (PySem.W.fnOf "need_dyadic" "need_dyadic" (defArgs sNeedD) (defBody sNeedD) (defScope sNeedD) .none kV4 dc4 pm4 an4 cd4 ct4), sl4⟩) (c4 : PySem.W.codeIn K cd4 "need_dyadic" = true) (k4 : PySem.W.keepIn K (.ref f4) = true)
    (a5 : PySem.W.nsIn K mainGlobals "need_two_dyadics" = some (some (.ref f5))) (l5 : K.lookup f5 = some ⟨oc5, od5, .func (PySem.W.fnOf "need_two_dyadics" "need_two_dyadics" (defArgs sTwo) (defBody sTwo) (defScope sTwo) .none kV5 dc5 pm5 an5 cd5 ct5), sl5⟩) (c5 : PySem.W.codeIn K cd5 "need_two_dyadics" = true) (k5 : PySem.W.keepIn K (.ref f5) = true)
    (a6 : PySem.W.nsIn K mainGlobals "made_dyadic" = some (some (.ref f6))) (l6 : K.lookup f6 = some ⟨oc6, od6, .func (PySem.W.fnOf "made_dyadic" "made_dyadic" (defArgs sMade) (defBody sMade) (defScope sMade) .none kV6 dc6 pm6 an6 cd6 ct6), sl6⟩) (c6 : PySem.W.codeIn K cd6 "made_dyadic" = true) (k6 : PySem.W.keepIn K (.ref f6) = true)
    (a7 : PySem.W.nsIn K mainGlobals "plus_dyadic" = some (some (.ref f7))) (l7 : K.lookup f7 = some ⟨oc7, od7, .func (PySem.W.fnOf "plus_dyadic" "plus_dyadic" (defArgs sPlus) (defBody sPlus) (defScope sPlus) .none kV7 dc7 pm7 an7 cd7 ct7), sl7⟩) (c7 : PySem.W.codeIn K cd7 "plus_dyadic" = true) (k7 : PySem.W.keepIn K (.ref f7) = true)
    (a8 : PySem.W.nsIn K mainGlobals "turned_dyadic" = some (some (.ref f8))) (l8 : K.lookup f8 = some ⟨oc8, od8, .func (PySem.W.fnOf "turned_dyadic" "turned_dyadic" (defArgs sTurned) (defBody sTurned) (defScope sTurned) .none kV8 dc8 pm8 an8 cd8 ct8), sl8⟩) (c8 : PySem.W.codeIn K cd8 "turned_dyadic" = true) (k8 : PySem.W.keepIn K (.ref f8) = true)
    (a9 : PySem.W.nsIn K mainGlobals "half_dyadic" = some (some (.ref f9))) (l9 : K.lookup f9 = some ⟨oc9, od9, .func (PySem.W.fnOf "half_dyadic" "half_dyadic" (defArgs sHalf) (defBody sHalf) (defScope sHalf) .none kV9 dc9 pm9 an9 cd9 ct9), sl9⟩) (c9 : PySem.W.codeIn K cd9 "half_dyadic" = true) (k9 : PySem.W.keepIn K (.ref f9) = true)
    (a10 : PySem.W.nsIn K mainGlobals "is_less_dyadic" = some (some (.ref f10))) (l10 : K.lookup f10 = some ⟨oc10, od10, .func (PySem.W.fnOf "is_less_dyadic" "is_less_dyadic" (defArgs sLess) (defBody sLess) (defScope sLess) .none kV10 dc10 pm10 an10 cd10 ct10), sl10⟩) (c10 : PySem.W.codeIn K cd10 "is_less_dyadic" = true) (k10 : PySem.W.keepIn K (.ref f10) = true)
    (a11 : PySem.W.nsIn K mainGlobals "order_dyadics" = some (some (.ref f11))) (l11 : K.lookup f11 = some ⟨oc11, od11, .func (PySem.W.fnOf "order_dyadics" "order_dyadics" (defArgs sOrder) (defBody sOrder) (defScope sOrder) .none kV11 dc11 pm11 an11 cd11 ct11), sl11⟩) (c11 : PySem.W.codeIn K cd11 "order_dyadics" = true) (k11 : PySem.W.keepIn K (.ref f11) = true)
    (a12 : PySem.W.nsIn K mainGlobals "dyadic_sum" = some (some (.ref f12))) (l12 : K.lookup f12 = some ⟨oc12, od12, .func (PySem.W.fnOf "dyadic_sum" "dyadic_sum" (defArgs sDSum) (defBody sDSum) (defScope sDSum) .none kV12 dc12 pm12 an12 cd12 ct12), sl12⟩) (c12 : PySem.W.codeIn K cd12 "dyadic_sum" = true) (k12 : PySem.W.keepIn K (.ref f12) = true)
    (a13 : PySem.W.nsIn K mainGlobals "dyadic_half" = some (some (.ref f13))) (l13 : K.lookup f13 = some ⟨oc13, od13, .func (PySem.W.fnOf "dyadic_half" "dyadic_half" (defArgs sDHalf) (defBody sDHalf) (defScope sDHalf) .none kV13 dc13 pm13 an13 cd13 ct13), sl13⟩) (c13 : PySem.W.codeIn K cd13 "dyadic_half" = true) (k13 : PySem.W.keepIn K (.ref f13) = true)
    (a14 : PySem.W.nsIn K mainGlobals "compare_dyadics" = some (some (.ref f14))) (l14 : K.lookup f14 = some ⟨oc14, od14, .func (PySem.W.fnOf "compare_dyadics" "compare_dyadics" (defArgs sCompare) (defBody sCompare) (defScope sCompare) .none kV14 dc14 pm14 an14 cd14 ct14), sl14⟩) (c14 : PySem.W.codeIn K cd14 "compare_dyadics" = true) (k14 : PySem.W.keepIn K (.ref f14) = true)
    (a15 : PySem.W.nsIn K mainGlobals "halvings_of" = some (some (.ref f15))) (l15 : K.lookup f15 = some ⟨oc15, od15, .func (PySem.W.fnOf "halvings_of" "halvings_of" (defArgs sHalvings) (defBody sHalvings) (defScope sHalvings) .none kV15 dc15 pm15 an15 cd15 ct15), sl15⟩) (c15 : PySem.W.codeIn K cd15 "halvings_of" = true) (k15 : PySem.W.keepIn K (.ref f15) = true)
    (a16 : PySem.W.nsIn K mainGlobals "day_by" = some (some (.ref f16))) (l16 : K.lookup f16 = some ⟨oc16, od16, .func (PySem.W.fnOf "day_by" "day_by" (defArgs sDayBy) (defBody sDayBy) (defScope sDayBy) .none kV16 dc16 pm16 an16 cd16 ct16), sl16⟩) (c16 : PySem.W.codeIn K cd16 "day_by" = true) (k16 : PySem.W.keepIn K (.ref f16) = true)
    (a17 : PySem.W.nsIn K mainGlobals "day_of" = some (some (.ref f17))) (l17 : K.lookup f17 = some ⟨oc17, od17, .func (PySem.W.fnOf "day_of" "day_of" (defArgs sDayOf) (defBody sDayOf) (defScope sDayOf) .none kV17 dc17 pm17 an17 cd17 ct17), sl17⟩) (c17 : PySem.W.codeIn K cd17 "day_of" = true) (k17 : PySem.W.keepIn K (.ref f17) = true)
    (a18 : PySem.W.nsIn K mainGlobals "simplest_whole" = some (some (.ref f18))) (l18 : K.lookup f18 = some ⟨oc18, od18, .func (PySem.W.fnOf "simplest_whole" "simplest_whole" (defArgs sWhole) (defBody sWhole) (defScope sWhole) .none kV18 dc18 pm18 an18 cd18 ct18), sl18⟩) (c18 : PySem.W.codeIn K cd18 "simplest_whole" = true) (k18 : PySem.W.keepIn K (.ref f18) = true)
    (a19 : PySem.W.nsIn K mainGlobals "simplest_by" = some (some (.ref f19))) (l19 : K.lookup f19 = some ⟨oc19, od19, .func (PySem.W.fnOf "simplest_by" "simplest_by" (defArgs sSBy) (defBody sSBy) (defScope sSBy) .none kV19 dc19 pm19 an19 cd19 ct19), sl19⟩) (c19 : PySem.W.codeIn K cd19 "simplest_by" = true) (k19 : PySem.W.keepIn K (.ref f19) = true)
    (a20 : PySem.W.nsIn K mainGlobals "need_end" = some (some (.ref f20))) (l20 : K.lookup f20 = some ⟨oc20, od20, .func (PySem.W.fnOf "need_end" "need_end" (defArgs sNeedEnd) (defBody sNeedEnd) (defScope sNeedEnd) .none kV20 dc20 pm20 an20 cd20 ct20), sl20⟩) (c20 : PySem.W.codeIn K cd20 "need_end" = true) (k20 : PySem.W.keepIn K (.ref f20) = true)
    (a21 : PySem.W.nsIn K mainGlobals "simplest_between" = some (some (.ref f21))) (l21 : K.lookup f21 = some ⟨oc21, od21, .func (PySem.W.fnOf "simplest_between" "simplest_between" (defArgs sSBt) (defBody sSBt) (defScope sSBt) .none kV21 dc21 pm21 an21 cd21 ct21), sl21⟩) (c21 : PySem.W.codeIn K cd21 "simplest_between" = true) (k21 : PySem.W.keepIn K (.ref f21) = true)
    (a22 : PySem.W.nsIn K mainGlobals "parents_by" = some (some (.ref f22))) (l22 : K.lookup f22 = some ⟨oc22, od22, .func (PySem.W.fnOf "parents_by" "parents_by" (defArgs sParBy) (defBody sParBy) (defScope sParBy) .none kV22 dc22 pm22 an22 cd22 ct22), sl22⟩) (c22 : PySem.W.codeIn K cd22 "parents_by" = true) (k22 : PySem.W.keepIn K (.ref f22) = true)
    (a23 : PySem.W.nsIn K mainGlobals "parents_of" = some (some (.ref f23))) (l23 : K.lookup f23 = some ⟨oc23, od23, .func (PySem.W.fnOf "parents_of" "parents_of" (defArgs sParOf) (defBody sParOf) (defScope sParOf) .none kV23 dc23 pm23 an23 cd23 ct23), sl23⟩) (c23 : PySem.W.codeIn K cd23 "parents_of" = true) (k23 : PySem.W.keepIn K (.ref f23) = true)
    (a24 : PySem.W.nsIn K mainGlobals "dyadics_by" = some (some (.ref f24))) (l24 : K.lookup f24 = some ⟨oc24, od24, .func (PySem.W.fnOf "dyadics_by" "dyadics_by" (defArgs sDL) (defBody sDL) (defScope sDL) .none kV24 dc24 pm24 an24 cd24 ct24), sl24⟩) (c24 : PySem.W.codeIn K cd24 "dyadics_by" = true) (k24 : PySem.W.keepIn K (.ref f24) = true)
    (a25 : PySem.W.nsIn K mainGlobals "dyadics_of_days" = some (some (.ref f25))) (l25 : K.lookup f25 = some ⟨oc25, od25, .func (PySem.W.fnOf "dyadics_of_days" "dyadics_of_days" (defArgs sDDays) (defBody sDDays) (defScope sDDays) .none kV25 dc25 pm25 an25 cd25 ct25), sl25⟩) (c25 : PySem.W.codeIn K cd25 "dyadics_of_days" = true) (k25 : PySem.W.keepIn K (.ref f25) = true)
    (a26 : PySem.W.nsIn K mainGlobals "next_above" = some (some (.ref f26))) (l26 : K.lookup f26 = some ⟨oc26, od26, .func (PySem.W.fnOf "next_above" "next_above" (defArgs sNextAbove) (defBody sNextAbove) (defScope sNextAbove) .none kV26 dc26 pm26 an26 cd26 ct26), sl26⟩) (c26 : PySem.W.codeIn K cd26 "next_above" = true) (k26 : PySem.W.keepIn K (.ref f26) = true)
    (a27 : PySem.W.nsIn K mainGlobals "neighbours_of" = some (some (.ref f27))) (l27 : K.lookup f27 = some ⟨oc27, od27, .func (PySem.W.fnOf "neighbours_of" "neighbours_of" (defArgs sNb) (defBody sNb) (defScope sNb) .none kV27 dc27 pm27 an27 cd27 ct27), sl27⟩) (c27 : PySem.W.codeIn K cd27 "neighbours_of" = true) (k27 : PySem.W.keepIn K (.ref f27) = true)
    (a28 : PySem.W.nsIn K mainGlobals "_law_made" = some (some (.ref f28))) (l28 : K.lookup f28 = some ⟨oc28, od28, .func (PySem.W.fnOf "_law_made" "_law_made" (defArgs sLMade) (defBody sLMade) (defScope sLMade) .none kV28 dc28 pm28 an28 cd28 ct28), sl28⟩) (c28 : PySem.W.codeIn K cd28 "_law_made" = true) (k28 : PySem.W.keepIn K (.ref f28) = true)
    (a29 : PySem.W.nsIn K mainGlobals "_law_days_of" = some (some (.ref f29))) (l29 : K.lookup f29 = some ⟨oc29, od29, .func (PySem.W.fnOf "_law_days_of" "_law_days_of" (defArgs sLDays) (defBody sLDays) (defScope sLDays) .none kV29 dc29 pm29 an29 cd29 ct29), sl29⟩) (c29 : PySem.W.codeIn K cd29 "_law_days_of" = true) (k29 : PySem.W.keepIn K (.ref f29) = true)
    (a30 : PySem.W.nsIn K mainGlobals "_law_begun" = some (some (.ref f30))) (l30 : K.lookup f30 = some ⟨oc30, od30, .func (PySem.W.fnOf "_law_begun" "_law_begun" (defArgs sBegun) (defBody sBegun) (defScope sBegun) .none kV30 dc30 pm30 an30 cd30 ct30), sl30⟩) (c30 : PySem.W.codeIn K cd30 "_law_begun" = true) (k30 : PySem.W.keepIn K (.ref f30) = true)
    (a31 : PySem.W.nsIn K mainGlobals "_law_next" = some (some (.ref f31))) (l31 : K.lookup f31 = some ⟨oc31, od31, .func (PySem.W.fnOf "_law_next" "_law_next" (defArgs sNext) (defBody sNext) (defScope sNext) .none kV31 dc31 pm31 an31 cd31 ct31), sl31⟩) (c31 : PySem.W.codeIn K cd31 "_law_next" = true) (k31 : PySem.W.keepIn K (.ref f31) = true)
    (a32 : PySem.W.nsIn K mainGlobals "_law_of" = some (some (.ref f32))) (l32 : K.lookup f32 = some ⟨oc32, od32, .func (PySem.W.fnOf "_law_of" "_law_of" (defArgs sOf) (defBody sOf) (defScope sOf) .none kV32 dc32 pm32 an32 cd32 ct32), sl32⟩) (c32 : PySem.W.codeIn K cd32 "_law_of" = true) (k32 : PySem.W.keepIn K (.ref f32) = true)
    (a33 : PySem.W.nsIn K mainGlobals "_law_like" = some (some (.ref f33))) (l33 : K.lookup f33 = some ⟨oc33, od33, .func (PySem.W.fnOf "_law_like" "_law_like" (defArgs sLike) (defBody sLike) (defScope sLike) .none kV33 dc33 pm33 an33 cd33 ct33), sl33⟩) (c33 : PySem.W.codeIn K cd33 "_law_like" = true) (k33 : PySem.W.keepIn K (.ref f33) = true)
    (a34 : PySem.W.nsIn K mainGlobals "_law_plus" = some (some (.ref f34))) (l34 : K.lookup f34 = some ⟨oc34, od34, .func (PySem.W.fnOf "_law_plus" "_law_plus" (defArgs sLPlus) (defBody sLPlus) (defScope sLPlus) .none kV34 dc34 pm34 an34 cd34 ct34), sl34⟩) (c34 : PySem.W.codeIn K cd34 "_law_plus" = true) (k34 : PySem.W.keepIn K (.ref f34) = true)
    (a35 : PySem.W.nsIn K mainGlobals "_law_minus" = some (some (.ref f35))) (l35 : K.lookup f35 = some ⟨oc35, od35, .func (PySem.W.fnOf "_law_minus" "_law_minus" (defArgs sLMinus) (defBody sLMinus) (defScope sLMinus) .none kV35 dc35 pm35 an35 cd35 ct35), sl35⟩) (c35 : PySem.W.codeIn K cd35 "_law_minus" = true) (k35 : PySem.W.keepIn K (.ref f35) = true)
    (a36 : PySem.W.nsIn K mainGlobals "_law_far_number" = some (some (.ref f36))) (l36 : K.lookup f36 = some ⟨oc36, od36, .func (PySem.W.fnOf "_law_far_number" "_law_far_number" (defArgs sFar) (defBody sFar) (defScope sFar) .none kV36 dc36 pm36 an36 cd36 ct36), sl36⟩) (c36 : PySem.W.codeIn K cd36 "_law_far_number" = true) (k36 : PySem.W.keepIn K (.ref f36) = true)
    (a37 : PySem.W.nsIn K mainGlobals "_law_day" = some (some (.ref f37))) (l37 : K.lookup f37 = some ⟨oc37, od37, .func (PySem.W.fnOf "_law_day" "_law_day" (defArgs sLDay) (defBody sLDay) (defScope sLDay) .none kV37 dc37 pm37 an37 cd37 ct37), sl37⟩) (c37 : PySem.W.codeIn K cd37 "_law_day" = true) (k37 : PySem.W.keepIn K (.ref f37) = true)
    (a38 : PySem.W.nsIn K mainGlobals "_law_above" = some (some (.ref f38))) (l38 : K.lookup f38 = some ⟨oc38, od38, .func (PySem.W.fnOf "_law_above" "_law_above" (defArgs sLAbove) (defBody sLAbove) (defScope sLAbove) .none kV38 dc38 pm38 an38 cd38 ct38), sl38⟩) (c38 : PySem.W.codeIn K cd38 "_law_above" = true) (k38 : PySem.W.keepIn K (.ref f38) = true)
    (a39 : PySem.W.nsIn K mainGlobals "_law_both" = some (some (.ref f39))) (l39 : K.lookup f39 = some ⟨oc39, od39, .func (PySem.W.fnOf "_law_both" "_law_both" (defArgs sLBoth) (defBody sLBoth) (defScope sLBoth) .none kV39 dc39 pm39 an39 cd39 ct39), sl39⟩) (c39 : PySem.W.codeIn K cd39 "_law_both" = true) (k39 : PySem.W.keepIn K (.ref f39) = true)
    (a40 : PySem.W.nsIn K mainGlobals "_law_one_right" = some (some (.ref f40))) (l40 : K.lookup f40 = some ⟨oc40, od40, .func (PySem.W.fnOf "_law_one_right" "_law_one_right" (defArgs sOne) (defBody sOne) (defScope sOne) .none kV40 dc40 pm40 an40 cd40 ct40), sl40⟩) (c40 : PySem.W.codeIn K cd40 "_law_one_right" = true) (k40 : PySem.W.keepIn K (.ref f40) = true)
    (a41 : PySem.W.nsIn K mainGlobals "law" = some (some (.ref f41))) (l41 : K.lookup f41 = some ⟨oc41, od41, .func (PySem.W.fnOf "law" "law" (defArgs sLaw) (defBody sLaw) (defScope sLaw) .none kV41 dc41 pm41 an41 cd41 ct41), sl41⟩) (c41 : PySem.W.codeIn K cd41 "law" = true) (k41 : PySem.W.keepIn K (.ref f41) = true)
    (z0 : PySem.W.nsIn K mainGlobals "len" = some none)
    (z1 : PySem.W.nsIn K mainGlobals "isinstance" = some none)
    (z2 : PySem.W.nsIn K mainGlobals "int" = some none)
    (z3 : PySem.W.nsIn K mainGlobals "bool" = some none)
    (z4 : PySem.W.nsIn K mainGlobals "str" = some none)
    (z5 : PySem.W.nsIn K mainGlobals "tuple" = some none)
    (z6 : PySem.W.nsIn K mainGlobals "list" = some none)
    (z7 : PySem.W.nsIn K mainGlobals "dict" = some none)
    (z8 : PySem.W.nsIn K mainGlobals "range" = some none)
    (z9 : PySem.W.nsIn K mainGlobals "enumerate" = some none)
    (z10 : PySem.W.nsIn K mainGlobals "all" = some none)
    (z11 : PySem.W.nsIn K mainGlobals "max" = some none)
    (z12 : PySem.W.nsIn K mainGlobals "min" = some none)
    (z13 : PySem.W.nsIn K mainGlobals "abs" = some none)
    (z14 : PySem.W.nsIn K mainGlobals "zip" = some none)
    (m0 : PySem.W.nsIn K mainGlobals "MOST_TOP" = some (some (.int 1000000000000000000000000000000 t0)))
    (m1 : PySem.W.nsIn K mainGlobals "MOST_BOTTOM" = some (some (.int 18446744073709551616 t1)))
    (m2 : PySem.W.nsIn K mainGlobals "MOST_LIST_DAYS" = some (some (.int 10 t2)))
    (m3 : PySem.W.nsIn K mainGlobals "MOST_FAR_DAYS" = some (some (.int 1000 t3)))
    (g0 : PySem.W.nsIn K mainGlobals "NOTHING" = some (some (.ref ga0))) (gl0 : K.lookup ga0 = some ⟨.type "tuple", go0, .seq #[.int 0 gt0_0, .int 1 gt0_1] gn0, gs0⟩)
    : ∃ fd : FuncData, (∀ (s : Shared) (v : Value), BindsTo s fd ⟨[v], []⟩ [("script", v)]) ∧ ∀ base : Heap, K.In base → base.Ns mainGlobals mg → FnOk l.prog w K mg base CX0 7 fa fd ["script"] (spOf K cLaw 1) := by
  have e := hfa.symm.trans (PySem.W.mg_of X G a41)
  cases e
  have F0 := fun_mk (st := sIsNumber) l0 c0 k0
  have b0 := F0.binds (ps := ["thing"]) fun _ _ _ _ _ _ us hl => match us, hl with | [_], _ => rfl
  have F1 := fun_mk (st := sIsAmong) l1 c1 k1
  have b1 := F1.binds (ps := ["thing", "least", "most"]) fun _ _ _ _ _ _ us hl => match us, hl with | [_, _, _], _ => rfl
  have F2 := fun_mk (st := sIsTupleOf) l2 c2 k2
  have b2 := F2.binds (ps := ["thing", "least", "most"]) fun _ _ _ _ _ _ us hl => match us, hl with | [_, _, _], _ => rfl
  have F3 := fun_mk (st := sPow) l3 c3 k3
  have b3 := F3.binds (ps := ["thing"]) fun _ _ _ _ _ _ us hl => match us, hl with | [_], _ => rfl
  have F4 := fun_mk (st := sNeedD) l4 c4 k4
  have b4 := F4.binds (ps := ["dyadic"]) fun _ _ _ _ _ _ us hl => match us, hl with | [_], _ => rfl
  have F5 := fun_mk (st := sTwo) l5 c5 k5
  have b5 := F5.binds (ps := ["one", "other"]) fun _ _ _ _ _ _ us hl => match us, hl with | [_, _], _ => rfl
  have F6 := fun_mk (st := sMade) l6 c6 k6
  have b6 := F6.binds (ps := ["top", "bottom"]) fun _ _ _ _ _ _ us hl => match us, hl with | [_, _], _ => rfl
  have F7 := fun_mk (st := sPlus) l7 c7 k7
  have b7 := F7.binds (ps := ["one", "other"]) fun _ _ _ _ _ _ us hl => match us, hl with | [_, _], _ => rfl
  have F8 := fun_mk (st := sTurned) l8 c8 k8
  have b8 := F8.binds (ps := ["dyadic"]) fun _ _ _ _ _ _ us hl => match us, hl with | [_], _ => rfl
  have F9 := fun_mk (st := sHalf) l9 c9 k9
  have b9 := F9.binds (ps := ["dyadic"]) fun _ _ _ _ _ _ us hl => match us, hl with | [_], _ => rfl
  have F10 := fun_mk (st := sLess) l10 c10 k10
  have b10 := F10.binds (ps := ["one", "other"]) fun _ _ _ _ _ _ us hl => match us, hl with | [_, _], _ => rfl
  have F11 := fun_mk (st := sOrder) l11 c11 k11
  have b11 := F11.binds (ps := ["one", "other"]) fun _ _ _ _ _ _ us hl => match us, hl with | [_, _], _ => rfl
  have F12 := fun_mk (st := sDSum) l12 c12 k12
  have b12 := F12.binds (ps := ["one", "other"]) fun _ _ _ _ _ _ us hl => match us, hl with | [_, _], _ => rfl
  have F13 := fun_mk (st := sDHalf) l13 c13 k13
  have b13 := F13.binds (ps := ["dyadic"]) fun _ _ _ _ _ _ us hl => match us, hl with | [_], _ => rfl
  have F14 := fun_mk (st := sCompare) l14 c14 k14
  have b14 := F14.binds (ps := ["one", "other"]) fun _ _ _ _ _ _ us hl => match us, hl with | [_, _], _ => rfl
  have F15 := fun_mk (st := sHalvings) l15 c15 k15
  have b15 := F15.binds (ps := ["bottom"]) fun _ _ _ _ _ _ us hl => match us, hl with | [_], _ => rfl
  have F16 := fun_mk (st := sDayBy) l16 c16 k16
  have b16 := F16.binds (ps := ["dyadic"]) fun _ _ _ _ _ _ us hl => match us, hl with | [_], _ => rfl
  have F17 := fun_mk (st := sDayOf) l17 c17 k17
  have b17 := F17.binds (ps := ["dyadic"]) fun _ _ _ _ _ _ us hl => match us, hl with | [_], _ => rfl
  have F18 := fun_mk (st := sWhole) l18 c18 k18
  have b18 := F18.binds (ps := ["low", "high"]) fun _ _ _ _ _ _ us hl => match us, hl with | [_, _], _ => rfl
  have F19 := fun_mk (st := sSBy) l19 c19 k19
  have b19 := F19.binds (ps := ["low", "high"]) fun _ _ _ _ _ _ us hl => match us, hl with | [_, _], _ => rfl
  have F20 := fun_mk (st := sNeedEnd) l20 c20 k20
  have b20 := F20.binds (ps := ["end"]) fun _ _ _ _ _ _ us hl => match us, hl with | [_], _ => rfl
  have F21 := fun_mk (st := sSBt) l21 c21 k21
  have b21 := F21.binds (ps := ["low", "high"]) fun _ _ _ _ _ _ us hl => match us, hl with | [_, _], _ => rfl
  have F22 := fun_mk (st := sParBy) l22 c22 k22
  have b22 := F22.binds (ps := ["dyadic"]) fun _ _ _ _ _ _ us hl => match us, hl with | [_], _ => rfl
  have F23 := fun_mk (st := sParOf) l23 c23 k23
  have b23 := F23.binds (ps := ["dyadic"]) fun _ _ _ _ _ _ us hl => match us, hl with | [_], _ => rfl
  have F24 := fun_mk (st := sDL) l24 c24 k24
  have b24 := F24.binds (ps := ["days"]) fun _ _ _ _ _ _ us hl => match us, hl with | [_], _ => rfl
  have F25 := fun_mk (st := sDDays) l25 c25 k25
  have b25 := F25.binds (ps := ["days"]) fun _ _ _ _ _ _ us hl => match us, hl with | [_], _ => rfl
  have F26 := fun_mk (st := sNextAbove) l26 c26 k26
  have b26 := F26.binds (ps := ["dyadic", "days"]) fun _ _ _ _ _ _ us hl => match us, hl with | [_, _], _ => rfl
  have F27 := fun_mk (st := sNb) l27 c27 k27
  have b27 := F27.binds (ps := ["dyadic", "days"]) fun _ _ _ _ _ _ us hl => match us, hl with | [_, _], _ => rfl
  have F28 := fun_mk (st := sLMade) l28 c28 k28
  have b28 := F28.binds (ps := ["top", "bottom"]) fun _ _ _ _ _ _ us hl => match us, hl with | [_, _], _ => rfl
  have F29 := fun_mk (st := sLDays) l29 c29 k29
  have b29 := F29.binds (ps := ["days"]) fun _ _ _ _ _ _ us hl => match us, hl with | [_], _ => rfl
  have F30 := fun_mk (st := sBegun) l30 c30 k30
  have b30 := F30.binds (ps := ["script"]) fun _ _ _ _ _ _ us hl => match us, hl with | [_], _ => rfl
  have F31 := fun_mk (st := sNext) l31 c31 k31
  have b31 := F31.binds (ps := ["m", "many"]) fun _ _ _ _ _ _ us hl => match us, hl with | [_, _], _ => rfl
  have F32 := fun_mk (st := sOf) l32 c32 k32
  have b32 := F32.binds (ps := ["m", "some"]) fun _ _ _ _ _ _ us hl => match us, hl with | [_, _], _ => rfl
  have F33 := fun_mk (st := sLike) l33 c33 k33
  have b33 := F33.binds (ps := ["got", "due"]) fun _ _ _ _ _ _ us hl => match us, hl with | [_, _], _ => rfl
  have F34 := fun_mk (st := sLPlus) l34 c34 k34
  have b34 := F34.binds (ps := ["one", "other"]) fun _ _ _ _ _ _ us hl => match us, hl with | [_, _], _ => rfl
  have F35 := fun_mk (st := sLMinus) l35 c35 k35
  have b35 := F35.binds (ps := ["one"]) fun _ _ _ _ _ _ us hl => match us, hl with | [_], _ => rfl
  have F36 := fun_mk (st := sFar) l36 c36 k36
  have b36 := F36.binds (ps := ["m", "whole", "halvings"]) fun _ _ _ _ _ _ us hl => match us, hl with | [_, _, _], _ => rfl
  have F37 := fun_mk (st := sLDay) l37 c37 k37
  have b37 := F37.binds (ps := ["number"]) fun _ _ _ _ _ _ us hl => match us, hl with | [_], _ => rfl
  have F38 := fun_mk (st := sLAbove) l38 c38 k38
  have b38 := F38.binds (ps := ["number", "days"]) fun _ _ _ _ _ _ us hl => match us, hl with | [_, _], _ => rfl
  have F39 := fun_mk (st := sLBoth) l39 c39 k39
  have b39 := F39.binds (ps := ["number", "days"]) fun _ _ _ _ _ _ us hl => match us, hl with | [_, _], _ => rfl
  have F40 := fun_mk (st := sOne) l40 c40 k40
  have b40 := F40.binds (ps := ["m", "number", "days"]) fun _ _ _ _ _ _ us hl => match us, hl with | [_, _, _], _ => rfl
  have F41 := fun_mk (st := sLaw) l41 c41 k41
  refine ⟨PySem.W.fnOf "law" "law" (defArgs sLaw) (defBody sLaw) (defScope sLaw) .none kV41 dc41 pm41 an41 cd41 ct41, fun s v => .of_eq rfl, fun base _ _ => ?_⟩
  let c : Cfg := ⟨l.prog, w, K, mg, base⟩
  have hBE : BE c := ⟨PySem.W.mg_none_of X G z0, PySem.W.mg_none_of X G z1, PySem.W.mg_none_of X G z2, PySem.W.mg_none_of X G z3, PySem.W.mg_none_of X G z4, PySem.W.mg_none_of X G z5, PySem.W.mg_none_of X G z6, PySem.W.mg_none_of X G z7, PySem.W.mg_none_of X G z8, PySem.W.mg_none_of X G z9, PySem.W.mg_none_of X G z10, PySem.W.mg_none_of X G z11, PySem.W.mg_none_of X G z12⟩
  have G_MOST_TOP : c.mg "MOST_TOP" = some (.int 1000000000000000000000000000000 t0) := PySem.W.mg_of X G m0
  have G_MOST_BOTTOM : c.mg "MOST_BOTTOM" = some (.int 18446744073709551616 t1) := PySem.W.mg_of X G m1
  have G_MOST_LIST_DAYS : c.mg "MOST_LIST_DAYS" = some (.int 10 t2) := PySem.W.mg_of X G m2
  have G_MOST_FAR_DAYS : c.mg "MOST_FAR_DAYS" = some (.int 1000 t3) := PySem.W.mg_of X G m3
  have b_abs : c.mg "abs" = none := PySem.W.mg_none_of X G z13
  have b_zip : c.mg "zip" = none := PySem.W.mg_none_of X G z14
  have T_NOTHING : GT c "NOTHING" (.tup [.int 0, .int 1]) := gt_tup (xs := [.int 0, .int 1]) (PySem.W.mg_of X G g0) gl0 rfl rfl (Nat.le_of_ble_eq_true rfl) (.cons ⟨_, rfl⟩ (.cons ⟨_, rfl⟩ .nil)) fun H => reps_ints (ns := [0, 1]).mpr rfl
  have C_is_number : AL.Callee c "is_number" 1 1 cIsNumber := ⟨f0, _, _, okIsNumber hBE F0, PySem.W.mg_of X G a0, k0, b0⟩
  have C_is_among : AL.Callee c "is_among" 2 3 cIsAmong := ⟨f1, _, _, okIsAmong C_is_number F1, PySem.W.mg_of X G a1, k1, b1⟩
  have C_is_tuple_of : AL.Callee c "is_tuple_of" 1 3 cIsTupleOf := ⟨f2, _, _, okIsTupleOf hBE F2, PySem.W.mg_of X G a2, k2, b2⟩
  have C_is_power_of_two : AL.Callee c "is_power_of_two" 2 1 cPow := ⟨f3, _, _, okPow C_is_number F3, PySem.W.mg_of X G a3, k3, b3⟩
  have C_need_dyadic : AL.Callee c "need_dyadic" 3 1 cNeedD := ⟨f4, _, _, okNeedD G_MOST_TOP G_MOST_BOTTOM C_is_among C_is_tuple_of C_is_power_of_two F4, PySem.W.mg_of X G a4, k4, b4⟩
  have C_need_two_dyadics : AL.Callee c "need_two_dyadics" 4 2 cTwo := ⟨f5, _, _, okTwo C_need_dyadic F5, PySem.W.mg_of X G a5, k5, b5⟩
  have C_made_dyadic : AL.Callee c "made_dyadic" 1 2 cMade := ⟨f6, _, _, okMade F6, PySem.W.mg_of X G a6, k6, b6⟩
  have C_plus_dyadic : AL.Callee c "plus_dyadic" 2 2 cPlus := ⟨f7, _, _, okPlus C_made_dyadic F7, PySem.W.mg_of X G a7, k7, b7⟩
  have C_turned_dyadic : AL.Callee c "turned_dyadic" 1 1 cTurned := ⟨f8, _, _, okTurned F8, PySem.W.mg_of X G a8, k8, b8⟩
  have C_half_dyadic : AL.Callee c "half_dyadic" 2 1 cHalf := ⟨f9, _, _, okHalf C_made_dyadic F9, PySem.W.mg_of X G a9, k9, b9⟩
  have C_is_less_dyadic : AL.Callee c "is_less_dyadic" 1 2 cLess := ⟨f10, _, _, okLess F10, PySem.W.mg_of X G a10, k10, b10⟩
  have C_order_dyadics : AL.Callee c "order_dyadics" 2 2 cOrder := ⟨f11, _, _, okOrder C_is_less_dyadic F11, PySem.W.mg_of X G a11, k11, b11⟩
  have C_dyadic_sum : AL.Callee c "dyadic_sum" 5 2 cDSum := ⟨f12, _, _, okDSum C_need_two_dyadics C_plus_dyadic F12, PySem.W.mg_of X G a12, k12, b12⟩
  have C_dyadic_half : AL.Callee c "dyadic_half" 4 1 cDHalf := ⟨f13, _, _, okDHalf C_need_dyadic C_half_dyadic F13, PySem.W.mg_of X G a13, k13, b13⟩
  have C_compare_dyadics : AL.Callee c "compare_dyadics" 5 2 cCompare := ⟨f14, _, _, okCompare C_need_two_dyadics C_order_dyadics F14, PySem.W.mg_of X G a14, k14, b14⟩
  have C_halvings_of : AL.Callee c "halvings_of" 1 1 cHalvings := ⟨f15, _, _, okHalvings F15, PySem.W.mg_of X G a15, k15, b15⟩
  have C_day_by : AL.Callee c "day_by" 2 1 cDayBy := ⟨f16, _, _, okDayBy hBE b_abs C_halvings_of F16, PySem.W.mg_of X G a16, k16, b16⟩
  have C_day_of : AL.Callee c "day_of" 4 1 cDayOf := ⟨f17, _, _, okDayOf C_need_dyadic C_day_by F17, PySem.W.mg_of X G a17, k17, b17⟩
  have C_simplest_whole : AL.Callee c "simplest_whole" 2 2 cWhole := ⟨f18, _, _, okWhole T_NOTHING C_is_less_dyadic F18, PySem.W.mg_of X G a18, k18, b18⟩
  have C_simplest_by : AL.Callee c "simplest_by" 3 2 cSBy := ⟨f19, _, _, okSBy C_simplest_whole C_plus_dyadic C_half_dyadic C_is_less_dyadic F19, PySem.W.mg_of X G a19, k19, b19⟩
  have C_need_end : AL.Callee c "need_end" 4 1 cNeedEnd := ⟨f20, _, _, okNeedEnd C_need_dyadic F20, PySem.W.mg_of X G a20, k20, b20⟩
  have C_simplest_between : AL.Callee c "simplest_between" 5 2 cSBt := ⟨f21, _, _, okSBt C_need_end C_simplest_by C_is_less_dyadic F21, PySem.W.mg_of X G a21, k21, b21⟩
  have C_parents_by : AL.Callee c "parents_by" 2 1 cParBy := ⟨f22, _, _, okParBy C_made_dyadic F22, PySem.W.mg_of X G a22, k22, b22⟩
  have C_parents_of : AL.Callee c "parents_of" 4 1 cParOf := ⟨f23, _, _, okParOf C_need_dyadic C_parents_by F23, PySem.W.mg_of X G a23, k23, b23⟩
  have C_dyadics_by : AL.Callee c "dyadics_by" 3 1 cDL := ⟨f24, _, _, okDL hBE b_zip T_NOTHING C_plus_dyadic C_half_dyadic F24, PySem.W.mg_of X G a24, k24, b24⟩
  have C_dyadics_of_days : AL.Callee c "dyadics_of_days" 4 1 cDDays := ⟨f25, _, _, okDDays hBE G_MOST_LIST_DAYS C_is_among C_dyadics_by F25, PySem.W.mg_of X G a25, k25, b25⟩
  have C_next_above : AL.Callee c "next_above" 2 2 cNextAbove := ⟨f26, _, _, okNextAbove hBE b_abs C_is_less_dyadic C_made_dyadic F26, PySem.W.mg_of X G a26, k26, b26⟩
  have C_neighbours_of : AL.Callee c "neighbours_of" 4 2 cNb := ⟨f27, _, _, okNb G_MOST_FAR_DAYS C_need_dyadic C_is_among C_next_above C_turned_dyadic F27, PySem.W.mg_of X G a27, k27, b27⟩
  have C__law_made : AL.Callee c "_law_made" 1 2 cMade := ⟨f28, _, _, okLMade hBE F28, PySem.W.mg_of X G a28, k28, b28⟩
  have C__law_days_of : AL.Callee c "_law_days_of" 2 1 cLDays := ⟨f29, _, _, okLDays hBE b_abs C__law_made F29, PySem.W.mg_of X G a29, k29, b29⟩
  have C__law_begun : AL.Callee c "_law_begun" 1 1 cBegun := ⟨f30, _, _, okBegun hBE F30, PySem.W.mg_of X G a30, k30, b30⟩
  have C__law_next : AL.Callee c "_law_next" 1 2 cNext := ⟨f31, _, _, okNext hBE F31, PySem.W.mg_of X G a31, k31, b31⟩
  have C__law_of : AL.Callee c "_law_of" 2 2 cOf := ⟨f32, _, _, okOf hBE C__law_next F32, PySem.W.mg_of X G a32, k32, b32⟩
  have C__law_like : AL.Callee c "_law_like" 4 2 (cLike 3) := ⟨f33, _, _, okLike hBE F33 (PySem.W.mg_of X G a33) k33 b33 3 (by decide), PySem.W.mg_of X G a33, k33, b33⟩
  have C__law_plus : AL.Callee c "_law_plus" 2 2 cPlus := ⟨f34, _, _, okLPlus C__law_made F34, PySem.W.mg_of X G a34, k34, b34⟩
  have C__law_minus : AL.Callee c "_law_minus" 1 1 cTurned := ⟨f35, _, _, okLMinus F35, PySem.W.mg_of X G a35, k35, b35⟩
  have C__law_far_number : AL.Callee c "_law_far_number" 2 3 cFar := ⟨f36, _, _, okFar hBE C__law_next C__law_made F36, PySem.W.mg_of X G a36, k36, b36⟩
  have C__law_day : AL.Callee c "_law_day" 2 1 cDayBy := ⟨f37, _, _, okLDay hBE b_abs F37, PySem.W.mg_of X G a37, k37, b37⟩
  have C__law_above : AL.Callee c "_law_above" 2 2 cLAbove := ⟨f38, _, _, okLAbove hBE b_abs C__law_made F38, PySem.W.mg_of X G a38, k38, b38⟩
  have C__law_both : AL.Callee c "_law_both" 3 2 cLBoth := ⟨f39, _, _, okLBoth C__law_above C__law_minus F39, PySem.W.mg_of X G a39, k39, b39⟩
  have C__law_one_right : AL.Callee c "_law_one_right" 6 3 cOne := ⟨f40, _, _, okOne hBE b_abs C__law_both C__law_like C_neighbours_of C__law_day C_day_of C_parents_of C_simplest_between C__law_plus C__law_made C_dyadic_half C_dyadic_sum F40, PySem.W.mg_of X G a40, k40, b40⟩
  exact okLaw hBE C__law_begun C__law_far_number C__law_of C__law_day C__law_next C__law_one_right C__law_days_of C__law_like C_dyadics_of_days C_neighbours_of C_compare_dyadics C__law_made F41
end
end K20
open PySem PySem.W PyProof.Rows
set_option maxHeartbeats 0 in
theorem PySem.Challenge.cw_sidesums_k20_whole_days_far_on_holds : PySem.Challenge.rw_sidesums_k20_whole_days_far_on.Holds := by
  w_on; o_law; k_head; (case hw => w_witness2)
  k_fill
  refine L2.walk_of (l := PySem.Challenge.rw_sidesums_k20_whole_days_far_on) (n := 63) (k := 7) (x := "script") (CX := fun _ => L2.CX0) (sp := fun w => AL.spOf _ K20.cLaw 1) rfl (by decide) rfl ⟨rfl, by decide, by decide⟩ (fun w h Y => PySem.W.kIn_of Y) ?F (fun _ _ a ns hl hO hS => K20.law_sp hl hO hS) (fun _ _ _ _ _ h => h)
  case F =>
    intro w mg fa h KX G hmg
    refine' K20.all_mk KX G hmg ?a0 ?l0 ?c0 ?k0 ?a1 ?l1 ?c1 ?k1 ?a2 ?l2 ?c2 ?k2 ?a3 ?l3 ?c3 ?k3 ?a4 ?l4 ?c4 ?k4 ?a5 ?l5 ?c5 ?k5 ?a6 ?l6 ?c6 ?k6 ?a7 ?l7 ?c7 ?k7 ?a8 ?l8 ?c8 ?k8 ?a9 ?l9 ?c9 ?k9 ?a10 ?l10 ?c10 ?k10 ?a11 ?l11 ?c11 ?k11 ?a12 ?l12 ?c12 ?k12 ?a13 ?l13 ?c13 ?k13 ?a14 ?l14 ?c14 ?k14 ?a15 ?l15 ?c15 ?k15 ?a16 ?l16 ?c16 ?k16 ?a17 ?l17 ?c17 ?k17 ?a18 ?l18 ?c18 ?k18 ?a19 ?l19 ?c19 ?k19 ?a20 ?l20 ?c20 ?k20 ?a21 ?l21 ?c21 ?k21 ?a22 ?l22 ?c22 ?k22 ?a23 ?l23 ?c23 ?k23 ?a24 ?l24 ?c24 ?k24 ?a25 ?l25 ?c25 ?k25 ?a26 ?l26 ?c26 ?k26 ?a27 ?l27 ?c27 ?k27 ?a28 ?l28 ?c28 ?k28 ?a29 ?l29 ?c29 ?k29 ?a30 ?l30 ?c30 ?k30 ?a31 ?l31 ?c31 ?k31 ?a32 ?l32 ?c32 ?k32 ?a33 ?l33 ?c33 ?k33 ?a34 ?l34 ?c34 ?k34 ?a35 ?l35 ?c35 ?k35 ?a36 ?l36 ?c36 ?k36 ?a37 ?l37 ?c37 ?k37 ?a38 ?l38 ?c38 ?k38 ?a39 ?l39 ?c39 ?k39 ?a40 ?l40 ?c40 ?k40 ?a41 ?l41 ?c41 ?k41 ?z0 ?z1 ?z2 ?z3 ?z4 ?z5 ?z6 ?z7 ?z8 ?z9 ?z10 ?z11 ?z12 ?z13 ?z14 ?m0 ?m1 ?m2 ?m3 ?gT0 ?gL0
    (case a0 => k_is); (case l0 => k_is); (case c0 => k_is); (case k0 => k_is); (case a1 => k_is); (case l1 => k_is); (case c1 => k_is); (case k1 => k_is); (case a2 => k_is); (case l2 => k_is); (case c2 => k_is); (case k2 => k_is); (case a3 => k_is); (case l3 => k_is); (case c3 => k_is); (case k3 => k_is); (case a4 => k_is); (case l4 => k_is); (case c4 => k_is); (case k4 => k_is); (case a5 => k_is); (case l5 => k_is); (case c5 => k_is); (case k5 => k_is); (case a6 => k_is); (case l6 => k_is); (case c6 => k_is); (case k6 => k_is); (case a7 => k_is); (case l7 => k_is); (case c7 => k_is); (case k7 => k_is); (case a8 => k_is); (case l8 => k_is); (case c8 => k_is); (case k8 => k_is); (case a9 => k_is); (case l9 => k_is); (case c9 => k_is); (case k9 => k_is); (case a10 => k_is); (case l10 => k_is); (case c10 => k_is); (case k10 => k_is); (case a11 => k_is); (case l11 => k_is); (case c11 => k_is); (case k11 => k_is); (case a12 => k_is); (case l12 => k_is); (case c12 => k_is); (case k12 => k_is); (case a13 => k_is); (case l13 => k_is); (case c13 => k_is); (case k13 => k_is); (case a14 => k_is); (case l14 => k_is); (case c14 => k_is); (case k14 => k_is); (case a15 => k_is); (case l15 => k_is); (case c15 => k_is); (case k15 => k_is); (case a16 => k_is); (case l16 => k_is); (case c16 => k_is); (case k16 => k_is); (case a17 => k_is); (case l17 => k_is); (case c17 => k_is); (case k17 => k_is); (case a18 => k_is); (case l18 => k_is); (case c18 => k_is); (case k18 => k_is); (case a19 => k_is); (case l19 => k_is); (case c19 => k_is); (case k19 => k_is); (case a20 => k_is); (case l20 => k_is); (case c20 => k_is); (case k20 => k_is); (case a21 => k_is); (case l21 => k_is); (case c21 => k_is); (case k21 => k_is); (case a22 => k_is); (case l22 => k_is); (case c22 => k_is); (case k22 => k_is); (case a23 => k_is); (case l23 => k_is); (case c23 => k_is); (case k23 => k_is); (case a24 => k_is); (case l24 => k_is); (case c24 => k_is); (case k24 => k_is); (case a25 => k_is); (case l25 => k_is); (case c25 => k_is); (case k25 => k_is); (case a26 => k_is); (case l26 => k_is); (case c26 => k_is); (case k26 => k_is); (case a27 => k_is); (case l27 => k_is); (case c27 => k_is); (case k27 => k_is); (case a28 => k_is); (case l28 => k_is); (case c28 => k_is); (case k28 => k_is); (case a29 => k_is); (case l29 => k_is); (case c29 => k_is); (case k29 => k_is); (case a30 => k_is); (case l30 => k_is); (case c30 => k_is); (case k30 => k_is); (case a31 => k_is); (case l31 => k_is); (case c31 => k_is); (case k31 => k_is); (case a32 => k_is); (case l32 => k_is); (case c32 => k_is); (case k32 => k_is); (case a33 => k_is); (case l33 => k_is); (case c33 => k_is); (case k33 => k_is); (case a34 => k_is); (case l34 => k_is); (case c34 => k_is); (case k34 => k_is); (case a35 => k_is); (case l35 => k_is); (case c35 => k_is); (case k35 => k_is); (case a36 => k_is); (case l36 => k_is); (case c36 => k_is); (case k36 => k_is); (case a37 => k_is); (case l37 => k_is); (case c37 => k_is); (case k37 => k_is); (case a38 => k_is); (case l38 => k_is); (case c38 => k_is); (case k38 => k_is); (case a39 => k_is); (case l39 => k_is); (case c39 => k_is); (case k39 => k_is); (case a40 => k_is); (case l40 => k_is); (case c40 => k_is); (case k40 => k_is); (case a41 => k_is); (case l41 => k_is); (case c41 => k_is); (case k41 => k_is); (case z0 => k_is); (case z1 => k_is); (case z2 => k_is); (case z3 => k_is); (case z4 => k_is); (case z5 => k_is); (case z6 => k_is); (case z7 => k_is); (case z8 => k_is); (case z9 => k_is); (case z10 => k_is); (case z11 => k_is); (case z12 => k_is); (case z13 => k_is); (case z14 => k_is); (case m0 => k_is); (case m1 => k_is); (case m2 => k_is); (case m3 => k_is); (case gT0 => k_is); (case gL0 => k_is)
