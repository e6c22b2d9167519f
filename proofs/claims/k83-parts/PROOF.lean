import PyProof.Rows.All
import Wide.All
import OpenK.AllK
import Wide.FinOn
import HandS.ForMost
import HandS.More
import HandS.Wide
import HandS.WideBits
import HandS.SortInts
import HandS.IsInst
import HandS.Style
import HandS.NoneIn
import HandS.Flow
import HandS.Defaults
import HandS.TupAny
import HandS.HeadHook3
import PySem.Challenge.RW_readslittle_k83_whole_parts_of_what_is_b
import KE.KStateDown
import HandS.Head0
import HandS.Head1
import HandS.Head2
import HandS.HeadEnd
import HandS.HeadHook1
import HandS.HeadHook2
import HandS.HeadHook4
set_option Elab.async false
set_option linter.all false
set_option maxRecDepth 100000
set_option maxHeartbeats 0
set_option exponentiation.threshold 100000
/-! values as plain data over the hand layer's heap: data D, stores, links; what a reading over data says of a reading over the heap -/
namespace PD
open PySem PySem.Spec PyProof.Rows L2

/-- data: tuples by what they hold; rl: a list that nobody changes (the script); ref: a list, a dict, an object, by its place -/
inductive D where
  | non | bl (b : Bool) | int (i : Int) | str (x : Str) | tup (xs : List D) | rl (xs : List D) | kd (ks : List Str) (ds : List D) | ref (a : Addr)
/-- what stands at a place -/
inductive O where
  | lst (xs : List D) | dK (kvs : List (Key × D))
abbrev Sto := Addr → Option O
abbrev Env := List (Option D)
abbrev KD := D → Sto → Prop
def put (S : Sto) (a : Addr) (o : O) : Sto := fun b => if b = a then some o else S b
theorem put_same {S : Sto} {a : Addr} {o : O} : put S a o a = some o := by unfold put; rw [if_pos rfl]
theorem put_ne {S : Sto} {a b : Addr} {o : O} (h : b ≠ a) : put S a o b = S b := by unfold put; rw [if_neg h]
theorem put_put {S : Sto} {a : Addr} {o u : O} : put (put S a o) a u = put S a u := by
  funext b; unfold put; split <;> rfl

/-- the written part, and the world -/
abbrev KW := PySem.W.Frag × World
/-- a list that stays: locked, or of the written part -/
def SqF (K : PySem.W.Frag) (H : Hp) (a : Addr) (xs : List V) : Prop :=
  (∃ o, H a = some (.frz o (.lst xs))) ∨
    ∃ (o : Obj) (its : Array Value) (n : Nat), K.lookup a = some o ∧ o.cls = .type "list" ∧ o.dict = none ∧ o.data = .seq its n ∧ its.size ≤ sizeLine ∧ Vals xs its.toList
theorem SqF.seq {K : PySem.W.Frag} {H : Hp} {a : Addr} {xs : List V} (h : SqF K H a xs) : SqL K H a xs := by
  rcases h with ⟨o, h⟩ | h
  · exact .inl (.inr ⟨o, h⟩)
  · exact .inr h

mutual
def DR (K : KW) (H : Hp) : D → V → Prop
  | .non, v => v = .non
  | .bl b, v => v = .bl b
  | .int i, v => v = .int i
  | .str x, v => v = .str x
  | .tup ds, v => ∃ a vs, v = .ref a ∧ SqT K.1 H a vs ∧ DRs K H ds vs
  | .rl ds, v => ∃ a vs, v = .ref a ∧ SqF K.1 H a vs ∧ DRs K H ds vs
  | .kd ks ds, v => ∃ a vs, v = .ref a ∧ Paired (fun k w => KDct K.1 K.2 a k w) ks vs ∧ DRs K H ds vs
  | .ref a, v => v = .ref a
def DRs (K : KW) (H : Hp) : List D → List V → Prop
  | [], vs => vs = []
  | d :: ds, vs => ∃ w ws, vs = w :: ws ∧ DR K H d w ∧ DRs K H ds ws
end

section
variable {K : KW} {H H' : Hp}
theorem DRs.nil : DRs K H [] [] := by unfold DRs; rfl
theorem DRs.cons {d : D} {ds : List D} {v : V} {vs : List V} (h : DR K H d v) (t : DRs K H ds vs) : DRs K H (d :: ds) (v :: vs) := by
  unfold DRs; exact ⟨v, vs, rfl, h, t⟩
theorem DRs.inv_nil {vs : List V} (h : DRs K H [] vs) : vs = [] := by unfold DRs at h; exact h
theorem DRs.inv_cons {d : D} {ds : List D} {vs : List V} (h : DRs K H (d :: ds) vs) : ∃ w ws, vs = w :: ws ∧ DR K H d w ∧ DRs K H ds ws := by unfold DRs at h; exact h
theorem DRs.length : ∀ {ds : List D} {vs : List V}, DRs K H ds vs → vs.length = ds.length
  | [], vs, h => by rw [h.inv_nil]; rfl
  | d :: ds, vs, h => by
    obtain ⟨w, ws, rfl, _, t⟩ := h.inv_cons
    simp only [List.length_cons, DRs.length t]
theorem DRs.get : ∀ {ds : List D} {vs : List V} {i : Nat} {d : D}, DRs K H ds vs → ds[i]? = some d → ∃ v, vs[i]? = some v ∧ DR K H d v
  | [], _, _, _, _, e => by simp at e
  | d :: ds, vs, 0, d', h, e => by
    obtain ⟨w, ws, rfl, r, _⟩ := h.inv_cons
    simp at e; subst e
    exact ⟨w, rfl, r⟩
  | d :: ds, vs, i + 1, d', h, e => by
    obtain ⟨w, ws, rfl, _, t⟩ := h.inv_cons
    obtain ⟨v, h1, h2⟩ := DRs.get (i := i) t (by simpa using e)
    exact ⟨v, by simpa using h1, h2⟩
theorem DRs.get' : ∀ {ds : List D} {vs : List V} {i : Nat} {v : V}, DRs K H ds vs → vs[i]? = some v → ∃ d, ds[i]? = some d ∧ DR K H d v
  | [], vs, i, v, h, e => by rw [h.inv_nil] at e; simp at e
  | d :: ds, vs, 0, v, h, e => by
    obtain ⟨w, ws, rfl, r, _⟩ := h.inv_cons
    simp at e; subst e
    exact ⟨d, rfl, r⟩
  | d :: ds, vs, i + 1, v, h, e => by
    obtain ⟨w, ws, rfl, _, t⟩ := h.inv_cons
    obtain ⟨d', h1, h2⟩ := DRs.get' (i := i) t (by simpa using e)
    exact ⟨d', by simpa using h1, h2⟩
theorem DRs.append : ∀ {ds es : List D} {vs ws : List V}, DRs K H ds vs → DRs K H es ws → DRs K H (ds ++ es) (vs ++ ws)
  | [], _, vs, _, h, t => by rw [h.inv_nil]; exact t
  | d :: ds, es, vs, ws, h, t => by
    obtain ⟨w, ws', rfl, r, t'⟩ := h.inv_cons
    exact DRs.cons r (DRs.append t' t)
theorem DRs.take : ∀ (n : Nat) {ds : List D} {vs : List V}, DRs K H ds vs → DRs K H (ds.take n) (vs.take n)
  | 0, _, _, _ => by simp only [List.take_zero]; exact DRs.nil
  | n + 1, [], vs, h => by rw [h.inv_nil]; exact DRs.nil
  | n + 1, d :: ds, vs, h => by
    obtain ⟨w, ws, rfl, r, t⟩ := h.inv_cons
    exact DRs.cons r (DRs.take n t)
theorem DRs.drop : ∀ (n : Nat) {ds : List D} {vs : List V}, DRs K H ds vs → DRs K H (ds.drop n) (vs.drop n)
  | 0, _, _, h => h
  | n + 1, [], vs, h => by rw [h.inv_nil]; exact DRs.nil
  | n + 1, d :: ds, vs, h => by
    obtain ⟨w, ws, rfl, r, t⟩ := h.inv_cons
    exact DRs.drop n t
theorem DRs.set {d : D} {v : V} (r : DR K H d v) : ∀ (n : Nat) {ds : List D} {vs : List V}, DRs K H ds vs → DRs K H (ds.set n d) (vs.set n v)
  | _, [], vs, h => by rw [h.inv_nil]; exact DRs.nil
  | 0, d' :: ds, vs, h => by
    obtain ⟨w, ws, rfl, _, t⟩ := h.inv_cons
    exact DRs.cons r t
  | n + 1, d' :: ds, vs, h => by
    obtain ⟨w, ws, rfl, r', t⟩ := h.inv_cons
    exact DRs.cons r' (DRs.set r n t)
theorem DRs.eraseIdx : ∀ (n : Nat) {ds : List D} {vs : List V}, DRs K H ds vs → DRs K H (ds.eraseIdx n) (vs.eraseIdx n)
  | _, [], vs, h => by rw [h.inv_nil]; exact DRs.nil
  | 0, d' :: ds, vs, h => by
    obtain ⟨w, ws, rfl, _, t⟩ := h.inv_cons
    exact t
  | n + 1, d' :: ds, vs, h => by
    obtain ⟨w, ws, rfl, r', t⟩ := h.inv_cons
    exact DRs.cons r' (DRs.eraseIdx n t)
theorem DRs.ints : ∀ {ns : List Int} {vs : List V}, DRs K H (ns.map D.int) vs → vs = ns.map V.int
  | [], vs, h => h.inv_nil
  | n :: ns, vs, h => by
    obtain ⟨w, ws, rfl, r, t⟩ := h.inv_cons
    unfold DR at r; subst r
    rw [DRs.ints t]; rfl
theorem DRs.of_ints : ∀ (ns : List Int), DRs K H (ns.map D.int) (ns.map V.int)
  | [] => DRs.nil
  | n :: ns => DRs.cons (by unfold DR; rfl) (DRs.of_ints ns)
theorem DRs.bls : ∀ {ns : List Bool} {vs : List V}, DRs K H (ns.map D.bl) vs → vs = ns.map V.bl
  | [], vs, h => h.inv_nil
  | n :: ns, vs, h => by
    obtain ⟨w, ws, rfl, r, t⟩ := h.inv_cons
    unfold DR at r; subst r
    rw [DRs.bls t]; rfl
end

/-- what stands at a place, in the heap -/
def OR (K : KW) (H : Hp) (a : Addr) : O → Prop
  | .lst ds => ∃ vs, H a = some (.lst vs) ∧ DRs K H ds vs
  | .dK kds => ∃ kvs, H a = some (.dK kvs) ∧ kvs.map (·.1) = kds.map (·.1) ∧ DRs K H (kds.map (·.2)) (kvs.map (·.2))
def StoR (K : KW) (S : Sto) (H : Hp) : Prop := ∀ a o, S a = some o → OR K H a o
/-- a step: what the store does not hold stays; what is new in the store is new in the heap -/
def Stp (S : Sto) (H : Hp) (S' : Sto) (H' : Hp) : Prop := ∀ a o, H a = some o → S a = none → S' a = none ∧ H' a = some o
theorem Stp.refl (S : Sto) (H : Hp) : Stp S H S H := fun _ _ h n => ⟨n, h⟩
theorem Stp.trans {S S1 S2 : Sto} {H H1 H2 : Hp} (a : Stp S H S1 H1) (b : Stp S1 H1 S2 H2) : Stp S H S2 H2 := fun c o h n =>
  let ⟨n1, h1⟩ := a c o h n
  b c o h1 n1
section
variable {K : KW} {S S' : Sto} {H H' : Hp}
theorem StoR.there (h : StoR K S H) {a : Addr} {o : O} (e : S a = some o) : ∃ u, H a = some u ∧ Mut (some u) := by
  have z := h a o e
  cases o with
  | lst ds => obtain ⟨vs, e, _⟩ := z; exact ⟨_, e, trivial⟩
  | dK ds => obtain ⟨vs, e, _⟩ := z; exact ⟨_, e, trivial⟩
theorem StoR.free (h : StoR K S H) {a : Addr} {u : HO} (e : H a = some u) (n : ¬ Mut (some u)) : S a = none := by
  cases q : S a with
  | none => rfl
  | some o =>
    obtain ⟨w, e', m⟩ := h.there q
    rw [e] at e'; cases e'
    exact (n m).elim
theorem StoR.none (h : StoR K S H) {a : Addr} (e : H a = Option.none) : S a = Option.none := by
  cases q : S a with
  | none => rfl
  | some o =>
    obtain ⟨w, e', m⟩ := h.there q
    rw [e] at e'; cases e'
theorem SqT.step (s : StoR K S H) (p : Stp S H S' H') {a : Addr} {vs : List V} (h : SqT K.1 H a vs) : SqT K.1 H' a vs := by
  rcases h with h | h
  · rcases h with h | ⟨o, h⟩
    · exact .inl (.inl (p a _ h (s.free h fun z => z)).2)
    · exact .inl (.inr ⟨o, (p a _ h (s.free h fun z => z)).2⟩)
  · exact .inr h
theorem SqF.step (s : StoR K S H) (p : Stp S H S' H') {a : Addr} {vs : List V} (h : SqF K.1 H a vs) : SqF K.1 H' a vs := by
  rcases h with ⟨o, h⟩ | h
  · exact .inl ⟨o, (p a _ h (s.free h fun z => z)).2⟩
  · exact .inr h
mutual
theorem DR.step (s : StoR K S H) (p : Stp S H S' H') : ∀ (d : D) (v : V), DR K H d v → DR K H' d v
  | .non, v, h => by unfold DR at h ⊢; exact h
  | .bl b, v, h => by unfold DR at h ⊢; exact h
  | .int i, v, h => by unfold DR at h ⊢; exact h
  | .str x, v, h => by unfold DR at h ⊢; exact h
  | .tup ds, v, h => by
    unfold DR at h ⊢
    obtain ⟨a, vs, e, q, r⟩ := h
    exact ⟨a, vs, e, SqT.step s p q, DRs.step s p ds vs r⟩
  | .rl ds, v, h => by
    unfold DR at h ⊢
    obtain ⟨a, vs, e, q, r⟩ := h
    exact ⟨a, vs, e, SqF.step s p q, DRs.step s p ds vs r⟩
  | .kd ks ds, v, h => by
    unfold DR at h ⊢
    obtain ⟨a, vs, e, q, r⟩ := h
    exact ⟨a, vs, e, q, DRs.step s p ds vs r⟩
  | .ref a, v, h => by unfold DR at h ⊢; exact h
theorem DRs.step (s : StoR K S H) (p : Stp S H S' H') : ∀ (ds : List D) (vs : List V), DRs K H ds vs → DRs K H' ds vs
  | [], vs, h => by unfold DRs at h ⊢; exact h
  | d :: ds, vs, h => by
    unfold DRs at h ⊢
    obtain ⟨w, ws, e, r, t⟩ := h
    exact ⟨w, ws, e, DR.step s p d w r, DRs.step s p ds ws t⟩
end
theorem OR.step (s : StoR K S H) (p : Stp S H S' H') {a : Addr} {o : O} (e : H' a = H a) (h : OR K H a o) : OR K H' a o := by
  cases o with
  | lst ds =>
    obtain ⟨vs, h1, h2⟩ := h
    exact ⟨vs, e.trans h1, DRs.step s p _ _ h2⟩
  | dK ds =>
    obtain ⟨vs, h1, h2, h3⟩ := h
    exact ⟨vs, e.trans h1, h2, DRs.step s p _ _ h3⟩
/-- a new object -/
theorem Stp.new {o : O} {u : HO} {a : Addr} (s : StoR K S H) (n : H a = none) : Stp S H (put S a o) (upd H a u) := fun b w h z => by
  have ne : b ≠ a := ne_of_none h n
  exact ⟨by rw [put_ne ne]; exact z, by rw [upd_ne ne]; exact h⟩
theorem Stp.newH {u : HO} {a : Addr} (n : H a = none) : Stp S H S (upd H a u) := fun b w h z => by
  have ne : b ≠ a := ne_of_none h n
  exact ⟨z, by rw [upd_ne ne]; exact h⟩
theorem Stp.chg {o o' : O} {u : HO} {a : Addr} (e : S a = some o) : Stp S H (put S a o') (upd H a u) := fun b w h z => by
  have ne : b ≠ a := fun q => by subst q; rw [e] at z; cases z
  exact ⟨by rw [put_ne ne]; exact z, by rw [upd_ne ne]; exact h⟩
theorem StoR.newH {u : HO} {a : Addr} (s : StoR K S H) (n : H a = Option.none) : StoR K S (upd H a u) := fun b o e => by
  obtain ⟨w, h, _⟩ := s.there e
  exact OR.step s (Stp.newH n) (upd_ne (ne_of_none h n)) (s b o e)
theorem StoR.put {o : O} {u : HO} {a : Addr} (s : StoR K S H) (p : Stp S H (put S a o) (upd H a u)) (h : OR K (upd H a u) a o) : StoR K (put S a o) (upd H a u) := fun b o' e => by
  by_cases q : b = a
  · subst q; rw [put_same] at e; cases e; exact h
  · rw [put_ne q] at e
    exact OR.step s p (upd_ne q) (s b o' e)
/-- fewer objects -/
theorem StoR.sub (s : StoR K S H) (h : ∀ a o, S' a = some o → S a = some o) : StoR K S' H := fun a o e => s a o (h a o e)
end

/-! ### slots -/
def EnvR (K : KW) (H : Hp) (ρ : Env) (σ : L2.St) : Prop := σ.length = ρ.length ∧ ∀ (i : Nat) d, ρ[i]? = some (some d) → ∃ v, σ[i]? = some (some v) ∧ DR K H d v
theorem EnvR.step {K : KW} {S S' : Sto} {H H' : Hp} {ρ : Env} {σ : L2.St} (e : EnvR K H ρ σ) (s : StoR K S H) (p : Stp S H S' H') : EnvR K H' ρ σ :=
  ⟨e.1, fun i d h => let ⟨v, h1, h2⟩ := e.2 i d h; ⟨v, h1, DR.step s p d v h2⟩⟩
theorem EnvR.set {K : KW} {H : Hp} {ρ : Env} {σ : L2.St} {i : Nat} {d : D} {v : V} (e : EnvR K H ρ σ) (r : DR K H d v) : EnvR K H (ρ.set i (some d)) (σ.set i (some v)) := by
  refine ⟨by simp [e.1], fun j d' h => ?_⟩
  by_cases q : i = j
  · subst q
    have hl : i < ρ.length := by
      rcases Nat.lt_or_ge i ρ.length with z | z
      · exact z
      · rw [List.getElem?_eq_none (by simpa using z)] at h; cases h
    rw [List.getElem?_set_self hl] at h
    cases h
    exact ⟨v, by rw [List.getElem?_set_self (by rw [e.1]; exact hl)], r⟩
  · rw [List.getElem?_set_ne q] at h
    obtain ⟨w, h1, h2⟩ := e.2 j d' h
    exact ⟨w, by rw [List.getElem?_set_ne q]; exact h1, h2⟩
def wipeD (ρ : Env) : List Nat → Env
  | [] => ρ
  | v :: vs => (wipeD ρ vs).set v none
theorem wipeD_length (ρ : Env) : ∀ vs : List Nat, (wipeD ρ vs).length = ρ.length
  | [] => rfl
  | v :: vs => by unfold wipeD; rw [List.length_set, wipeD_length ρ vs]
theorem EnvR.wipe {K : KW} {H : Hp} {ρ : Env} {σ : L2.St} (e : EnvR K H ρ σ) : ∀ vs : List Nat, EnvR K H (wipeD ρ vs) (wipe σ vs)
  | [] => e
  | v :: vs => by
    have ih := EnvR.wipe e vs
    unfold wipeD
    unfold L2.wipe
    refine ⟨by simp [ih.1], fun j d' h => ?_⟩
    by_cases q : v = j
    · subst q
      rcases Nat.lt_or_ge v (wipeD ρ vs).length with z | z
      · rw [List.getElem?_set_self z] at h; cases h
      · rw [List.getElem?_eq_none (by simpa using z)] at h; cases h
    · rw [List.getElem?_set_ne q] at h
      obtain ⟨w, h1, h2⟩ := ih.2 j d' h
      exact ⟨w, by rw [List.getElem?_set_ne q]; exact h1, h2⟩
end PD

namespace PD
open PySem PySem.Spec PyProof.Rows L2

abbrev WE := Env → Sto → KD → Prop
abbrev WA := Env → Sto → (List D → Sto → Prop) → Prop
abbrev WT := Env → Sto → (Bool → Sto → Prop) → Prop

/-- the context's written part and world -/
abbrev kw (X : Cx) : KW := (X.K, X.w)
/-! ### links: what is wanted over data, over the heap -/
def Lk (K : KW) (S : Sto) (H : Hp) (Q : KD) (Q' : VK) : Prop := ∀ d S' v H', DR K H' d v → StoR K S' H' → Stp S H S' H' → Q d S' → Q' v H'
def LkA (K : KW) (S : Sto) (H : Hp) (Q : List D → Sto → Prop) (Q' : List V → Hp → Prop) : Prop := ∀ ds S' vs H', DRs K H' ds vs → StoR K S' H' → Stp S H S' H' → Q ds S' → Q' vs H'
def LkT (K : KW) (S : Sto) (H : Hp) (Q : Bool → Sto → Prop) (Q' : Bool → Hp → Prop) : Prop := ∀ b S' H', StoR K S' H' → Stp S H S' H' → Q b S' → Q' b H'
section
variable {K : KW} {S S1 : Sto} {H H1 : Hp}
theorem Lk.later {Q : KD} {Q' : VK} (l : Lk K S H Q Q') (p : Stp S H S1 H1) : Lk K S1 H1 Q Q' := fun d S' v H' r s q => l d S' v H' r s (p.trans q)
theorem LkA.later {Q : List D → Sto → Prop} {Q' : List V → Hp → Prop} (l : LkA K S H Q Q') (p : Stp S H S1 H1) : LkA K S1 H1 Q Q' := fun d S' v H' r s q => l d S' v H' r s (p.trans q)
theorem LkT.later {Q : Bool → Sto → Prop} {Q' : Bool → Hp → Prop} (l : LkT K S H Q Q') (p : Stp S H S1 H1) : LkT K S1 H1 Q Q' := fun d S' H' s q => l d S' H' s (p.trans q)
theorem Lk.here {Q : KD} {Q' : VK} (l : Lk K S H Q Q') (s : StoR K S H) {d : D} {v : V} (r : DR K H d v) (q : Q d S) : Q' v H := l d S v H r s (Stp.refl S H) q
theorem LkT.here {Q : Bool → Sto → Prop} {Q' : Bool → Hp → Prop} (l : LkT K S H Q Q') (s : StoR K S H) {b : Bool} (q : Q b S) : Q' b H := l b S H s (Stp.refl S H) q
/-- the store too goes on in the heap alone -/
theorem Lk.newH {Q : KD} {Q' : VK} (l : Lk K S H Q Q') (s : StoR K S H) {u : HO} {p : Addr} (n : H p = none) {d : D} {v : V} (r : DR K (upd H p u) d v) (q : Q d S) : Q' v (upd H p u) :=
  l d S v _ r (s.newH n) (Stp.newH n) q
end
def liftE (K : KW) (w : WE) : TE := fun σ H Q' => ∃ ρ S Q, EnvR K H ρ σ ∧ StoR K S H ∧ w ρ S Q ∧ Lk K S H Q Q'
def liftA (K : KW) (w : WA) : TA := fun σ H Q' => ∃ ρ S Q, EnvR K H ρ σ ∧ StoR K S H ∧ w ρ S Q ∧ LkA K S H Q Q'
def liftT (K : KW) (w : WT) : TT := fun σ H Q' => ∃ ρ S Q, EnvR K H ρ σ ∧ StoR K S H ∧ w ρ S Q ∧ LkT K S H Q Q'
section
variable {X : Cx} {e a b : Expr} {es : List Expr}
theorem weakE {t t' : TE} (h : PE X e t) (i : ∀ σ H Q, t' σ H Q → t σ H Q) : PE X e t' := ⟨fun pins s σ H Q I q => h.run pins s σ H Q I (i σ H Q q)⟩
theorem weakA {t t' : TA} (h : PA X es t) (i : ∀ σ H Q, t' σ H Q → t σ H Q) : PA X es t' := ⟨fun pos pins s σ H Q I q => h.run pos pins s σ H Q I (i σ H Q q)⟩
theorem weakT {t t' : TT} (h : PT X e t) (i : ∀ σ H Q, t' σ H Q → t σ H Q) : PT X e t' := ⟨fun pins s σ H Q I q => h.run pins s σ H Q I (i σ H Q q)⟩
theorem weakW {t t' : TT} (h : PW X e t) (i : ∀ σ H Q, t' σ H Q → t σ H Q) : PW X e t' := ⟨fun wh pins s σ H Q I q => h.run wh pins s σ H Q I (i σ H Q q)⟩

/-! ### names, constants -/
def envGet (ρ : Env) (i : Nat) : Option D := match ρ[i]? with | some (some d) => some d | _ => none
def wVar (i : Nat) : WE := fun ρ S Q => match ρ[i]? with | some (some d) => Q d S | _ => False
abbrev wC (d : D) : WE := fun _ S Q => Q d S
def wNev : WE := fun _ _ _ => False
theorem wVar_of {i : Nat} {ρ : Env} {S : Sto} {Q : KD} (h : wVar i ρ S Q) : ∃ d, ρ[i]? = some (some d) ∧ Q d S := by
  unfold wVar at h
  split at h
  · exact ⟨_, by assumption, h⟩
  · exact h.elim
theorem d_nev : PE X e (liftE (kw X) wNev) := ⟨fun _ _ _ _ _ _ ⟨_, _, _, _, _, h, _⟩ => h.elim⟩
theorem d_var {i : Nat} {x : Str} {pos : Pos} (hN : X.N[i]? = some x) (hv : Vis X.env.scope x) (hd : (x == ("__debug__" : Str)) = false) (hcd : (x == ("__classdict__" : Str)) = false) : PE X (.Name x pos) (liftE (kw X) (wVar i)) :=
  weakE (pe_var hN hv hd hcd) fun σ H Q' ⟨ρ, S, Q, er, s, w, l⟩ => by
    obtain ⟨d, e, q⟩ := wVar_of w
    obtain ⟨v, h1, h2⟩ := er.2 i d e
    exact ⟨v, h1, l.here s h2 q⟩
theorem d_c {v : V} {d : D} (h : PE X e (tC v)) (r : ∀ H, DR (kw X) H d v) : PE X e (liftE (kw X) (wC d)) :=
  weakE h fun σ H Q' ⟨ρ, S, Q, er, s, w, l⟩ => l.here s (r H) w
theorem DR.non {K H} : DR K H .non .non := by unfold DR; rfl
theorem DR.bl {K H b} : DR K H (.bl b) (.bl b) := by unfold DR; rfl
theorem DR.int {K H b} : DR K H (.int b) (.int b) := by unfold DR; rfl
theorem DR.str {K H b} : DR K H (.str b) (.str b) := by unfold DR; rfl
theorem DR.ref {K H b} : DR K H (.ref b) (.ref b) := by unfold DR; rfl
theorem DR.tup {K : KW} {H a vs ds} (h : SqT K.1 H a vs) (r : DRs K H ds vs) : DR K H (.tup ds) (.ref a) := by unfold DR; exact ⟨a, vs, rfl, h, r⟩
theorem DR.rl {K : KW} {H a vs ds} (h : SqF K.1 H a vs) (r : DRs K H ds vs) : DR K H (.rl ds) (.ref a) := by unfold DR; exact ⟨a, vs, rfl, h, r⟩
theorem DR.int_of {K H i v} (h : DR K H (.int i) v) : v = .int i := by unfold DR at h; exact h
theorem DR.bl_of {K H i v} (h : DR K H (.bl i) v) : v = .bl i := by unfold DR at h; exact h
theorem DR.str_of {K H i v} (h : DR K H (.str i) v) : v = .str i := by unfold DR at h; exact h
theorem DR.non_of {K H v} (h : DR K H .non v) : v = .non := by unfold DR at h; exact h
theorem DR.kd_of {K H ks ds v} (h : DR K H (.kd ks ds) v) : ∃ a vs, v = .ref a ∧ Paired (fun k w => KDct K.1 K.2 a k w) ks vs ∧ DRs K H ds vs := by unfold DR at h; exact h
theorem DR.ref_of {K H i v} (h : DR K H (.ref i) v) : v = .ref i := by unfold DR at h; exact h
theorem DR.tup_of {K H ds v} (h : DR K H (.tup ds) v) : ∃ a vs, v = .ref a ∧ SqT K.1 H a vs ∧ DRs K H ds vs := by unfold DR at h; exact h
theorem DR.rl_of {K H ds v} (h : DR K H (.rl ds) v) : ∃ a vs, v = .ref a ∧ SqF K.1 H a vs ∧ DRs K H ds vs := by unfold DR at h; exact h
theorem d_int {i j pos} : PE X (.Constant (.int i) j pos) (liftE (kw X) (wC (.int i))) := d_c pe_int fun _ => DR.int
theorem d_bl {i j pos} : PE X (.Constant (.bool i) j pos) (liftE (kw X) (wC (.bl i))) := d_c pe_bl fun _ => DR.bl
theorem d_str {i j pos} : PE X (.Constant (.str i) j pos) (liftE (kw X) (wC (.str i))) := d_c pe_str fun _ => DR.str
theorem d_non {j pos} : PE X (.Constant .none j pos) (liftE (kw X) (wC .non)) := d_c pe_non fun _ => DR.non

/-! ### arguments, displays -/
abbrev wNil : WA := fun _ S Q => Q [] S
abbrev wCons (a : WE) (r : WA) : WA := fun ρ S Q => a ρ S fun d S1 => r ρ S1 fun ds S2 => Q (d :: ds) S2
theorem d_nil : PA X [] (liftA (kw X) wNil) := weakA pa_nil fun σ H Q' ⟨ρ, S, Q, er, s, w, l⟩ => l [] S [] H DRs.nil s (Stp.refl S H) w
theorem d_cons {wa : WE} {wr : WA} (ha : PE X e (liftE (kw X) wa)) (hr : PA X es (liftA (kw X) wr)) (hs : starEach (e :: es) X.env = (false, eval e X.env) :: starEach es X.env) : PA X (e :: es) (liftA (kw X) (wCons wa wr)) :=
  weakA (pa_cons ha hr hs) fun σ H Q' ⟨ρ, S, Q, er, s, w, l⟩ =>
    ⟨ρ, S, _, er, s, w, fun d S1 v H1 r1 s1 p1 w1 => ⟨ρ, S1, _, er.step s p1, s1, w1, fun ds S2 vs H2 r2 s2 p2 w2 => l (d :: ds) S2 (v :: vs) H2 (DRs.cons (DR.step s1 p2 d v r1) r2) s2 (p1.trans p2) w2⟩⟩
/-- a new object -/
def newK (S : Sto) (o : O) (Q : KD) : Prop := ∀ p S', S p = none → S' = put S p o → Q (.ref p) S'
theorem newK.at {S : Sto} {o : O} {Q : KD} (h : newK S o Q) {p : Addr} (n : S p = none) : Q (.ref p) (put S p o) := h p _ n rfl
def wTup (a : WA) : WE := fun ρ S Q => a ρ S fun ds S1 => ds.length ≤ sizeLine ∧ Q (.tup ds) S1
def wLst (a : WA) : WE := fun ρ S Q => a ρ S fun ds S1 => ds.length ≤ sizeLine ∧ newK S1 (.lst ds) Q
theorem new_tup {K : KW} {S : Sto} {H : Hp} {Q : KD} {Q' : VK} {p : Addr} {ds : List D} {vs : List V} (l : Lk K S H Q Q') (s : StoR K S H) (n : H p = none) (r : DRs K H ds vs) (q : Q (.tup ds) S) : Q' (.ref p) (upd H p (.tup vs)) :=
  l.newH s n (DR.tup (SqT.of upd_same) (DRs.step s (Stp.newH n) ds vs r)) q
theorem new_lst {K : KW} {S : Sto} {H : Hp} {Q : KD} {Q' : VK} {p : Addr} {ds : List D} {vs : List V} (l : Lk K S H Q Q') (s : StoR K S H) (n : H p = none) (r : DRs K H ds vs) (q : newK S (.lst ds) Q) : Q' (.ref p) (upd H p (.lst vs)) := by
  have st : Stp S H (put S p (.lst ds)) (upd H p (.lst vs)) := Stp.new s n
  exact l _ _ _ _ DR.ref (s.put st ⟨vs, upd_same, DRs.step s st ds vs r⟩) st (q.at (s.none n))
theorem d_tup {k : Nat} {pos : Pos} {w : WA} (h : PA X es (liftA (kw X) w)) : PE X (.Tuple es k pos) (liftE (kw X) (wTup w)) :=
  weakE (pe_tup h) fun σ H Q' ⟨ρ, S, Q, er, s, w, l⟩ => ⟨ρ, S, _, er, s, w, fun ds S1 vs H1 r1 s1 p1 ⟨hz, w1⟩ => ⟨by rw [r1.length]; exact hz, fun p n => new_tup (l.later p1) s1 n r1 w1⟩⟩
theorem d_lst {pos : Pos} {w : WA} (h : PA X es (liftA (kw X) w)) : PE X (.List es pos) (liftE (kw X) (wLst w)) :=
  weakE (pe_lst h) fun σ H Q' ⟨ρ, S, Q, er, s, w, l⟩ => ⟨ρ, S, _, er, s, w, fun ds S1 vs H1 r1 s1 p1 ⟨hz, w1⟩ => ⟨by rw [r1.length]; exact hz, fun p n => new_lst (l.later p1) s1 n r1 w1⟩⟩

/-! ### operators -/
abbrev D2 := D → D → Sto → KD → Prop
def OpL (K : KW) (r : R2) (g : D2) : Prop := ∀ (S : Sto) (H : Hp) (x y : D) (v u : V) (Q : KD) (Q' : VK), StoR K S H → DR K H x v → DR K H y u → g x y S Q → Lk K S H Q Q' → r v u H Q'
def wBin (g : D2) (a b : WE) : WE := fun ρ S Q => a ρ S fun x S1 => b ρ S1 fun y S2 => g x y S2 Q
theorem lift_bin {K : KW} {r : R2} {g : D2} {wa wb : WE} (hl : OpL K r g) {σ : L2.St} {H : Hp} {Q' : VK} (h : liftE K (wBin g wa wb) σ H Q') : tOp r (liftE K wa) (liftE K wb) σ H Q' := by
  obtain ⟨ρ, S, Q, er, s, w, l⟩ := h
  exact ⟨ρ, S, _, er, s, w, fun x S1 v H1 r1 s1 p1 w1 => ⟨ρ, S1, _, er.step s p1, s1, w1, fun y S2 u H2 r2 s2 p2 w2 => hl S2 H2 x y v u Q Q' s2 (DR.step s1 p2 x v r1) r2 w2 (l.later (p1.trans p2))⟩⟩
theorem d_bin {op : Operator} {r : R2} {g : D2} {wa wb : WE} {pos : Pos} (ho : OpR X (binaryOp op) r) (hl : OpL (kw X) r g) (ha : PE X a (liftE (kw X) wa)) (hb : PE X b (liftE (kw X) wb)) : PE X (.BinOp a op b pos) (liftE (kw X) (wBin g wa wb)) :=
  weakE (pe_op ho ha hb) fun σ H Q' h => lift_bin hl h
theorem d_cmp {op : CmpOp} {r : R2} {g : D2} {wa wb : WE} {pos : Pos} (ho : OpR X (compareOp op) r) (hl : OpL (kw X) r g) (ha : PE X a (liftE (kw X) wa)) (hb : PE X b (liftE (kw X) wb)) (hm : behindInMarks op b = false) : PE X (.Compare a [op] [b] pos) (liftE (kw X) (wBin g wa wb)) :=
  weakE (pe_cmpR ho ha hb hm) fun σ H Q' h => lift_bin hl h
/-- a value that is a bool, as a test -/
def wBt (w : WE) : WT := fun ρ S Q => w ρ S fun x S1 => match x with | .bl b => Q b S1 | _ => False
theorem bt_of {x : D} {S1 : Sto} {Q : Bool → Sto → Prop} (h : match x with | .bl b => Q b S1 | _ => False) : ∃ b, x = .bl b ∧ Q b S1 := by
  split at h
  · exact ⟨_, rfl, h⟩
  · exact h.elim
theorem lift_test {K : KW} {w : WE} {σ : L2.St} {H : Hp} {Q' : Bool → Hp → Prop} (h : liftT K (wBt w) σ H Q') : tTest (liftE K w) σ H Q' := by
  obtain ⟨ρ, S, Q, er, s, w, l⟩ := h
  refine ⟨ρ, S, _, er, s, w, fun x S1 v H1 r1 s1 p1 w1 => ?_⟩
  obtain ⟨b, rfl, q⟩ := bt_of w1
  exact ⟨b, r1.bl_of, l b S1 H1 s1 p1 q⟩
theorem d_cmpT {op : CmpOp} {r : R2} {g : D2} {wa wb : WE} {pos : Pos} (ho : OpR X (compareOp op) r) (hl : OpL (kw X) r g) (ha : PE X a (liftE (kw X) wa)) (hb : PE X b (liftE (kw X) wb)) (hm : behindInMarks op b = false) : PT X (.Compare a [op] [b] pos) (liftT (kw X) (wBt (wBin g wa wb))) :=
  weakT (pt_cmpR ho ha hb hm) fun σ H Q' h => by
    have h1 := lift_test h
    obtain ⟨ρ, S, Q, er, s, w, l⟩ := h1
    exact lift_bin hl ⟨ρ, S, Q, er, s, w, l⟩

/-! ### and, or, not, if else -/
def wAndT (a b : WT) : WT := fun ρ S Q => a ρ S fun c S1 => if c = true then b ρ S1 Q else Q false S1
def wOrT (a b : WT) : WT := fun ρ S Q => a ρ S fun c S1 => if c = true then Q true S1 else b ρ S1 Q
def wNotT (a : WT) : WT := fun ρ S Q => a ρ S fun c S1 => Q (!c) S1
theorem lift_andT {K : KW} {wa wb : WT} {σ : L2.St} {H : Hp} {Q' : Bool → Hp → Prop} (h : liftT K (wAndT wa wb) σ H Q') : tAnd (liftT K wa) (liftT K wb) σ H Q' := by
  obtain ⟨ρ, S, Q, er, s, w, l⟩ := h
  refine ⟨ρ, S, _, er, s, w, fun c S1 H1 s1 p1 w1 => ?_⟩
  cases c with
  | true => rw [if_pos rfl] at w1 ⊢; exact ⟨ρ, S1, Q, er.step s p1, s1, w1, l.later p1⟩
  | false => rw [if_neg Bool.false_ne_true] at w1 ⊢; exact l false S1 H1 s1 p1 w1
theorem lift_orT {K : KW} {wa wb : WT} {σ : L2.St} {H : Hp} {Q' : Bool → Hp → Prop} (h : liftT K (wOrT wa wb) σ H Q') : tOr (liftT K wa) (liftT K wb) σ H Q' := by
  obtain ⟨ρ, S, Q, er, s, w, l⟩ := h
  refine ⟨ρ, S, _, er, s, w, fun c S1 H1 s1 p1 w1 => ?_⟩
  cases c with
  | false => rw [if_neg Bool.false_ne_true] at w1 ⊢; exact ⟨ρ, S1, Q, er.step s p1, s1, w1, l.later p1⟩
  | true => rw [if_pos rfl] at w1 ⊢; exact l true S1 H1 s1 p1 w1
theorem d_notT {wa : WT} {pos : Pos} (ha : PT X a (liftT (kw X) wa)) : PT X (.UnaryOp .Not a pos) (liftT (kw X) (wNotT wa)) :=
  weakT (pt_not ha) fun σ H Q' ⟨ρ, S, Q, er, s, w, l⟩ => ⟨ρ, S, _, er, s, w, fun c S1 H1 s1 p1 w1 => l (!c) S1 H1 s1 p1 w1⟩
theorem d_andT {wa wb : WT} {rest : List Expr} {pos : Pos} (ha : PT X a (liftT (kw X) wa)) (hb : PW X (.BoolOp .And (b :: rest) pos) (liftT (kw X) wb)) : PW X (.BoolOp .And (a :: b :: rest) pos) (liftT (kw X) (wAndT wa wb)) :=
  weakW (pw_and ha hb) fun σ H Q' h => lift_andT h
theorem d_orT {wa wb : WT} {rest : List Expr} {pos : Pos} (ha : PT X a (liftT (kw X) wa)) (hb : PW X (.BoolOp .Or (b :: rest) pos) (liftT (kw X) wb)) : PW X (.BoolOp .Or (a :: b :: rest) pos) (liftT (kw X) (wOrT wa wb)) :=
  weakW (pw_or ha hb) fun σ H Q' h => lift_orT h
/-- as values: bools -/
def wAndV (a b : WE) : WE := fun ρ S Q => a ρ S fun x S1 => match x with | .bl true => b ρ S1 Q | .bl false => Q (.bl false) S1 | _ => False
def wOrV (a b : WE) : WE := fun ρ S Q => a ρ S fun x S1 => match x with | .bl true => Q (.bl true) S1 | .bl false => b ρ S1 Q | _ => False
def wNotV (a : WE) : WE := fun ρ S Q => a ρ S fun x S1 => match x with | .bl c => Q (.bl (!c)) S1 | _ => False
theorem d_andV {wa wb : WE} {rest : List Expr} {pos : Pos} (ha : PE X a (liftE (kw X) wa)) (hb : PE X (.BoolOp .And (b :: rest) pos) (liftE (kw X) wb)) : PE X (.BoolOp .And (a :: b :: rest) pos) (liftE (kw X) (wAndV wa wb)) :=
  weakE (pe_and ha hb) fun σ H Q' ⟨ρ, S, Q, er, s, w, l⟩ => by
    refine ⟨ρ, S, _, er, s, w, fun x S1 v H1 r1 s1 p1 w1 => ?_⟩
    split at w1
    · exact ⟨true, r1.bl_of, by rw [if_pos rfl]; exact ⟨ρ, S1, Q, er.step s p1, s1, w1, l.later p1⟩⟩
    · exact ⟨false, r1.bl_of, by rw [if_neg Bool.false_ne_true]; exact l _ S1 _ H1 DR.bl s1 p1 w1⟩
    · exact w1.elim
theorem d_orV {wa wb : WE} {rest : List Expr} {pos : Pos} (ha : PE X a (liftE (kw X) wa)) (hb : PE X (.BoolOp .Or (b :: rest) pos) (liftE (kw X) wb)) : PE X (.BoolOp .Or (a :: b :: rest) pos) (liftE (kw X) (wOrV wa wb)) :=
  weakE (pe_or ha hb) fun σ H Q' ⟨ρ, S, Q, er, s, w, l⟩ => by
    refine ⟨ρ, S, _, er, s, w, fun x S1 v H1 r1 s1 p1 w1 => ?_⟩
    split at w1
    · exact ⟨true, r1.bl_of, by rw [if_pos rfl]; exact l _ S1 _ H1 DR.bl s1 p1 w1⟩
    · exact ⟨false, r1.bl_of, by rw [if_neg Bool.false_ne_true]; exact ⟨ρ, S1, Q, er.step s p1, s1, w1, l.later p1⟩⟩
    · exact w1.elim
theorem d_notV {wa : WE} {pos : Pos} (ha : PE X a (liftE (kw X) wa)) : PE X (.UnaryOp .Not a pos) (liftE (kw X) (wNotV wa)) :=
  weakE (pe_not ha) fun σ H Q' ⟨ρ, S, Q, er, s, w, l⟩ => by
    refine ⟨ρ, S, _, er, s, w, fun x S1 v H1 r1 s1 p1 w1 => ?_⟩
    split at w1
    · exact ⟨_, r1.bl_of, l _ S1 _ H1 DR.bl s1 p1 w1⟩
    · exact w1.elim
def wIf (c : WT) (a b : WE) : WE := fun ρ S Q => c ρ S fun k S1 => if k = true then a ρ S1 Q else b ρ S1 Q
theorem d_if {c : Expr} {wc : WT} {wa wb : WE} {pos : Pos} (hc : PT X c (liftT (kw X) wc)) (ha : PE X a (liftE (kw X) wa)) (hb : PE X b (liftE (kw X) wb)) : PE X (.IfExp c a b pos) (liftE (kw X) (wIf wc wa wb)) :=
  weakE (pe_ifExp hc ha hb) fun σ H Q' ⟨ρ, S, Q, er, s, w, l⟩ => by
    refine ⟨ρ, S, _, er, s, w, fun c S1 H1 s1 p1 w1 => ?_⟩
    cases c with
    | true => rw [if_pos rfl] at w1 ⊢; exact ⟨ρ, S1, Q, er.step s p1, s1, w1, l.later p1⟩
    | false => rw [if_neg Bool.false_ne_true] at w1 ⊢; exact ⟨ρ, S1, Q, er.step s p1, s1, w1, l.later p1⟩
/-- truth of a value -/
def tru (x : D) (S : Sto) (Q : Bool → Sto → Prop) : Prop := match x with
  | .non => Q false S
  | .bl b => Q b S
  | .int i => Q (i != 0) S
  | .str y => y.length ≤ sizeLine ∧ Q ((y.length : Int) != 0) S
  | .tup xs => Q (!xs.isEmpty) S
  | .rl xs => Q (!xs.isEmpty) S
  | .kd _ _ => False
  | .ref a => match S a with
    | some (.lst xs) => Q (!xs.isEmpty) S
    | some (.dK kvs) => Q (!kvs.isEmpty) S
    | none => False
def wTru (w : WE) : WT := fun ρ S Q => w ρ S fun x S1 => tru x S1 Q
theorem empty_of {K H} {ds : List D} {vs : List V} (r : DRs K H ds vs) : vs.isEmpty = ds.isEmpty := by
  have e := r.length
  cases ds <;> cases vs <;> simp at e ⊢
theorem d_tru {wa : WE} (ha : PE X a (liftE (kw X) wa)) (he : ∀ whole, isTrue a X.env whole = (do let v ← whole; standAt a.pos; holding [v] (truthy v))) : PT X a (liftT (kw X) (wTru wa)) := by
  refine ⟨fun pins s σ H Q' I h => ?_⟩
  refine (pt_truth ha he).run pins s σ H Q' I ?_
  obtain ⟨ρ, S, Q, er, s, w, l⟩ := h
  refine ⟨ρ, S, _, er, s, w, fun x S1 v H1 r1 s1 p1 w1 => ?_⟩
  have go : ∀ k, TruV X.K v H1 k → Q k S1 → ∃ k, TruV X.K v H1 k ∧ Q' k H1 := fun k t q => ⟨k, t, l k S1 H1 s1 p1 q⟩
  cases x with
  | non => have e := r1.non_of; subst e; exact go _ rfl w1
  | bl b => have e := r1.bl_of; subst e; exact go _ rfl w1
  | int i => have e := r1.int_of; subst e; exact go _ rfl w1
  | str y => have e := r1.str_of; subst e; exact go _ ⟨w1.1, rfl⟩ w1.2
  | tup xs =>
    obtain ⟨p, vs, rfl, h1, h2⟩ := r1.tup_of
    exact go _ (.inr (.inl ⟨vs, h1, by rw [empty_of h2]⟩)) w1
  | rl xs =>
    obtain ⟨p, vs, rfl, h1, h2⟩ := r1.rl_of
    exact go _ (.inl ⟨vs, h1.seq, by rw [empty_of h2]⟩) w1
  | kd ks ds => exact w1.elim
  | ref p =>
    have e := r1.ref_of; subst e
    have w2 : match S1 p with
      | some (.lst xs) => Q (!xs.isEmpty) S1
      | some (.dK kvs) => Q (!kvs.isEmpty) S1
      | none => False := w1
    split at w2
    · rename_i xs e
      obtain ⟨vs, h1, h2⟩ := s1 p _ e
      exact go _ (.inl ⟨vs, SqL.of h1, by rw [empty_of h2]⟩) w2
    · rename_i kds e
      obtain ⟨kvs, h1, h2, h3⟩ := s1 p _ e
      refine go _ (.inr (.inr ⟨kvs, h1, ?_⟩)) w2
      have z := congrArg List.length h2
      simp only [List.length_map] at z
      cases kds <;> cases kvs <;> simp at z ⊢
    · exact w2.elim
end
end PD

namespace PD
open PySem PySem.Spec PyProof.Rows L2

theorem DRs.of_len0 {K H} {vs : List V} {ds : List D} (r : DRs K H ds vs) : (vs = [] ↔ ds = []) := by
  have e := r.length
  cases ds <;> cases vs <;> simp at e ⊢

/-! ### + - * // % << >> -/
def oAdd : D2 := fun x y S Q => match x, y with
  | .int i, .int j => Q (.int (i + j)) S
  | .tup xs, .tup ys => xs.length + ys.length ≤ sizeLine ∧ Q (.tup (xs ++ ys)) S
  | .str a, .str b => a.length + b.length ≤ sizeLine ∧ Q (.str (a ++ b)) S
  | .ref a, .ref b => ∃ xs ys, S a = some (.lst xs) ∧ S b = some (.lst ys) ∧ xs.length + ys.length ≤ sizeLine ∧ newK S (.lst (xs ++ ys)) Q
  | _, _ => False
def rAddA (K : PySem.W.Frag) : R2 := fun x y H Q => rI0 (fun i j => .int (i + j)) x y H Q ∨ (rCatA K x y H Q ∨ (rCat x y H Q ∨ (∃ i j, x = .str i ∧ y = .str j ∧ i.length + j.length ≤ sizeLine ∧ Q (.str (i ++ j)) H)))
theorem op_addA {X : Cx} : OpR X (binaryOp .Add) (rAddA X.K) := op_add.or (op_catA.or (op_cat.or op_add_str))
theorem l_add {K : KW} : OpL K (rAddA K.1) oAdd := by
  intro S H x y v u Q Q' s rx ry h l
  unfold oAdd at h
  split at h
  · rw [rx.int_of, ry.int_of]; exact .inl ⟨_, _, rfl, rfl, l.here s DR.int h⟩
  · obtain ⟨a, vs, rfl, h1, r1⟩ := rx.tup_of
    obtain ⟨b, ws, rfl, h2, r2⟩ := ry.tup_of
    refine .inr (.inl ⟨a, b, vs, ws, rfl, rfl, h1, h2, by rw [r1.length, r2.length]; exact h.1, fun e => ?_, fun e1 e2 => ?_, fun e1 e2 p n => ?_⟩)
    · subst e
      have e0 := (r1.of_len0).mp rfl
      subst e0
      exact l.here s (DR.tup h2 r2) h.2
    · subst e2
      have e0 := (r2.of_len0).mp rfl
      subst e0
      have q := h.2
      rw [List.append_nil] at q
      exact l.here s (DR.tup h1 r1) q
    · exact new_tup l s n (r1.append r2) h.2
  · rw [rx.str_of, ry.str_of]; exact .inr (.inr (.inr ⟨_, _, rfl, rfl, h.1, l.here s DR.str h.2⟩))
  · rw [rx.ref_of, ry.ref_of]
    obtain ⟨xs, ys, e1, e2, hz, q⟩ := h
    obtain ⟨vs, h1, r1⟩ := s _ _ e1
    obtain ⟨ws, h2, r2⟩ := s _ _ e2
    exact .inr (.inr (.inl ⟨_, _, vs, ws, rfl, rfl, h1, h2, by rw [r1.length, r2.length]; exact hz, fun p n => new_lst l s n (r1.append r2) q⟩))
  · exact h.elim
def oInt (C : Int → Int → Prop) (g : Int → Int → Int) : D2 := fun x y S Q => match x, y with
  | .int i, .int j => C i j ∧ Q (.int (g i j)) S
  | _, _ => False
def oInt0 (g : Int → Int → Int) : D2 := fun x y S Q => match x, y with
  | .int i, .int j => Q (.int (g i j)) S
  | _, _ => False
theorem l_int {K : KW} {C : Int → Int → Prop} {g : Int → Int → Int} : OpL K (rI C fun i j => .int (g i j)) (oInt C g) := by
  intro S H x y v u Q Q' s rx ry h l
  unfold oInt at h
  split at h
  · rw [rx.int_of, ry.int_of]; exact ⟨_, _, rfl, rfl, h.1, l.here s DR.int h.2⟩
  · exact h.elim
theorem l_int0 {K : KW} {g : Int → Int → Int} : OpL K (rI0 fun i j => .int (g i j)) (oInt0 g) := by
  intro S H x y v u Q Q' s rx ry h l
  unfold oInt0 at h
  split at h
  · rw [rx.int_of, ry.int_of]; exact ⟨_, _, rfl, rfl, l.here s DR.int h⟩
  · exact h.elim
def oSub : D2 := oInt0 fun i j => i - j
def oDiv : D2 := oInt CDivW fun i j => i / j
def oMod : D2 := oInt (fun _ j => 0 < j) fun i j => i % j
def oShl : D2 := oInt CShl fun i j => i * 2 ^ j.toNat
def oShr : D2 := oInt (fun _ j => 0 ≤ j) fun i j => i / 2 ^ j.toNat
def oAnd : D2 := oInt0 fun i j => Builtin.bitAnd i j
def oXor : D2 := oInt0 fun i j => Builtin.bitXor i j
/-- ints, or a list so often -/
def oMul : D2 := fun x y S Q => match x, y with
  | .int i, .int j => CMulX i j ∧ Q (.int (i * j)) S
  | .ref l, .int k => ∃ xs, S l = some (.lst xs) ∧ -(2 ^ 63) ≤ k ∧ k < 2 ^ 63 ∧ xs.length * k.toNat ≤ sizeLine ∧ newK S (.lst (List.replicate k.toNat xs).flatten) Q
  | _, _ => False
theorem DRs.rep {K H} {ds : List D} {vs : List V} (r : DRs K H ds vs) : ∀ k : Nat, DRs K H (List.replicate k ds).flatten (List.replicate k vs).flatten
  | 0 => DRs.nil
  | k + 1 => by
    rw [List.replicate_succ, List.replicate_succ, List.flatten_cons, List.flatten_cons]
    exact r.append (DRs.rep r k)
theorem op_mulA {X : Cx} : OpR X (binaryOp .Mult) (fun x y H Q => rI CMulX (fun i j => .int (i * j)) x y H Q ∨ rRep x y H Q) := op_mulX.or op_rep
theorem l_mul {K : KW} : OpL K (fun x y H Q => rI CMulX (fun i j => .int (i * j)) x y H Q ∨ rRep x y H Q) oMul := by
  intro S H x y v u Q Q' s rx ry h l
  unfold oMul at h
  split at h
  · rw [rx.int_of, ry.int_of]; exact .inl ⟨_, _, rfl, rfl, h.1, l.here s DR.int h.2⟩
  · rw [rx.ref_of, ry.int_of]
    obtain ⟨xs, e1, k1, k2, hz, q⟩ := h
    obtain ⟨vs, h1, r1⟩ := s _ _ e1
    exact .inr ⟨_, _, vs, rfl, rfl, h1, k1, k2, by rw [r1.length]; exact hz, fun p n => new_lst l s n (r1.rep _) q⟩
  · exact h.elim
section
variable {X : Cx} {a b : Expr} {wa wb : WE} {pos : Pos}
theorem d_add (ha : PE X a (liftE (kw X) wa)) (hb : PE X b (liftE (kw X) wb)) : PE X (.BinOp a .Add b pos) (liftE (kw X) (wBin oAdd wa wb)) := d_bin op_addA l_add ha hb
theorem d_sub (ha : PE X a (liftE (kw X) wa)) (hb : PE X b (liftE (kw X) wb)) : PE X (.BinOp a .Sub b pos) (liftE (kw X) (wBin oSub wa wb)) := d_bin op_sub l_int0 ha hb
theorem d_mul (ha : PE X a (liftE (kw X) wa)) (hb : PE X b (liftE (kw X) wb)) : PE X (.BinOp a .Mult b pos) (liftE (kw X) (wBin oMul wa wb)) := d_bin op_mulA l_mul ha hb
theorem d_div (ha : PE X a (liftE (kw X) wa)) (hb : PE X b (liftE (kw X) wb)) : PE X (.BinOp a .FloorDiv b pos) (liftE (kw X) (wBin oDiv wa wb)) := d_bin op_fdivW l_int ha hb
theorem d_mod (ha : PE X a (liftE (kw X) wa)) (hb : PE X b (liftE (kw X) wb)) : PE X (.BinOp a .Mod b pos) (liftE (kw X) (wBin oMod wa wb)) := d_bin op_mod l_int ha hb
theorem d_shl (ha : PE X a (liftE (kw X) wa)) (hb : PE X b (liftE (kw X) wb)) : PE X (.BinOp a .LShift b pos) (liftE (kw X) (wBin oShl wa wb)) := d_bin op_shlW l_int ha hb
theorem d_shr (ha : PE X a (liftE (kw X) wa)) (hb : PE X b (liftE (kw X) wb)) : PE X (.BinOp a .RShift b pos) (liftE (kw X) (wBin oShr wa wb)) := d_bin op_shr l_int ha hb
theorem d_and (ha : PE X a (liftE (kw X) wa)) (hb : PE X b (liftE (kw X) wb)) : PE X (.BinOp a .BitAnd b pos) (liftE (kw X) (wBin oAnd wa wb)) := d_bin op_and l_int0 ha hb
theorem d_xor (ha : PE X a (liftE (kw X) wa)) (hb : PE X b (liftE (kw X) wb)) : PE X (.BinOp a .BitXor b pos) (liftE (kw X) (wBin oXor wa wb)) := d_bin op_xor l_int0 ha hb
def uNeg (x : D) (S : Sto) (Q : KD) : Prop := match x with | .int i => Q (.int (-i)) S | _ => False
def wUn (g : D → Sto → KD → Prop) (a : WE) : WE := fun ρ S Q => a ρ S fun x S1 => g x S1 Q
theorem d_neg (ha : PE X a (liftE (kw X) wa)) : PE X (.UnaryOp .USub a pos) (liftE (kw X) (wUn uNeg wa)) :=
  weakE (pe_un un_neg ha) fun σ H Q' ⟨ρ, S, Q, er, s, w, l⟩ => ⟨ρ, S, _, er, s, w, fun x S1 v H1 r1 s1 p1 w1 => by
    unfold uNeg at w1
    split at w1
    · exact ⟨_, r1.int_of, (l.later p1).here s1 DR.int w1⟩
    · exact w1.elim⟩
end

/-! ### == != < <= > >= in is -/
mutual
inductive Dat (S : Sto) : D → PyData → Prop
  | non : Dat S .non .none
  | bl (b : Bool) : Dat S (.bl b) (.bool b)
  | int (i : Int) : Dat S (.int i) (.int i)
  | str (x : Str) : Dat S (.str x) (.str x)
  | lst {a : Addr} {xs : List D} {ps : List PyData} : S a = some (.lst xs) → DatAll S xs ps → Dat S (.ref a) (.list ps)
  | rl {xs : List D} {ps : List PyData} : DatAll S xs ps → Dat S (.rl xs) (.list ps)
  | tup {xs : List D} {ps : List PyData} : DatAll S xs ps → Dat S (.tup xs) (.tuple ps)
inductive DatAll (S : Sto) : List D → List PyData → Prop
  | nil : DatAll S [] []
  | cons {d : D} {ds : List D} {p : PyData} {ps : List PyData} : Dat S d p → DatAll S ds ps → DatAll S (d :: ds) (p :: ps)
end
section
variable {K : KW} {S : Sto} {H : Hp}
mutual
theorem dp_of (s : StoR K S H) : ∀ (p : PyData) (d : D) (v : V), Dat S d p → DR K H d v → Dp K.1 H v p
  | .none, _, v, h, r => by
    cases h; rw [r.non_of]; exact .non
  | .bool b, _, v, h, r => by
    cases h; rw [r.bl_of]; exact .bl b
  | .int i, _, v, h, r => by
    cases h; rw [r.int_of]; exact .int i
  | .str x, _, v, h, r => by
    cases h; rw [r.str_of]; exact .str x
  | .list ps, _, v, h, r => by
    cases h with
    | lst e t =>
      obtain ⟨vs, h1, r1⟩ := s _ _ e
      rw [r.ref_of]
      exact .lst (SqL.of h1) (dpAll_of s ps _ vs t r1)
    | rl t =>
      obtain ⟨a, vs, rfl, h1, r1⟩ := r.rl_of
      exact .lst h1.seq (dpAll_of s ps _ vs t r1)
  | .tuple ps, _, v, h, r => by
    cases h with
    | tup t =>
      obtain ⟨a, vs, rfl, h1, r1⟩ := r.tup_of
      exact .tup h1 (dpAll_of s ps _ vs t r1)
  | .dict _, _, _, h, _ => by cases h
theorem dpAll_of (s : StoR K S H) : ∀ (ps : List PyData) (ds : List D) (vs : List V), DatAll S ds ps → DRs K H ds vs → DpAll K.1 H vs ps
  | [], _, vs, h, r => by
    cases h; rw [r.inv_nil]; exact .nil
  | p :: ps, _, vs, h, r => by
    cases h with
    | cons h1 h2 =>
      obtain ⟨w, ws, rfl, r1, r2⟩ := r.inv_cons
      exact .cons (dp_of s p _ w h1 r1) (dpAll_of s ps _ ws h2 r2)
end
end
def oEq : D2 := fun x y S Q => match x, y with
  | .int i, .int j => Q (.bl (decide (i = j))) S
  | .str i, .str j => Q (.bl (decide (i = j))) S
  | .bl i, .bl j => Q (.bl (decide (i = j))) S
  | .non, .non => Q (.bl true) S
  | .non, .int _ => Q (.bl false) S
  | .int _, .non => Q (.bl false) S
  | .int _, .str _ => Q (.bl false) S
  | .str _, .int _ => Q (.bl false) S
  | x, y => ∃ d e, Dat S x d ∧ Dat S y e ∧ SeqAt.shaped d = true ∧ SeqAt.shaped e = true ∧ Q (.bl (PyData.eqv d e)) S
@[irreducible] def oNe : D2 := fun x y S Q => oEq x y S fun d S' => match d with | .bl b => Q (.bl (!b)) S' | _ => False
theorem op_eqA {X : Cx} (hu : X.A.units + 64 < cLine) : OpR X (compareOp .Eq) (fun x y H Q => rEq x y H Q ∨ rEqD X.K x y H Q) := op_eq.or (op_eqD hu)
theorem op_neA {X : Cx} (hu : X.A.units + 64 < cLine) : OpR X (compareOp .NotEq) (fun x y H Q => rNe x y H Q ∨ rNeD X.K x y H Q) := op_ne.or (op_neD hu)
theorem dec_i {i j : Int} : decide (V.int i = V.int j) = decide (i = j) := by
  by_cases h : i = j
  · subst h; simp
  · rw [decide_eq_false h, decide_eq_false (fun e => h (V.int.inj e))]
theorem dec_s {i j : Str} : decide (V.str i = V.str j) = decide (i = j) := by
  by_cases h : i = j
  · subst h; simp
  · rw [decide_eq_false h, decide_eq_false (fun e => h (V.str.inj e))]
theorem dec_b {i j : Bool} : decide (V.bl i = V.bl j) = decide (i = j) := by
  by_cases h : i = j
  · subst h; simp
  · rw [decide_eq_false h, decide_eq_false (fun e => h (V.bl.inj e))]
theorem l_eq {K : KW} : OpL K (fun x y H Q => rEq x y H Q ∨ rEqD K.1 x y H Q) oEq := by
  intro S H x y v u Q Q' s rx ry h l
  unfold oEq at h
  split at h
  · rw [rx.int_of, ry.int_of]; exact .inl ⟨rfl, by rw [dec_i]; exact l.here s DR.bl h⟩
  · rw [rx.str_of, ry.str_of]; exact .inl ⟨rfl, by rw [dec_s]; exact l.here s DR.bl h⟩
  · rw [rx.bl_of, ry.bl_of]; exact .inl ⟨rfl, by rw [dec_b]; exact l.here s DR.bl h⟩
  · rw [rx.non_of, ry.non_of]; exact .inl ⟨rfl, l.here s DR.bl h⟩
  · rw [rx.non_of, ry.int_of]; exact .inl ⟨rfl, l.here s DR.bl h⟩
  · rw [rx.int_of, ry.non_of]; exact .inl ⟨rfl, l.here s DR.bl h⟩
  · rw [rx.int_of, ry.str_of]; exact .inl ⟨rfl, l.here s DR.bl h⟩
  · rw [rx.str_of, ry.int_of]; exact .inl ⟨rfl, l.here s DR.bl h⟩
  · obtain ⟨d, e, h1, h2, s1, s2, q⟩ := h
    exact .inr ⟨d, e, dp_of s d _ _ h1 rx, dp_of s e _ _ h2 ry, s1, s2, l.here s DR.bl q⟩
theorem l_ne {K : KW} : OpL K (fun x y H Q => rNe x y H Q ∨ rNeD K.1 x y H Q) oNe := by
  intro S H x y v u Q Q' s rx ry h l
  unfold oNe oEq at h
  split at h
  · rw [rx.int_of, ry.int_of]; exact .inl ⟨rfl, by rw [dec_i]; exact l.here s DR.bl h⟩
  · rw [rx.str_of, ry.str_of]; exact .inl ⟨rfl, by rw [dec_s]; exact l.here s DR.bl h⟩
  · rw [rx.bl_of, ry.bl_of]; exact .inl ⟨rfl, by rw [dec_b]; exact l.here s DR.bl h⟩
  · rw [rx.non_of, ry.non_of]; exact .inl ⟨rfl, l.here s DR.bl h⟩
  · rw [rx.non_of, ry.int_of]; exact .inl ⟨rfl, l.here s DR.bl h⟩
  · rw [rx.int_of, ry.non_of]; exact .inl ⟨rfl, l.here s DR.bl h⟩
  · rw [rx.int_of, ry.str_of]; exact .inl ⟨rfl, l.here s DR.bl h⟩
  · rw [rx.str_of, ry.int_of]; exact .inl ⟨rfl, l.here s DR.bl h⟩
  · obtain ⟨d, e, h1, h2, s1, s2, q⟩ := h
    exact .inr ⟨d, e, dp_of s d _ _ h1 rx, dp_of s e _ _ h2 ry, s1, s2, l.here s DR.bl q⟩
def oRel (g : Int → Int → Bool) : D2 := fun x y S Q => match x, y with
  | .int i, .int j => Q (.bl (g i j)) S
  | _, _ => False
theorem l_rel {K : KW} {g : Int → Int → Bool} : OpL K (rI0 fun i j => .bl (g i j)) (oRel g) := by
  intro S H x y v u Q Q' s rx ry h l
  unfold oRel at h
  split at h
  · rw [rx.int_of, ry.int_of]; exact ⟨_, _, rfl, rfl, l.here s DR.bl h⟩
  · exact h.elim
def oLt : D2 := oRel fun i j => decide (i < j)
def oLe : D2 := oRel fun i j => decide (i ≤ j)
def oGt : D2 := oRel fun i j => decide (j < i)
def oGe : D2 := oRel fun i j => decide (j ≤ i)
def flatD : D → Bool
  | .non => true | .bl _ => true | .int _ => true | .str _ => true | _ => false
def eqF : D → D → Bool
  | .non, .non => true
  | .bl a, .bl b => a == b
  | .bl a, .int b => (if a then 1 else 0) == b
  | .int a, .bl b => a == (if b then 1 else 0)
  | .int a, .int b => a == b
  | .str a, .str b => a == b
  | _, _ => false
theorem flat_of {K H} {d : D} {v : V} (r : DR K H d v) (f : flatD d = true) : flatV v = true := by
  cases d with
  | non => rw [r.non_of]; rfl
  | bl _ => rw [r.bl_of]; rfl
  | int _ => rw [r.int_of]; rfl
  | str _ => rw [r.str_of]; rfl
  | _ => cases f
theorem eqF_of {K H} {d e : D} {v u : V} (r : DR K H d v) (q : DR K H e u) (f : flatD d = true) (g : flatD e = true) : eqV v u = eqF d e := by
  cases d with
  | non => rw [r.non_of]; cases e with
    | non => rw [q.non_of]; rfl
    | bl _ => rw [q.bl_of]; rfl
    | int _ => rw [q.int_of]; rfl
    | str _ => rw [q.str_of]; rfl
    | _ => cases g
  | bl _ => rw [r.bl_of]; cases e with
    | non => rw [q.non_of]; rfl
    | bl _ => rw [q.bl_of]; rfl
    | int _ => rw [q.int_of]; rfl
    | str _ => rw [q.str_of]; rfl
    | _ => cases g
  | int _ => rw [r.int_of]; cases e with
    | non => rw [q.non_of]; rfl
    | bl _ => rw [q.bl_of]; rfl
    | int _ => rw [q.int_of]; rfl
    | str _ => rw [q.str_of]; rfl
    | _ => cases g
  | str _ => rw [r.str_of]; cases e with
    | non => rw [q.non_of]; rfl
    | bl _ => rw [q.bl_of]; rfl
    | int _ => rw [q.int_of]; rfl
    | str _ => rw [q.str_of]; rfl
    | _ => cases g
  | _ => cases f
def inD (x : D) (xs : List D) : Bool := xs.any fun y => eqF y x
theorem inD_of {K H} {d : D} {v : V} (r : DR K H d v) (f : flatD d = true) : ∀ {ds : List D} {vs : List V}, DRs K H ds vs → ds.all flatD = true → vs.all flatV = true ∧ inV v vs = inD d ds
  | [], vs, h, _ => by rw [h.inv_nil]; exact ⟨rfl, rfl⟩
  | e :: ds, vs, h, g => by
    obtain ⟨w, ws, rfl, r1, t⟩ := h.inv_cons
    rw [List.all_cons, Bool.and_eq_true] at g
    obtain ⟨a, b⟩ := inD_of r f t g.2
    refine ⟨by rw [List.all_cons, flat_of r1 g.1, a]; rfl, ?_⟩
    unfold inV inD at b ⊢
    rw [List.any_cons, List.any_cons, b, eqF_of r1 r g.1 f]
def oIn : D2 := fun x y S Q => match y with
  | .tup ys => flatD x = true ∧ ys.all flatD = true ∧ Q (.bl (inD x ys)) S
  | .rl ys => flatD x = true ∧ ys.all flatD = true ∧ Q (.bl (inD x ys)) S
  | .ref a => ∃ ys, S a = some (.lst ys) ∧ flatD x = true ∧ ys.all flatD = true ∧ Q (.bl (inD x ys)) S
  | _ => False
def oNotIn : D2 := fun x y S Q => oIn x y S fun d S' => match d with | .bl b => Q (.bl (!b)) S' | _ => False
theorem in_of {K : KW} {S : Sto} {H : Hp} {x y : D} {v u : V} {Q : KD} {Q' : VK} (s : StoR K S H) (rx : DR K H x v) (ry : DR K H y u) (h : oIn x y S Q) (neg : Bool) (l : ∀ b, Q (.bl b) S → Q' (.bl (if neg then !b else b)) H) : rIn K.1 neg v u H Q' := by
  unfold oIn at h
  split at h
  · obtain ⟨a, vs, rfl, h1, r1⟩ := ry.tup_of
    obtain ⟨f1, f2⟩ := inD_of rx h.1 r1 h.2.1
    refine ⟨a, vs, rfl, .inr h1, flat_of rx h.1, f1, ?_⟩
    rw [f2]; exact l _ h.2.2
  · obtain ⟨a, vs, rfl, h1, r1⟩ := ry.rl_of
    obtain ⟨f1, f2⟩ := inD_of rx h.1 r1 h.2.1
    refine ⟨a, vs, rfl, .inl h1.seq, flat_of rx h.1, f1, ?_⟩
    rw [f2]; exact l _ h.2.2
  · obtain ⟨ys, e, g1, g2, q⟩ := h
    obtain ⟨vs, h1, r1⟩ := s _ _ e
    rw [ry.ref_of]
    obtain ⟨f1, f2⟩ := inD_of rx g1 r1 g2
    refine ⟨_, vs, rfl, .inl (SqL.of h1), flat_of rx g1, f1, ?_⟩
    rw [f2]; exact l _ q
  · exact h.elim
theorem l_in {K : KW} : OpL K (rIn K.1 false) oIn := fun S H x y v u Q Q' s rx ry h l => in_of s rx ry h false fun b q => l.here s DR.bl q
theorem l_notIn {K : KW} : OpL K (rIn K.1 true) oNotIn := fun S H x y v u Q Q' s rx ry h l => in_of s rx ry h true fun b q => l.here s DR.bl q
section
variable {X : Cx} {a b : Expr} {wa wb : WE} {pos : Pos}
def isNonD : D → Bool | .non => true | _ => false
theorem non_dec {K : KW} {H : Hp} {x : D} {v : V} (rx : DR K H x v) : decide (v = V.non) = isNonD x := by
  cases x with
  | non => rw [rx.non_of]; rfl
  | bl _ => rw [rx.bl_of]; rfl
  | int _ => rw [rx.int_of]; rfl
  | str _ => rw [rx.str_of]; rfl
  | tup _ => obtain ⟨_, _, rfl, _⟩ := rx.tup_of; rfl
  | rl _ => obtain ⟨_, _, rfl, _⟩ := rx.rl_of; rfl
  | kd _ _ => obtain ⟨_, _, rfl, _⟩ := rx.kd_of; rfl
  | ref _ => rw [rx.ref_of]; rfl
def oIsN : D2 := fun x y S Q => match y with
  | .non => Q (.bl (isNonD x)) S
  | _ => False
def oNotN : D2 := fun x y S Q => match y with
  | .non => Q (.bl (!isNonD x)) S
  | _ => False
theorem l_isN {K : KW} : OpL K (fun x y H Q => y = .non ∧ Q (.bl (decide (x = .non))) H) oIsN := by
  intro S H x y v u Q Q' s rx ry h l
  unfold oIsN at h
  split at h
  · exact ⟨ry.non_of, by rw [non_dec rx]; exact l.here s DR.bl h⟩
  · exact h.elim
theorem l_notN {K : KW} : OpL K (fun x y H Q => y = .non ∧ Q (.bl (!decide (x = .non))) H) oNotN := by
  intro S H x y v u Q Q' s rx ry h l
  unfold oNotN at h
  split at h
  · exact ⟨ry.non_of, by rw [non_dec rx]; exact l.here s DR.bl h⟩
  · exact h.elim

/-! ### x[i], x[i:j] -/
def valD {κ : Type} [DecidableEq κ] (kvs : List (κ × D)) (k : κ) : Option D := (kvs.find? fun kv => decide (kv.1 = k)).map (·.2)
def oIdx : D2 := fun x y S Q => match x, y with
  | .tup ds, .int i => match atI ds i with | some d => Q d S | none => False
  | .rl ds, .int i => match atI ds i with | some d => Q d S | none => False
  | .ref a, .int i => match S a with
    | some (.lst ds) => match atI ds i with | some d => Q d S | none => False
    | some (.dK kvs) => match valD kvs (.inl i) with | some d => Q d S | none => False
    | none => False
  | .ref a, .str z => match S a with
    | some (.dK kvs) => match valD kvs (.inr z) with | some d => Q d S | none => False
    | _ => False
  | .str z, .int i => z.length ≤ sizeLine ∧ match atI z.cps.toList i with | some c => Q (.str ⟨#[c]⟩) S | none => False
  | .kd ks ds, .str z => match (ks.zip ds).lookup z with | some d => Q d S | none => False
  | _, _ => False
theorem atI_of {K H} {ds : List D} {vs : List V} {i : Int} {d : D} (r : DRs K H ds vs) (h : atI ds i = some d) : ∃ v, atI vs i = some v ∧ DR K H d v := by
  unfold atI at h ⊢
  rw [r.length]
  cases e : ixN ds.length i with
  | none => rw [e] at h; cases h
  | some j =>
    rw [e] at h
    obtain ⟨v, h1, h2⟩ := r.get (i := j) (d := d) (by simpa using h)
    exact ⟨v, by simpa using h1, h2⟩
def rDGetI : R2 := fun x y H Q => ∃ a v, x = .ref a ∧ DGet H a y (some v) ∧ Q v H
theorem ix_dict (hu : X.A.units + 1 < cLine) : IxR X rDGetI := by
  intro value slice pins s σ H x y v u Q I rx ry h hs
  obtain ⟨a, r, rfl, g, q⟩ := h
  obtain rfl : v = Value.ref a := rx
  exact tail_any (dict_typeIs I g) PySem.F.slot_dict_getitem.lookup (d_getItem hu I g ry fun w' s3 I3 rw' => ⟨r, H, I3, rw', q⟩) hs
def rIxA (K : PySem.W.Frag) (w : World) : R2 := fun x y H Q => rIx K x y H Q ∨ (rDGetI x y H Q ∨ rIxD K w x y H Q)
theorem ix_any (hu : X.A.units + 1 < cLine) : IxR X (rIxA X.K X.w) := ix_seq.or ((ix_dict hu).or ix_kdict)
theorem lookup_pair {K : KW} {H : Hp} {a : Addr} {z : Str} {d : D} : ∀ {ks : List Str} {vs : List V} {ds : List D}, Paired (fun k w => KDct K.1 K.2 a k w) ks vs → DRs K H ds vs → (ks.zip ds).lookup z = some d → ∃ v, KDct K.1 K.2 a z v ∧ DR K H d v
  | _, _, [], .nil, _, h => by simp at h
  | _, _, d' :: ds, .nil, _, h => by simp at h
  | k :: ks, v :: vs, [], .cons _ _, r, h => by simp at h
  | k :: ks, v :: vs, d' :: ds, .cons p t, r, h => by
    obtain ⟨w, ws, e, r1, r2⟩ := r.inv_cons
    cases e
    rw [List.zip_cons_cons, List.lookup_cons] at h
    cases q : (z == k) with
    | true =>
      rw [q] at h
      have e1 : z = k := by simpa using q
      subst e1
      cases h
      exact ⟨v, p, r1⟩
    | false =>
      rw [q] at h
      exact lookup_pair t r2 h
theorem lookup_dK {K H} {k : Key} {d : D} : ∀ {kds : List (Key × D)} {kvs : List (Key × V)}, kvs.map (·.1) = kds.map (·.1) → DRs K H (kds.map (·.2)) (kvs.map (·.2)) → valD kds k = some d → ∃ v, valV kvs k = some v ∧ DR K H d v
  | [], _, _, _, h => by simp [valD] at h
  | (k1, d1) :: kds, [], e, _, _ => by simp at e
  | (k1, d1) :: kds, (k2, v2) :: kvs, e, r, h => by
    simp only [List.map_cons, List.cons.injEq] at e r
    obtain ⟨e1, e2⟩ := e
    obtain ⟨w, ws, ee, r1, r2⟩ := r.inv_cons
    cases ee
    subst e1
    unfold valD at h
    unfold valV
    rw [List.find?_cons] at h ⊢
    by_cases q : k2 = k
    · rw [decide_eq_true q] at h ⊢
      cases h
      exact ⟨v2, rfl, r1⟩
    · rw [decide_eq_false q] at h ⊢
      exact lookup_dK e2 r2 h
theorem l_idx {K : KW} : OpL K (rIxA K.1 K.2) oIdx := by
  intro S H x y v u Q Q' s rx ry h l
  unfold oIdx at h
  split at h
  · obtain ⟨a, vs, rfl, h1, r1⟩ := rx.tup_of
    split at h
    · rename_i e
      obtain ⟨w, h2, r2⟩ := atI_of r1 e
      exact .inl (.inr (.inl ⟨a, vs, _, w, rfl, ry.int_of, h1, h2, l.here s r2 h⟩))
    · exact h.elim
  · obtain ⟨a, vs, rfl, h1, r1⟩ := rx.rl_of
    split at h
    · rename_i e
      obtain ⟨w, h2, r2⟩ := atI_of r1 e
      exact .inl (.inl ⟨a, vs, _, w, rfl, ry.int_of, h1.seq, h2, l.here s r2 h⟩)
    · exact h.elim
  · rw [rx.ref_of]
    split at h
    · rename_i e0
      obtain ⟨vs, h1, r1⟩ := s _ _ e0
      split at h
      · rename_i e
        obtain ⟨w, h2, r2⟩ := atI_of r1 e
        exact .inl (.inl ⟨_, vs, _, w, rfl, ry.int_of, SqL.of h1, h2, l.here s r2 h⟩)
      · exact h.elim
    · rename_i e0
      obtain ⟨kvs, h1, h2, h3⟩ := s _ _ e0
      split at h
      · rename_i e
        obtain ⟨w, g1, g2⟩ := lookup_dK h2 h3 e
        rw [ry.int_of]
        exact .inr (.inl ⟨_, w, rfl, .inl ⟨kvs, _, .inl h1, rfl, g1.symm⟩, l.here s g2 h⟩)
      · exact h.elim
    · exact h.elim
  · rw [rx.ref_of]
    split at h
    · rename_i e0
      obtain ⟨kvs, h1, h2, h3⟩ := s _ _ e0
      split at h
      · rename_i e
        obtain ⟨w, g1, g2⟩ := lookup_dK h2 h3 e
        rw [ry.str_of]
        exact .inr (.inl ⟨_, w, rfl, .inl ⟨kvs, _, .inl h1, rfl, g1.symm⟩, l.here s g2 h⟩)
      · exact h.elim
    · exact h.elim
  · rw [rx.str_of]
    obtain ⟨hz, h⟩ := h
    split at h
    · rename_i e
      exact .inl (.inr (.inr ⟨_, _, _, rfl, ry.int_of, hz, e, l.here s DR.str h⟩))
    · exact h.elim
  · obtain ⟨a, vs, rfl, h1, r1⟩ := rx.kd_of
    split at h
    · rename_i e
      obtain ⟨w, g1, g2⟩ := lookup_pair h1 r1 e
      exact .inr (.inr ⟨a, _, w, rfl, ry.str_of, g1, l.here s g2 h⟩)
    · exact h.elim
  · exact h.elim
theorem d_idx (hu : X.A.units + 1 < cLine) (ha : PE X a (liftE (kw X) wa)) (hb : PE X b (liftE (kw X) wb)) (hs : PlainIx b) : PE X (.Subscript a b pos) (liftE (kw X) (wBin oIdx wa wb)) :=
  weakE (pe_ix (ix_any hu) ha hb hs) fun σ H Q' h => lift_bin l_idx h
/-- the part of a list from .. to -/
def cutD (xs : List D) (lo hi : Option Int) : List D := (xs.drop (HT.sIx xs.length 0 lo)).take (HT.sIx xs.length xs.length hi - HT.sIx xs.length 0 lo)
theorem cut_of {K H} {ds : List D} {vs : List V} (r : DRs K H ds vs) (lo hi : Option Int) : DRs K H (cutD ds lo hi) (cutV vs lo hi) := by
  unfold cutD cutV
  rw [r.length]
  exact (r.drop _).take _
abbrev WO := Env → Sto → (Option Int → Sto → Prop) → Prop
def wNoPart : WO := fun _ S Q => Q none S
def wPart (w : WE) : WO := fun ρ S Q => w ρ S fun x S1 => match x with | .int i => Q (some i) S1 | _ => False
def liftO (K : KW) (w : WO) : TO := fun σ H Q' => ∃ ρ S Q, EnvR K H ρ σ ∧ StoR K S H ∧ w ρ S Q ∧ ∀ o S' H', StoR K S' H' → Stp S H S' H' → Q o S' → Q' o H'
theorem weakO {o : Option Expr} {t t' : TO} (h : PO X o t) (i : ∀ σ H Q, t' σ H Q → t σ H Q) : PO X o t' := ⟨fun pins s σ H Q I q => h.run pins s σ H Q I (i σ H Q q)⟩
theorem d_noPart : PO X none (liftO (kw X) wNoPart) := weakO po_none fun σ H Q' ⟨ρ, S, Q, er, s, w, l⟩ => l none S H s (Stp.refl S H) w
theorem d_part (h : PE X a (liftE (kw X) wa)) : PO X (some a) (liftO (kw X) (wPart wa)) := weakO (po_some h) fun σ H Q' ⟨ρ, S, Q, er, s, w, l⟩ =>
  ⟨ρ, S, _, er, s, w, fun x S1 v H1 r1 s1 p1 w1 => by
    split at w1
    · exact ⟨_, r1.int_of, l _ S1 H1 s1 p1 w1⟩
    · exact w1.elim⟩
def wSl (wa : WE) (lo hi : WO) : WE := fun ρ S Q => wa ρ S fun x S1 => lo ρ S1 fun l S2 => hi ρ S2 fun u S3 => match x with
  | .tup ds => Q (.tup (cutD ds l u)) S3
  | .rl ds => newK S3 (.lst (cutD ds l u)) Q
  | .ref r => ∃ ds, S3 r = some (.lst ds) ∧ newK S3 (.lst (cutD ds l u)) Q
  | _ => False
theorem cut_whole (xs : List D) {lo hi : Option Int} (h : HT.sIx xs.length 0 lo = 0 ∧ HT.sIx xs.length xs.length hi = xs.length) : cutD xs lo hi = xs := by
  unfold cutD
  rw [h.1, h.2, List.drop_zero, Nat.sub_zero, List.take_length]
theorem d_sl {lo hi : Option Expr} {wl wh : WO} {p2 : Pos} (ha : PE X a (liftE (kw X) wa)) (hl : PO X lo (liftO (kw X) wl)) (hh : PO X hi (liftO (kw X) wh)) : PE X (.Subscript a (.Slice lo hi none p2) pos) (liftE (kw X) (wSl wa wl wh)) :=
  weakE (pe_slice (sl_list.or sl_tupA) ha hl hh) fun σ H Q' ⟨ρ, S, Q, er, s, w, l⟩ =>
    ⟨ρ, S, _, er, s, w, fun x S1 v H1 r1 s1 p1 w1 => ⟨ρ, S1, _, er.step s p1, s1, w1, fun o2 S2 H2 s2 p2 w2 => ⟨ρ, S2, _, er.step s (p1.trans p2), s2, w2, fun o3 S3 H3 s3 p3 w3 => by
      have rx := DR.step s1 (p2.trans p3) x v r1
      have l3 := l.later (p1.trans (p2.trans p3))
      split at w3
      · obtain ⟨p, vs, rfl, h1, r⟩ := rx.tup_of
        refine .inr ⟨p, vs, rfl, h1, fun hw => ?_, fun hw q n => new_tup l3 s3 n (cut_of r _ _) w3⟩
        rw [r.length] at hw
        rw [cut_whole _ hw] at w3
        exact l3.here s3 (DR.tup h1 r) w3
      · obtain ⟨p, vs, rfl, h1, r⟩ := rx.rl_of
        exact .inl ⟨p, vs, rfl, h1.seq, fun q n => new_lst l3 s3 n (cut_of r _ _) w3⟩
      · obtain ⟨ds, e, q⟩ := w3
        obtain ⟨vs, h1, r⟩ := s3 _ _ e
        rw [rx.ref_of]
        exact .inl ⟨_, vs, rfl, SqL.of h1, fun q' n => new_lst l3 s3 n (cut_of r _ _) q⟩
      · exact w3.elim⟩⟩⟩
end
end PD

namespace PD
open PySem PySem.Spec PyProof.Rows L2

/-! ### no stars -/
def noStar : Expr → Bool | .Starred _ _ => false | _ => true
theorem star_cons {e : Expr} {es : List Expr} {env : PySem.Env} (h : noStar e = true) : starEach (e :: es) env = (false, eval e env) :: starEach es env := by
  cases e <;> first | rfl | cases h
theorem star_any {env : PySem.Env} {pos : Pos} : ∀ {es : List Expr}, es.all noStar = true → (backTo pos (starEach es env)).any (·.1) = false
  | [], _ => rfl
  | e :: es, h => by
    rw [List.all_cons, Bool.and_eq_true] at h
    rw [star_cons h.1]
    show (false || (backTo pos (starEach es env)).any (·.1)) = false
    rw [star_any h.2]; rfl
theorem star_few {e : Expr} {es : List Expr} {env : PySem.Env} {pos : Pos} (h : (e :: es).all noStar = true) (hl : (e :: es).length < 29) : ((backTo pos (starEach (e :: es) env)).all (fun x => !x.1) && (backToKw pos (keywordEach [] env)).all (fun x => x.1.isSome)
      && decide ((e :: es).length + ([] : List Keyword).length + (if ([] : List Keyword).isEmpty then 0 else 1) < 30)) = true := by
  have h1 : ∀ l : List (Bool × Sem Value), l.any (·.1) = false → l.all (fun x => !x.1) = true := by
    intro l
    induction l with
    | nil => intro _; rfl
    | cons x l ih =>
      intro q
      rw [List.any_cons, Bool.or_eq_false_iff] at q
      rw [List.all_cons, q.1, ih q.2]; rfl
  rw [h1 _ (star_any h)]
  have e2 : decide ((e :: es).length + ([] : List Keyword).length + (if ([] : List Keyword).isEmpty then 0 else 1) < 30) = true := by
    refine decide_eq_true ?_
    show (e :: es).length + 0 + 0 < 30
    omega
  rw [e2]; rfl

/-! ### built-ins -/
abbrev DL := List D → Sto → KD → Prop
def CL (K : KW) (r : List V → Hp → VK → Prop) (g : DL) : Prop := ∀ (S : Sto) (H : Hp) (ds : List D) (vs : List V) (Q : KD) (Q' : VK), StoR K S H → DRs K H ds vs → g ds S Q → Lk K S H Q Q' → r vs H Q'
def wCB (g : DL) (a : WA) : WE := fun ρ S Q => a ρ S fun ds S1 => g ds S1 Q
section
variable {X : Cx} {x : Str} {e : Expr} {es : List Expr} {id T : String} {r : List V → Hp → VK → Prop} {g : DL} {w : WA} {p pos : Pos}
theorem lift_cb {K : KW} {r : List V → Hp → VK → Prop} {g : DL} {w : WA} (hl : CL K r g) {σ : L2.St} {H : Hp} {Q' : VK} (h : liftE K (wCB g w) σ H Q') : tCB r (liftA K w) σ H Q' := by
  obtain ⟨ρ, S, Q, er, s, w, l⟩ := h
  exact ⟨ρ, S, _, er, s, w, fun ds S1 vs H1 r1 s1 p1 w1 => hl S1 H1 ds vs Q Q' s1 r1 w1 (l.later p1)⟩
theorem d_callB (hc : CallR X (.builtin id) r) (hl : CL (kw X) r g) (hg : Gl X x) (hm : X.mg x = none) (hv : bootBuiltins x = some (.builtin id)) (ha : PA X (e :: es) (liftA (kw X) w)) (hs : (e :: es).all noStar = true) (hn : x ≠ "__name__") (hdb : (x == ("__debug__" : Str)) = false) :
    PE X (.Call (.Name x p) (e :: es) [] pos) (liftE (kw X) (wCB g w)) :=
  weakE (pe_callB hc hg hm hv ha hn hdb (star_cons (Bool.and_eq_true_iff.mp hs).1) (star_any (Bool.and_eq_true_iff.mp hs).2)) fun σ H Q' h => lift_cb hl h
theorem d_callT (hc : CallR X (.type T) r) (hl : CL (kw X) r g) (hg : Gl X x) (hm : X.mg x = none) (hv : bootBuiltins x = some (.type T)) (ha : PA X (e :: es) (liftA (kw X) w)) (hs : (e :: es).all noStar = true) (hn : x ≠ "__name__") (hdb : (x == ("__debug__" : Str)) = false) :
    PE X (.Call (.Name x p) (e :: es) [] pos) (liftE (kw X) (wCB g w)) :=
  weakE (pe_callTy hc hg hm hv ha hn hdb (star_cons (Bool.and_eq_true_iff.mp hs).1) (star_any (Bool.and_eq_true_iff.mp hs).2)) fun σ H Q' h => lift_cb hl h
end
def bLen : DL := fun ds S Q => match ds with
  | [.tup xs] => Q (.int xs.length) S
  | [.rl xs] => Q (.int xs.length) S
  | [.str y] => y.length ≤ sizeLine ∧ Q (.int y.length) S
  | [.ref a] => ∃ xs, S a = some (.lst xs) ∧ Q (.int xs.length) S
  | _ => False
theorem DRs.one {K H} {d : D} {vs : List V} (r : DRs K H [d] vs) : ∃ v, vs = [v] ∧ DR K H d v := by
  obtain ⟨v, ws, rfl, r1, t⟩ := r.inv_cons
  rw [t.inv_nil]; exact ⟨v, rfl, r1⟩
theorem DRs.two {K H} {d e : D} {vs : List V} (r : DRs K H [d, e] vs) : ∃ v u, vs = [v, u] ∧ DR K H d v ∧ DR K H e u := by
  obtain ⟨v, ws, rfl, r1, t⟩ := r.inv_cons
  obtain ⟨u, rfl, r2⟩ := t.one
  exact ⟨v, u, rfl, r1, r2⟩
theorem l_len {K : KW} : CL K (fun xs H Q => ∃ x n, xs = [x] ∧ LenV K.1 x H n ∧ Q (.int n) H) bLen := by
  intro S H ds vs Q Q' s r h l
  unfold bLen at h
  split at h
  · obtain ⟨v, rfl, r1⟩ := r.one
    obtain ⟨a, ws, rfl, h1, r2⟩ := r1.tup_of
    exact ⟨_, _, rfl, .inr ⟨ws, h1, rfl⟩, by rw [r2.length]; exact l.here s DR.int h⟩
  · obtain ⟨v, rfl, r1⟩ := r.one
    obtain ⟨a, ws, rfl, h1, r2⟩ := r1.rl_of
    exact ⟨_, _, rfl, .inl ⟨ws, h1.seq, rfl⟩, by rw [r2.length]; exact l.here s DR.int h⟩
  · obtain ⟨v, rfl, r1⟩ := r.one
    rw [r1.str_of]
    exact ⟨_, _, rfl, ⟨h.1, rfl⟩, l.here s DR.int h.2⟩
  · obtain ⟨v, rfl, r1⟩ := r.one
    rw [r1.ref_of]
    obtain ⟨xs, e, q⟩ := h
    obtain ⟨ws, h1, r2⟩ := s _ _ e
    exact ⟨_, _, rfl, .inl ⟨ws, SqL.of h1, rfl⟩, by rw [r2.length]; exact l.here s DR.int q⟩
  · exact h.elim
def bInt : DL := fun ds S Q => match ds with
  | [.int i] => Q (.int i) S
  | [.bl k] => Q (.int (if k then 1 else 0)) S
  | _ => False
theorem l_int1 {K : KW} : CL K (fun xs H Q => (∃ i, xs = [.int i] ∧ Q (.int i) H) ∨ ∃ k, xs = [.bl k] ∧ Q (.int (if k then 1 else 0)) H) bInt := by
  intro S H ds vs Q Q' s r h l
  unfold bInt at h
  split at h
  · obtain ⟨v, rfl, r1⟩ := r.one
    rw [r1.int_of]; exact .inl ⟨_, rfl, l.here s DR.int h⟩
  · obtain ⟨v, rfl, r1⟩ := r.one
    rw [r1.bl_of]; exact .inr ⟨_, rfl, l.here s DR.int h⟩
  · exact h.elim
def bAbs : DL := fun ds S Q => match ds with
  | [.int i] => Q (.int (if i < 0 then -i else i)) S
  | _ => False
theorem l_abs {K : KW} : CL K (fun xs H Q => ∃ i, xs = [.int i] ∧ Q (.int (if i < 0 then -i else i)) H) bAbs := by
  intro S H ds vs Q Q' s r h l
  unfold bAbs at h
  split at h
  · obtain ⟨v, rfl, r1⟩ := r.one
    rw [r1.int_of]; exact ⟨_, rfl, l.here s DR.int h⟩
  · exact h.elim
/-- a list of ints, bools, by what it is -/
def intsOf (S : Sto) (d : D) (ns : List Int) : Prop := match d with
  | .ref a => S a = some (.lst (ns.map D.int))
  | _ => False
theorem intsOf_seq {K : KW} {S : Sto} {H : Hp} {d : D} {ns : List Int} {v : V} (s : StoR K S H) (r : DR K H d v) (h : intsOf S d ns) : ∃ a, v = .ref a ∧ SqL K.1 H a (ns.map V.int) := by
  unfold intsOf at h
  split at h
  · obtain ⟨ws, h1, r2⟩ := s _ _ h
    rw [r2.ints] at h1
    exact ⟨_, r.ref_of, SqL.of h1⟩
  · exact h.elim
def bMax : DL := fun ds S Q => match ds with
  | [.int i, .int j] => Q (.int (if j > i then j else i)) S
  | [d] => ∃ ns, intsOf S d ns ∧ 0 < ns.length ∧ ∀ m, m ∈ ns → (∀ y, y ∈ ns → y ≤ m) → Q (.int m) S
  | _ => False
def bMin : DL := fun ds S Q => match ds with
  | [.int i, .int j] => Q (.int (if j < i then j else i)) S
  | [d] => ∃ ns, intsOf S d ns ∧ 0 < ns.length ∧ ∀ m, m ∈ ns → (∀ y, y ∈ ns → m ≤ y) → Q (.int m) S
  | _ => False
theorem call_maxA {X : Cx} (hc : X.calm = true) : CallR X (.builtin "max") (fun xs H Q => (∃ i j, xs = [.int i, .int j] ∧ Q (.int (if j > i then j else i)) H) ∨ rMax X.K xs H Q) := (call_max2 hc).or (cr_max hc)
theorem call_minA {X : Cx} (hc : X.calm = true) : CallR X (.builtin "min") (fun xs H Q => (∃ i j, xs = [.int i, .int j] ∧ Q (.int (if j < i then j else i)) H) ∨ rMin X.K xs H Q) := (call_min2 hc).or (cr_min hc)
theorem l_max {K : KW} : CL K (fun xs H Q => (∃ i j, xs = [.int i, .int j] ∧ Q (.int (if j > i then j else i)) H) ∨ rMax K.1 xs H Q) bMax := by
  intro S H ds vs Q Q' s r h l
  unfold bMax at h
  split at h
  · obtain ⟨v, u, rfl, r1, r2⟩ := r.two
    rw [r1.int_of, r2.int_of]; exact .inl ⟨_, _, rfl, l.here s DR.int h⟩
  · obtain ⟨v, rfl, r1⟩ := r.one
    obtain ⟨ns, h1, h2, q⟩ := h
    obtain ⟨a, rfl, h3⟩ := intsOf_seq s r1 h1
    exact .inr ⟨a, ns, rfl, h3, h2, fun m z1 z2 => l.here s DR.int (q m z1 z2)⟩
  · exact h.elim
theorem l_min {K : KW} : CL K (fun xs H Q => (∃ i j, xs = [.int i, .int j] ∧ Q (.int (if j < i then j else i)) H) ∨ rMin K.1 xs H Q) bMin := by
  intro S H ds vs Q Q' s r h l
  unfold bMin at h
  split at h
  · obtain ⟨v, u, rfl, r1, r2⟩ := r.two
    rw [r1.int_of, r2.int_of]; exact .inl ⟨_, _, rfl, l.here s DR.int h⟩
  · obtain ⟨v, rfl, r1⟩ := r.one
    obtain ⟨ns, h1, h2, q⟩ := h
    obtain ⟨a, rfl, h3⟩ := intsOf_seq s r1 h1
    exact .inr ⟨a, ns, rfl, h3, h2, fun m z1 z2 => l.here s DR.int (q m z1 z2)⟩
  · exact h.elim
def bSum : DL := fun ds S Q => match ds with
  | [d] => ∃ ns, intsOf S d ns ∧ Q (.int ns.sum) S
  | _ => False
theorem l_sum {K : KW} : CL K (rSum K.1) bSum := by
  intro S H ds vs Q Q' s r h l
  unfold bSum at h
  split at h
  · obtain ⟨v, rfl, r1⟩ := r.one
    obtain ⟨ns, h1, q⟩ := h
    obtain ⟨a, rfl, h3⟩ := intsOf_seq s r1 h1
    exact ⟨a, ns, rfl, h3, l.here s DR.int q⟩
  · exact h.elim
def blsOf (S : Sto) (d : D) (ns : List Bool) : Prop := match d with
  | .ref a => S a = some (.lst (ns.map D.bl))
  | _ => False
theorem blsOf_seq {K : KW} {S : Sto} {H : Hp} {d : D} {ns : List Bool} {v : V} (s : StoR K S H) (r : DR K H d v) (h : blsOf S d ns) : ∃ a, v = .ref a ∧ SqL K.1 H a (ns.map V.bl) := by
  unfold blsOf at h
  split at h
  · obtain ⟨ws, h1, r2⟩ := s _ _ h
    rw [r2.bls] at h1
    exact ⟨_, r.ref_of, SqL.of h1⟩
  · exact h.elim
def bAll : DL := fun ds S Q => match ds with
  | [d] => ∃ ns, blsOf S d ns ∧ Q (.bl (ns.all id)) S
  | _ => False
def bAny : DL := fun ds S Q => match ds with
  | [d] => ∃ ns, blsOf S d ns ∧ Q (.bl (ns.any id)) S
  | _ => False
theorem l_all {K : KW} : CL K (rAll K.1) bAll := by
  intro S H ds vs Q Q' s r h l
  unfold bAll at h
  split at h
  · obtain ⟨v, rfl, r1⟩ := r.one
    obtain ⟨ns, h1, q⟩ := h
    obtain ⟨a, rfl, h3⟩ := blsOf_seq s r1 h1
    exact ⟨a, ns, rfl, h3, l.here s DR.bl q⟩
  · exact h.elim
theorem l_any {K : KW} : CL K (rAny K.1) bAny := by
  intro S H ds vs Q Q' s r h l
  unfold bAny at h
  split at h
  · obtain ⟨v, rfl, r1⟩ := r.one
    obtain ⟨ns, h1, q⟩ := h
    obtain ⟨a, rfl, h3⟩ := blsOf_seq s r1 h1
    exact ⟨a, ns, rfl, h3, l.here s DR.bl q⟩
  · exact h.elim
def bSorted : DL := fun ds S Q => match ds with
  | [d] => ∃ ns, intsOf S d ns ∧ ∀ ns' : List Int, ns'.Perm ns → ns'.Pairwise (· ≤ ·) → newK S (.lst (ns'.map D.int)) Q
  | _ => False
theorem l_sorted {K : KW} : CL K (rSortedI K.1) bSorted := by
  intro S H ds vs Q Q' s r h l
  unfold bSorted at h
  split at h
  · obtain ⟨v, rfl, r1⟩ := r.one
    obtain ⟨ns, h1, q⟩ := h
    obtain ⟨a, rfl, h3⟩ := intsOf_seq s r1 h1
    exact ⟨a, ns, rfl, h3, fun ns' p z1 z2 n => new_lst l s n (DRs.of_ints ns') (q ns' z1 z2)⟩
  · exact h.elim
def bTuple : DL := fun ds S Q => match ds with
  | [.tup xs] => Q (.tup xs) S
  | [.rl xs] => Q (.tup xs) S
  | [.ref a] => ∃ xs, S a = some (.lst xs) ∧ Q (.tup xs) S
  | _ => False
def rTupleOf (K : PySem.W.Frag) : List V → Hp → VK → Prop := fun xs H Q => ∃ p ys, xs = [.ref p] ∧ ((SqL K H p ys ∧ ∀ l, H l = none → Q (.ref l) (upd H l (.tup ys))) ∨ (SqT K H p ys ∧ Q (.ref p) H))
theorem l_tuple {K : KW} : CL K (rTupleOf K.1) bTuple := by
  intro S H ds vs Q Q' s r h l
  unfold bTuple at h
  split at h
  · obtain ⟨v, rfl, r1⟩ := r.one
    obtain ⟨a, ws, rfl, h1, r2⟩ := r1.tup_of
    exact ⟨a, ws, rfl, .inr ⟨h1, l.here s (DR.tup h1 r2) h⟩⟩
  · obtain ⟨v, rfl, r1⟩ := r.one
    obtain ⟨a, ws, rfl, h1, r2⟩ := r1.rl_of
    exact ⟨a, ws, rfl, .inl ⟨h1.seq, fun p n => new_tup l s n r2 h⟩⟩
  · obtain ⟨v, rfl, r1⟩ := r.one
    rw [r1.ref_of]
    obtain ⟨xs, e, q⟩ := h
    obtain ⟨ws, h1, r2⟩ := s _ _ e
    exact ⟨_, ws, rfl, .inl ⟨SqL.of h1, fun p n => new_tup l s n r2 q⟩⟩
  · exact h.elim
def bList : DL := fun ds S Q => match ds with
  | [.tup xs] => newK S (.lst xs) Q
  | [.rl xs] => newK S (.lst xs) Q
  | [.ref a] => ∃ xs, S a = some (.lst xs) ∧ newK S (.lst xs) Q
  | _ => False
theorem l_list {K : KW} : CL K (fun xs H Q => ∃ p ys, xs = [.ref p] ∧ (SqL K.1 H p ys ∨ SqT K.1 H p ys) ∧ ∀ l, H l = none → Q (.ref l) (upd H l (.lst ys))) bList := by
  intro S H ds vs Q Q' s r h l
  unfold bList at h
  split at h
  · obtain ⟨v, rfl, r1⟩ := r.one
    obtain ⟨a, ws, rfl, h1, r2⟩ := r1.tup_of
    exact ⟨a, ws, rfl, .inr h1, fun p n => new_lst l s n r2 h⟩
  · obtain ⟨v, rfl, r1⟩ := r.one
    obtain ⟨a, ws, rfl, h1, r2⟩ := r1.rl_of
    exact ⟨a, ws, rfl, .inl h1.seq, fun p n => new_lst l s n r2 h⟩
  · obtain ⟨v, rfl, r1⟩ := r.one
    rw [r1.ref_of]
    obtain ⟨xs, e, q⟩ := h
    obtain ⟨ws, h1, r2⟩ := s _ _ e
    exact ⟨_, ws, rfl, .inl (SqL.of h1), fun p n => new_lst l s n r2 q⟩
  · exact h.elim

/-! ### isinstance -/
inductive Ty where | non | bl | int | str | lst | tup | dic
  deriving DecidableEq
def Ty.nm : Ty → String | .non => "NoneType" | .bl => "bool" | .int => "int" | .str => "str" | .lst => "list" | .tup => "tuple" | .dic => "dict"
def isaT : Ty → Ty → Bool
  | .bl, .int => true
  | a, b => decide (a = b)
theorem isa_ok : ∀ a b : Ty, b ≠ .non → kitB a.nm b.nm = some (isaT a b) := by
  intro a b h
  cases a <;> cases b <;> first | exact absurd rfl h | decide +kernel
def tyD (S : Sto) : D → Option Ty
  | .non => some .non | .bl _ => some .bl | .int _ => some .int | .str _ => some .str | .tup _ => some .tup | .rl _ => some .lst | .kd _ _ => none
  | .ref a => match S a with | some (.lst _) => some .lst | some (.dK _) => some .dic | none => none
theorem ty_of {K : KW} {S : Sto} {H : Hp} {d : D} {v : V} {t : Ty} (s : StoR K S H) (r : DR K H d v) (h : tyD S d = some t) : TyX K.1 H v (.type t.nm) := by
  cases d with
  | non => cases h; rw [r.non_of]; exact .base .non
  | bl _ => cases h; rw [r.bl_of]; exact .base (.bl _)
  | int _ => cases h; rw [r.int_of]; exact .base (.int _)
  | str _ => cases h; rw [r.str_of]; exact .base (.str _)
  | tup _ =>
    cases h
    obtain ⟨a, vs, rfl, h1, _⟩ := r.tup_of
    rcases h1 with (h1 | ⟨o, h1⟩) | ⟨o, its, n, h1, h2, _⟩
    · exact .base (.tup h1)
    · exact .fTuple h1
    · exact .kTuple h1 h2
  | rl _ =>
    cases h
    obtain ⟨a, vs, rfl, h1, _⟩ := r.rl_of
    rcases h1 with ⟨o, h1⟩ | ⟨o, its, n, h1, h2, _⟩
    · exact .base (.frz h1)
    · exact .kList h1 h2
  | kd ks ds => cases h
  | ref a =>
    rw [r.ref_of]
    have h : (match S a with | some (.lst _) => some Ty.lst | some (.dK _) => some Ty.dic | none => none) = some t := h
    split at h
    · rename_i e; cases h; obtain ⟨vs, h1, _⟩ := s _ _ e; exact .base (.lst h1)
    · rename_i e; cases h; obtain ⟨vs, h1, _⟩ := s _ _ e; exact .base (.dK h1)
    · cases h
def wIsi (cs : List Ty) (a : WE) : WE := fun ρ S Q => a ρ S fun x S1 => match tyD S1 x with | some t => Q (.bl (cs.any (isaT t))) S1 | none => False
def IsTy (X : Cx) (e : Expr) (t : Ty) : Prop := PE X e (tC (.ty t.nm)) ∧ noStar e = true ∧ t ≠ .non
theorem kit_any {K : PySem.W.Frag} (t : Ty) : ∀ cs : List Ty, (∀ c ∈ cs, c ≠ .non) → PySem.W.kitAny K (.type t.nm) (cs.map fun c => .type c.nm) = some (cs.any (isaT t))
  | [], _ => kitAny_nil
  | c :: cs, h => by
    have h1 := kit_ty (K := K) (isa_ok t c (h c List.mem_cons_self))
    refine kitAny_cons h1 (fun e => ?_) (fun e => ?_)
    · rw [List.any_cons, e, Bool.false_or]
      exact kit_any t cs fun c hc => h c (List.mem_cons_of_mem _ hc)
    · rw [List.any_cons, e]; rfl
section
variable {X : Cx} {e : Expr} {w : WE} {pos p pt : Pos} {k : Nat}
theorem d_isi {c : Expr} {t : Ty} (hg : Gl X "isinstance") (hm : X.mg "isinstance" = none) (he : PE X e (liftE (kw X) w)) (hs : noStar e = true) (hc : IsTy X c t) : PE X (.Call (.Name "isinstance" p) [e, c] [] pos) (liftE (kw X) (wIsi [t] w)) := by
  obtain ⟨h1, h2, h3⟩ := hc
  refine weakE (pe_callB (t := tCons (liftE (kw X) w) (tCons (tC (.ty t.nm)) tNil)) call_isi hg hm (by decide +kernel) (pa_cons he (pa_cons h1 pa_nil (star_cons h2)) (star_cons hs)) (by decide +kernel) (by decide +kernel) (star_cons hs) (star_any (by simp [h2]))) fun σ H Q' ⟨ρ, S, Q, er, s, w, l⟩ => ?_
  refine ⟨ρ, S, _, er, s, w, fun x S1 v H1 r1 s1 p1 w1 => ?_⟩
  split at w1
  · rename_i t' e1
    refine ⟨v, .ty t.nm, _, _, _, rfl, .ty _, ty_of s1 r1 e1, kit_ty (isa_ok t' t h3), ?_⟩
    have q := (l.later p1).here s1 DR.bl w1
    simpa using q
  · exact w1.elim
theorem pa_tys : ∀ (es : List Expr) (ts : List Ty), Paired (IsTy X) es ts → PA X es (fun _ H Q => Q (ts.map fun t => .ty t.nm) H) ∧ es.all noStar = true
  | [], [], .nil => ⟨pa_nil, rfl⟩
  | e :: es, t :: ts, .cons h r => by
    obtain ⟨a, b⟩ := pa_tys es ts r
    exact ⟨weakA (pa_cons h.1 a (star_cons h.2.1)) fun σ H Q q => q, by rw [List.all_cons, h.2.1, b]; rfl⟩
theorem cls_tys : ∀ ts : List Ty, Paired ClsV (ts.map fun t => V.ty t.nm) (ts.map fun t => Value.type t.nm)
  | [] => .nil
  | t :: ts => .cons (.ty _) (cls_tys ts)
theorem tys_non : ∀ {es : List Expr} {ts : List Ty}, Paired (IsTy X) es ts → ∀ c ∈ ts, c ≠ .non
  | _, _, .nil => fun c h => by cases h
  | _, _, .cons h r => fun c hc => by
    rcases List.mem_cons.mp hc with z | z
    · rw [z]; exact h.2.2
    · exact tys_non r c z
theorem d_isiT {es : List Expr} {ts : List Ty} (hg : Gl X "isinstance") (hm : X.mg "isinstance" = none) (he : PE X e (liftE (kw X) w)) (hs : noStar e = true) (hc : Paired (IsTy X) es ts) (hz : ts.length ≤ 10) : PE X (.Call (.Name "isinstance" p) [e, .Tuple es k pt] [] pos) (liftE (kw X) (wIsi ts w)) := by
  obtain ⟨h1, h2⟩ := pa_tys es ts hc
  refine weakE (pe_callB (t := tCons (liftE (kw X) w) (tCons (tTup _) tNil)) call_isiT hg hm (by decide +kernel) (pa_cons he (pa_cons (pe_tup h1) pa_nil (star_cons rfl)) (star_cons hs)) (by decide +kernel) (by decide +kernel) (star_cons hs) (star_any (by rfl))) fun σ H Q' ⟨ρ, S, Q, er, s, w, l⟩ => ?_
  refine ⟨ρ, S, _, er, s, w, fun x S1 v H1 r1 s1 p1 w1 => ?_⟩
  split at w1
  · rename_i t' e1
    refine ⟨by rw [List.length_map]; exact Nat.le_trans hz (by decide), fun q n => ?_⟩
    refine ⟨v, q, _, _, _, _, rfl, upd_same, cls_tys ts, ?_, kit_any t' ts (tys_non hc), ?_⟩
    · exact ty_of (s1.newH n) (DR.step s1 (Stp.newH n) x v r1) e1
    · exact (l.later p1).newH s1 n DR.bl w1
  · exact w1.elim
end
end PD

namespace PD
open PySem PySem.Spec PyProof.Rows L2

/-! ### own functions, called -/
abbrev SpD := List D → Sto → KD → Prop
def liftSp (K : KW) (sp : SpD) : Sp := fun vs H Q' _ => ∃ ds S Q, DRs K H ds vs ∧ StoR K S H ∧ sp ds S Q ∧ Lk K S H Q Q'
/-- an own function under its name keeps its promise -/
structure Own (P : Program) (w : World) (K : PySem.W.Frag) (mg : Str → Option Value) (base : Heap) (k : Nat) (x : Str) (sp : SpD) : Prop where
  ex : ∃ f fd ps, FnOk P w K mg base CX0 k f fd ps (liftSp (K, w) sp) ∧ mg x = some (.ref f) ∧ PySem.W.keepIn K (.ref f) = true ∧ Binds K fd ps []
theorem Own.mono {P : Program} {w : World} {K : PySem.W.Frag} {mg : Str → Option Value} {base : Heap} {j k : Nat} {x : Str} {sp : SpD} (o : Own P w K mg base j x sp) (h : j ≤ k) : Own P w K mg base k x sp := by
  obtain ⟨f, fd, ps, F, a, b, c⟩ := o.ex
  exact ⟨f, fd, ps, F.mono h, a, b, c⟩
theorem Own.imp {P : Program} {w : World} {K : PySem.W.Frag} {mg : Str → Option Value} {base : Heap} {k : Nat} {x : Str} {sp sp' : SpD} (o : Own P w K mg base k x sp) (h : ∀ ds S Q, sp' ds S Q → sp ds S Q) : Own P w K mg base k x sp' := by
  obtain ⟨f, fd, ps, F, a, b, c⟩ := o.ex
  exact ⟨f, fd, ps, F.imp fun vs H Q E ⟨ds, S, Q0, r, s, q, l⟩ => ⟨ds, S, Q0, r, s, h _ _ _ q, l⟩, a, b, c⟩
abbrev wCall (sp : SpD) (a : WA) : WE := fun ρ S Q => a ρ S fun ds S1 => sp ds S1 Q
section
variable {X : Cx} {x : Str} {e o : Expr} {es : List Expr} {sp : SpD} {w : WA} {wo : WE} {p pos apos : Pos} {j k : Nat}
theorem d_call (c : Own X.prog X.w X.K X.mg X.base k x sp) (hr : Room j X.A) (hk : k ≤ j) (hg : Gl X x) (ha : PA X (e :: es) (liftA (kw X) w)) (hs : (e :: es).all noStar = true) (hdb : (x == ("__debug__" : Str)) = false) :
    PE X (.Call (.Name x p) (e :: es) [] pos) (liftE (kw X) (wCall sp w)) := by
  obtain ⟨f, fd, ps, F, hm, kp, b⟩ := c.ex
  refine weakE (pe_call F (hr.mono hk) hg hm kp b .nil (pass0 : Passes CX0 X E0) ha hdb (star_cons (Bool.and_eq_true_iff.mp hs).1) (star_any (Bool.and_eq_true_iff.mp hs).2)) fun σ H Q' ⟨ρ, S, Q, er, s, w, l⟩ => ?_
  exact ⟨ρ, S, _, er, s, w, fun ds S1 vs H1 r1 s1 p1 w1 => ⟨ds, S1, Q, by rw [List.append_nil]; exact r1, s1, w1, l.later p1⟩⟩
theorem d_call0 (c : Own X.prog X.w X.K X.mg X.base k x sp) (hr : Room j X.A) (hk : k ≤ j) (hg : Gl X x) (hdb : (x == ("__debug__" : Str)) = false) :
    PE X (.Call (.Name x p) [] [] pos) (liftE (kw X) (wCall sp wNil)) := by
  obtain ⟨f, fd, ps, F, hm, kp, b⟩ := c.ex
  refine weakE (pe_call0 F (hr.mono hk) hg hm kp b .nil (pass0 : Passes CX0 X E0) hdb) fun σ H Q' ⟨ρ, S, Q, er, s, w, l⟩ => ?_
  exact ⟨[], S, Q, DRs.nil, s, w, l⟩

/-! ### methods -/
def DM := D → List D → Sto → KD → Prop
def ML (K : KW) (r : V → List V → Hp → VK → Prop) (g : DM) : Prop := ∀ (S : Sto) (H : Hp) (d : D) (v : V) (ds : List D) (vs : List V) (Q : KD) (Q' : VK), StoR K S H → DR K H d v → DRs K H ds vs → g d ds S Q → Lk K S H Q Q' → r v vs H Q'
abbrev wM (g : DM) (o : WE) (a : WA) : WE := fun ρ S Q => o ρ S fun d S1 => match d with
  | .ref l => (∃ xs, S1 l = some (.lst xs)) ∧ a ρ S1 fun ds S2 => g (.ref l) ds S2 Q
  | _ => False
@[irreducible] def gAppend : DM := fun d ds S Q => match d, ds with
  | .ref l, [y] => match S l with
    | some (.lst xs) => xs.length < sizeLine ∧ Q .non (put S l (.lst (xs ++ [y])))
    | _ => False
  | _, _ => False
theorem m_append {K : KW} : ML K rAppend gAppend := by
  intro S H d v ds vs Q Q' s r rs h l
  unfold gAppend at h
  split at h
  · rename_i a y
    split at h
    · rename_i xs e
      obtain ⟨v1, rfl, r1⟩ := rs.one
      obtain ⟨ws, h1, r2⟩ := s _ _ e
      have st : Stp S H (put S a (.lst (xs ++ [y]))) (upd H a (.lst (ws ++ [v1]))) := Stp.chg e
      refine ⟨a, ws, v1, r.ref_of, rfl, h1, by rw [r2.length]; exact h.1, ?_⟩
      exact l _ _ _ _ DR.non (s.put st ⟨_, upd_same, DRs.append (DRs.step s st _ _ r2) (DRs.cons (DR.step s st _ _ r1) DRs.nil)⟩) st h.2
    · exact h.elim
  · exact h.elim
@[irreducible] def gPopAt : DM := fun d ds S Q => match d, ds with
  | .ref l, [.int i] => match S l with
    | some (.lst xs) => -(2 ^ 63) ≤ i ∧ i < 2 ^ 63 ∧ ∃ k y, seqIndex? i xs.length = some k ∧ xs[k]? = some y ∧ Q y (put S l (.lst (xs.eraseIdx k)))
    | _ => False
  | _, _ => False
theorem m_popAt {K : KW} : ML K rPopAt gPopAt := by
  intro S H d v ds vs Q Q' s r rs h l
  unfold gPopAt at h
  split at h
  · rename_i a i
    split at h
    · rename_i xs e
      obtain ⟨v1, rfl, r1⟩ := rs.one
      obtain ⟨ws, h1, r2⟩ := s _ _ e
      obtain ⟨z1, z2, k, y, z3, z4, q⟩ := h
      obtain ⟨u, h3, r3⟩ := r2.get z4
      have st : Stp S H (put S a (.lst (xs.eraseIdx k))) (upd H a (.lst (ws.eraseIdx k))) := Stp.chg e
      refine ⟨a, ws, i, k, u, r.ref_of, by rw [r1.int_of], h1, z1, z2, by rw [r2.length]; exact z3, h3, ?_⟩
      exact l _ _ _ _ (DR.step s st _ _ r3) (s.put st ⟨_, upd_same, DRs.eraseIdx k (DRs.step s st _ _ r2)⟩) st q
    · exact h.elim
  · exact h.elim
@[irreducible] def gPop : DM := fun d ds S Q => match d, ds with
  | .ref l, [] => match S l with
    | some (.lst xs) => ∃ y, xs[xs.length - 1]? = some y ∧ Q y (put S l (.lst xs.dropLast))
    | _ => False
  | _, _ => False
theorem DRs.dropLast {K : KW} {H : Hp} {ds : List D} {vs : List V} (r : DRs K H ds vs) : DRs K H ds.dropLast vs.dropLast := by
  rw [List.dropLast_eq_take, List.dropLast_eq_take, r.length]; exact r.take _
theorem m_pop {K : KW} : ML K rPop gPop := by
  intro S H d v ds vs Q Q' s r rs h l
  unfold gPop at h
  split at h
  · rename_i a
    split at h
    · rename_i xs e
      obtain ⟨ws, h1, r2⟩ := s _ _ e
      obtain ⟨y, z4, q⟩ := h
      obtain ⟨u, h3, r3⟩ := r2.get z4
      have st : Stp S H (put S a (.lst xs.dropLast)) (upd H a (.lst ws.dropLast)) := Stp.chg e
      refine ⟨a, ws, u, r.ref_of, rs.inv_nil, h1, by rw [r2.length]; exact h3, ?_⟩
      exact l _ _ _ _ (DR.step s st _ _ r3) (s.put st ⟨_, upd_same, DRs.dropLast (DRs.step s st _ _ r2)⟩) st q
    · exact h.elim
  · exact h.elim
theorem lift_m {K : KW} {r : V → List V → Hp → VK → Prop} {g : DM} (hl : ML K r g) {σ : L2.St} {H : Hp} {Q' : VK} (h : liftE K (wM g wo w) σ H Q') : tBM K.1 "list" r (liftE K wo) (liftA K w) σ H Q' := by
  obtain ⟨ρ, S, Q, er, s, w, l⟩ := h
  refine ⟨ρ, S, _, er, s, w, fun d S1 v H1 r1 s1 p1 w1 => ?_⟩
  split at w1
  · rename_i a
    obtain ⟨⟨xs, e⟩, w1⟩ := w1
    obtain ⟨ws, h1, r2⟩ := s1 _ _ e
    rw [r1.ref_of]
    refine ⟨.inl ⟨rfl, ws, SqL.of h1⟩, ρ, S1, _, er.step s p1, s1, w1, fun ds S2 vs H2 r2 s2 p2 w2 => ?_⟩
    exact hl S2 H2 _ _ ds vs Q Q' s2 DR.ref r2 w2 (l.later (p1.trans p2))
  · exact w1.elim
theorem d_append (ho : PE X o (liftE (kw X) wo)) (ha : PA X [e] (liftA (kw X) w)) (hs : [e].all noStar = true) (hb : attributeBase o "append" X.env (eval o X.env) = eval o X.env) (hline : (apos.endLine == pos.line) = true) :
    PE X (.Call (.Attribute o "append" apos) [e] [] pos) (liftE (kw X) (wM gAppend wo w)) :=
  weakE (pe_bm PySem.F.plainAttrs_list PySem.F.slot_list_append type_list_append mt_append ho ha hb (star_few hs (show 1 < 29 by decide)) hline (star_cons (Bool.and_eq_true_iff.mp hs).1) (star_any (by rfl))) fun σ H Q' h => lift_m m_append h
theorem d_popAt (ho : PE X o (liftE (kw X) wo)) (ha : PA X [e] (liftA (kw X) w)) (hs : [e].all noStar = true) (hb : attributeBase o "pop" X.env (eval o X.env) = eval o X.env) (hline : (apos.endLine == pos.line) = true) :
    PE X (.Call (.Attribute o "pop" apos) [e] [] pos) (liftE (kw X) (wM gPopAt wo w)) :=
  weakE (pe_bm PySem.F.plainAttrs_list PySem.F.slot_list_pop PySem.F.type_list_pop mt_popAt ho ha hb (star_few hs (show 1 < 29 by decide)) hline (star_cons (Bool.and_eq_true_iff.mp hs).1) (star_any (by rfl))) fun σ H Q' h => lift_m m_popAt h
theorem d_pop (ho : PE X o (liftE (kw X) wo)) (hb : attributeBase o "pop" X.env (eval o X.env) = eval o X.env) (hline : (apos.endLine == pos.line) = true) :
    PE X (.Call (.Attribute o "pop" apos) [] [] pos) (liftE (kw X) (wM gPop wo wNil)) :=
  weakE (pe_bm0 PySem.F.plainAttrs_list PySem.F.slot_list_pop PySem.F.type_list_pop mt_pop ho hb hline) fun σ H Q' ⟨ρ, S, Q, er, s, w, l⟩ => by
    refine ⟨ρ, S, _, er, s, w, fun d S1 v H1 r1 s1 p1 w1 => ?_⟩
    split at w1
    · rename_i a
      obtain ⟨⟨xs, e⟩, w1⟩ := w1
      obtain ⟨ws, h1, r2⟩ := s1 _ _ e
      rw [r1.ref_of]
      exact ⟨.inl ⟨rfl, ws, SqL.of h1⟩, m_pop S1 H1 _ _ [] [] Q Q' s1 DR.ref DRs.nil w1 (l.later p1)⟩
    · exact w1.elim
def wBits (o : WE) : WE := fun ρ S Q => o ρ S fun d S1 => match d with | .int i => Q (.int (Builtin.Int.intBits i : Nat)) S1 | _ => False
theorem d_bits (ho : PE X o (liftE (kw X) wo)) (hb : attributeBase o "bit_length" X.env (eval o X.env) = eval o X.env) (hline : (apos.endLine == pos.line) = true) :
    PE X (.Call (.Attribute o "bit_length" apos) [] [] pos) (liftE (kw X) (wBits wo)) :=
  weakE (pe_bits ho hb hline) fun σ H Q' ⟨ρ, S, Q, er, s, w, l⟩ => by
    refine ⟨ρ, S, _, er, s, w, fun d S1 v H1 r1 s1 p1 w1 => ?_⟩
    split at w1
    · exact ⟨_, r1.int_of, (l.later p1).here s1 DR.int w1⟩
    · exact w1.elim
end

/-! ### a dict display, keys texts -/
def wPairs : List (Str × WE) → Env → Sto → (List (Str × D) → Sto → Prop) → Prop
  | [], _, S, Q => Q [] S
  | (k, w) :: r, ρ, S, Q => w ρ S fun d S1 => wPairs r ρ S1 fun ps S2 => Q ((k, d) :: ps) S2
def wDisp (ks : List (Str × WE)) : WE := fun ρ S Q => wPairs ks ρ S fun ps S1 => newK S1 (.dK (ps.map fun kd => (.inr kd.1, kd.2))) Q
structure DPs (X : Cx) (pos : Pos) (keys : List (Option Expr)) (values : List Expr) (ks : List (Str × WE)) : Prop where
  pp : PPs X pos keys values (ks.map fun q => (tC (.str q.1), liftE (kw X) q.2))
  all : keys.all (·.isSome) = true
  l1 : keys.length = ks.length
  l2 : values.length = ks.length
theorem dp_nil {X : Cx} {pos : Pos} : DPs X pos [] [] [] := ⟨pps_nil, rfl, rfl, rfl⟩
theorem dp_cons {X : Cx} {pos p : Pos} {j : Nat} {k : Str} {v : Expr} {ks : List (Option Expr)} {vs : List Expr} {w : WE} {ws : List (Str × WE)} (hv : PE X v (liftE (kw X) w)) (h : DPs X pos ks vs ws) :
    DPs X pos (some (.Constant (.str k) j p) :: ks) (v :: vs) ((k, w) :: ws) :=
  ⟨pps_cons pe_str hv h.pp, by simpa using h.all, by simp [h.l1], by simp [h.l2]⟩
theorem pairs_of {K : KW} {σ : L2.St} {ρ : Env} : ∀ (ks : List (Str × WE)) {S : Sto} {H : Hp} {Q : List (Str × D) → Sto → Prop} {Q' : List (V × V) → Hp → Prop}, EnvR K H ρ σ → StoR K S H → wPairs ks ρ S Q →
    (∀ ps S' vs H', ps.map (·.1) = ks.map (·.1) → DRs K H' (ps.map (·.2)) vs → StoR K S' H' → Stp S H S' H' → Q ps S' → Q' ((ps.map fun q => V.str q.1).zip vs) H') → tPairs (ks.map fun q => (tC (.str q.1), liftE K q.2)) σ H Q'
  | [], S, H, Q, Q', er, s, w, l => l [] S [] H rfl DRs.nil s (Stp.refl S H) w
  | (k, w) :: r, S, H, Q, Q', er, s, h, l => by
    show liftE K w σ H _
    refine ⟨ρ, S, _, er, s, h, fun d S1 v H1 r1 s1 p1 w1 => ?_⟩
    refine pairs_of r (er.step s p1) s1 w1 fun ps S2 vs H2 e r2 s2 p2 w2 => ?_
    exact l ((k, d) :: ps) S2 (v :: vs) H2 (by simp [e]) (DRs.cons (DR.step s1 p2 d v r1) r2) s2 (p1.trans p2) w2
theorem putK_new {κ : Type} [DecidableEq κ] {k : κ} {v : V} : ∀ {kvs : List (κ × V)}, k ∉ kvs.map (·.1) → putK kvs k v = kvs ++ [(k, v)] := by
  intro kvs h
  unfold putK
  rw [if_neg]
  intro z
  rw [List.any_eq_true] at z
  obtain ⟨q, hq, e⟩ := z
  exact h (List.mem_map.mpr ⟨q, hq, of_decide_eq_true e⟩)
theorem mergeK_id : ∀ {more kvs : List (Key × V)}, (kvs.map (·.1) ++ more.map (·.1)).Nodup → mergeK kvs more = kvs ++ more
  | [], kvs, _ => by simp [mergeK]
  | q :: more, kvs, h => by
    have h1 : q.1 ∉ kvs.map (·.1) := fun z => by
      have := (List.nodup_append.mp h).2.2 _ z q.1 (by simp)
      exact this rfl
    show mergeK (putK kvs q.1 q.2) more = _
    rw [putK_new h1, mergeK_id (by simpa using h)]
    simp
theorem zip_keys : ∀ (ps : List (Str × D)) (vs : List V), vs.length = ps.length → (ps.map fun q => V.str q.1).zip vs = ((ps.map fun q => (Sum.inr q.1 : Key)).zip vs).map fun kv => (kV kv.1, kv.2)
  | [], _, _ => rfl
  | p :: ps, [], h => by simp at h
  | p :: ps, v :: vs, h => by
    simp only [List.map_cons, List.zip_cons_cons, List.cons.injEq]
    exact ⟨rfl, zip_keys ps vs (by simpa using h)⟩
theorem zip_fst {α β : Type} : ∀ (as : List α) (bs : List β), bs.length = as.length → (as.zip bs).map (·.1) = as
  | [], _, _ => rfl
  | a :: as, [], h => by simp at h
  | a :: as, b :: bs, h => by simp [zip_fst as bs (by simpa using h)]
theorem zip_snd {α β : Type} : ∀ (as : List α) (bs : List β), bs.length = as.length → (as.zip bs).map (·.2) = bs
  | [], [], _ => rfl
  | [], b :: bs, h => by simp at h
  | a :: as, [], h => by simp at h
  | a :: as, b :: bs, h => by simp [zip_snd as bs (by simpa using h)]
theorem d_disp {X : Cx} {pos : Pos} {keys : List (Option Expr)} {values : List Expr} {ks : List (Str × WE)} (h : DPs X pos keys values ks) (h0 : ks.isEmpty = false) (h15 : decide (ks.length ≤ 15) = true) (nd : decide (ks.map (·.1)).Nodup = true) :
    PE X (.Dict keys values pos) (liftE (kw X) (wDisp ks)) := by
  have h15 := of_decide_eq_true h15
  have nd := of_decide_eq_true nd
  refine weakE (pe_disp h.pp h.all (h.l1.trans h.l2.symm) (fun e => by have := h.l1; rw [e] at this; cases ks with | nil => cases h0 | cons _ _ => simp at this) (by rw [h.l1]; exact h15)) fun σ H Q' ⟨ρ, S, Q, er, s, w, l⟩ => ?_
  intro p n
  have er1 : EnvR (kw X) (upd H p (.dK [])) ρ σ := er.step s (Stp.newH n)
  refine pairs_of ks er1 (s.newH n) w fun ps S' vs H' e r1 s1 p1 q => ?_
  have n1 := p1 p _ upd_same (s.none n)
  have hl : vs.length = ps.length := by rw [r1.length]; simp
  refine ⟨n1.2, (ps.map fun q => (Sum.inr q.1 : Key)).zip vs, zip_keys ps vs hl, ?_, ?_⟩
  · have z := congrArg List.length e
    simp only [List.length_map] at z
    rw [List.length_zip, List.length_map, hl, z, Nat.min_self]
    exact h15
  · have hk : ((ps.map fun q => (Sum.inr q.1 : Key)).zip vs).map (·.1) = ps.map fun q => (Sum.inr q.1 : Key) := zip_fst _ _ (by simp [hl])
    have hv : ((ps.map fun q => (Sum.inr q.1 : Key)).zip vs).map (·.2) = vs := zip_snd _ _ (by simp [hl])
    rw [mergeK_id (by
      rw [hk]
      simp only [List.map_nil, List.nil_append]
      have z : (ps.map fun q => (Sum.inr q.1 : Key)) = (ps.map (·.1)).map Sum.inr := by simp
      rw [z, e]
      exact List.Pairwise.map _ (fun a b hab z => hab (Sum.inr.inj z)) nd), List.nil_append]
    have sx : StoR (kw X) (put S' p (.dK [])) H' := fun b o eb => by
      by_cases q : b = p
      · subst q; rw [put_same] at eb; cases eb; exact ⟨[], n1.2, rfl, DRs.nil⟩
      · rw [put_ne q] at eb; exact s1 b o eb
    have st : Stp (put S' p (.dK [])) H' (put (put S' p (.dK [])) p (.dK (ps.map fun kd => (.inr kd.1, kd.2)))) (upd H' p (.dK ((ps.map fun q => (Sum.inr q.1 : Key)).zip vs))) := Stp.chg put_same
    have sn := sx.put st ⟨_, upd_same, by rw [hk]; simp, by
      rw [hv]
      have z : ((ps.map fun kd => ((.inr kd.1 : Key), kd.2)).map (·.2)) = ps.map (·.2) := by simp
      rw [z]; exact DRs.step sx st _ _ r1⟩
    rw [put_put] at sn
    refine l _ _ _ _ DR.ref sn (fun b o hb z => ?_) (q.at n1.1)
    have ne : b ≠ p := fun e => by rw [e, n] at hb; cases hb
    have z2 := p1 b o (by rw [upd_ne ne]; exact hb) z
    exact ⟨by rw [put_ne ne]; exact z2.1, by rw [upd_ne ne]; exact z2.2⟩
end PD

namespace PD
open PySem PySem.Spec PyProof.Rows L2

/-! ### statements -/
structure DE where
  nx : Env → Sto → Prop
  rt : KD
  bk : Env → Sto → Prop := fun _ _ => False
  ct : Env → Sto → Prop := fun _ _ => False
abbrev WS := DE → Env → Sto → Prop
def LkN (K : KW) (S : Sto) (H : Hp) (N : Env → Sto → Prop) (N' : L2.St → Hp → Prop) : Prop := ∀ ρ' S' σ' H', EnvR K H' ρ' σ' → StoR K S' H' → Stp S H S' H' → N ρ' S' → N' σ' H'
structure LkS (K : KW) (S : Sto) (H : Hp) (D : DE) (D' : Ends) : Prop where
  nx : LkN K S H D.nx D'.nx
  rt : Lk K S H D.rt D'.rt
  bk : LkN K S H D.bk D'.bk
  ct : LkN K S H D.ct D'.ct
section
variable {K : KW} {S S1 : Sto} {H H1 : Hp}
theorem LkN.later {Q : Env → Sto → Prop} {Q' : L2.St → Hp → Prop} (l : LkN K S H Q Q') (p : Stp S H S1 H1) : LkN K S1 H1 Q Q' := fun ρ S' σ H' e s q => l ρ S' σ H' e s (p.trans q)
theorem LkN.here {Q : Env → Sto → Prop} {Q' : L2.St → Hp → Prop} (l : LkN K S H Q Q') {ρ : Env} {σ : L2.St} (e : EnvR K H ρ σ) (s : StoR K S H) (q : Q ρ S) : Q' σ H := l ρ S σ H e s (Stp.refl S H) q
theorem LkS.later {D : DE} {D' : Ends} (l : LkS K S H D D') (p : Stp S H S1 H1) : LkS K S1 H1 D D' := ⟨l.nx.later p, l.rt.later p, l.bk.later p, l.ct.later p⟩
end
def liftS (K : KW) (w : WS) : TS := fun D' σ H => ∃ ρ S D, EnvR K H ρ σ ∧ StoR K S H ∧ w D ρ S ∧ LkS K S H D D'
section
variable {X : Cx} {st : Stmt} {rest : List Stmt} {e : Expr} {pos : Pos}
theorem weakS {t t' : TS} (h : PS X st t) (i : ∀ D σ H, t' D σ H → t D σ H) : PS X st t' := ⟨fun pins s σ H D I q => h.run pins s σ H D I (i D σ H q)⟩
theorem weakSs {sts : List Stmt} {t t' : TS} (h : PSs X sts t) (i : ∀ D σ H, t' D σ H → t D σ H) : PSs X sts t' := ⟨fun pins s σ H D I q => h.run pins s σ H D I (i D σ H q)⟩
def wNext : WS := fun D ρ S => D.nx ρ S
def wSeq (a b : WS) : WS := fun D ρ S => a { D with nx := fun ρ S => b D ρ S } ρ S
theorem s_nil : PSs X [] (liftS (kw X) wNext) := weakSs pss_nil fun D' σ H ⟨ρ, S, D, er, s, w, l⟩ => l.nx.here er s w
theorem s_cons {a b : WS} (h1 : PS X st (liftS (kw X) a)) (h2 : PSs X rest (liftS (kw X) b)) : PSs X (st :: rest) (liftS (kw X) (wSeq a b)) :=
  weakSs (pss_cons h1 h2) fun D' σ H ⟨ρ, S, D, er, s, w, l⟩ => ⟨ρ, S, _, er, s, w, ⟨fun ρ1 S1 σ1 H1 e1 s1 p1 w1 => ⟨ρ1, S1, D, e1, s1, w1, l.later p1⟩, l.rt, l.bk, l.ct⟩⟩
theorem s_one {a : WS} (h1 : PS X st (liftS (kw X) a)) : PSs X [st] (liftS (kw X) a) := pss_one h1
def wPass : WS := wNext
theorem s_pass : PS X (.Pass pos) (liftS (kw X) wNext) := weakS ps_pass fun D' σ H ⟨ρ, S, D, er, s, w, l⟩ => l.nx.here er s w
def wBreak : WS := fun D ρ S => D.bk ρ S
def wCont : WS := fun D ρ S => D.ct ρ S
theorem s_break : PS X (.Break pos) (liftS (kw X) wBreak) := weakS ps_break fun D' σ H ⟨ρ, S, D, er, s, w, l⟩ => l.bk.here er s w
theorem s_continue : PS X (.Continue pos) (liftS (kw X) wCont) := weakS ps_continue fun D' σ H ⟨ρ, S, D, er, s, w, l⟩ => l.ct.here er s w
theorem s_doc {x j p p'} : PS X (.Expr (.Constant (.str x) j p) p') (liftS (kw X) wNext) := weakS ps_doc fun D' σ H ⟨ρ, S, D, er, s, w, l⟩ => l.nx.here er s w
def wDrop (a : WE) : WS := fun D ρ S => a ρ S fun _ S1 => D.nx ρ S1
theorem s_expr {a : WE} (he : PE X e (liftE (kw X) a)) (hs : swapsWith e none pos.line X.env = pure false) : PS X (.Expr e pos) (liftS (kw X) (wDrop a)) :=
  weakS (ps_expr he hs) fun D' σ H ⟨ρ, S, D, er, s, w, l⟩ => ⟨ρ, S, _, er, s, w, fun d S1 v H1 r1 s1 p1 q => l.nx ρ S1 σ H1 (er.step s p1) s1 p1 q⟩
def wRet (a : WE) : WS := fun D ρ S => a ρ S D.rt
theorem s_ret {a : WE} (he : PE X e (liftE (kw X) a)) : PS X (.Return (some e) pos) (liftS (kw X) (wRet a)) :=
  weakS (ps_ret he) fun D' σ H ⟨ρ, S, D, er, s, w, l⟩ => ⟨ρ, S, _, er, s, w, l.rt⟩
def wRetN : WS := fun D ρ S => D.rt .non S
theorem s_retN : PS X (.Return none pos) (liftS (kw X) wRetN) := weakS ps_retN fun D' σ H ⟨ρ, S, D, er, s, w, l⟩ => l.rt.here s DR.non w
def wIfS (c : WT) (a b : WS) : WS := fun D ρ S => c ρ S fun k S1 => if k = true then a D ρ S1 else b D ρ S1
theorem s_if {c : Expr} {xs ys : List Stmt} {wc : WT} {a b : WS} (hc : PT X c (liftT (kw X) wc)) (ha : PSs X xs (liftS (kw X) a)) (hb : PSs X ys (liftS (kw X) b)) : PS X (.If c xs ys pos) (liftS (kw X) (wIfS wc a b)) :=
  weakS (ps_if hc ha hb) fun D' σ H ⟨ρ, S, D, er, s, w, l⟩ => by
    refine ⟨ρ, S, _, er, s, w, fun c S1 H1 s1 p1 w1 => ?_⟩
    cases c with
    | true => rw [if_pos rfl] at w1 ⊢; exact ⟨ρ, S1, D, er.step s p1, s1, w1, l.later p1⟩
    | false => rw [if_neg Bool.false_ne_true] at w1 ⊢; exact ⟨ρ, S1, D, er.step s p1, s1, w1, l.later p1⟩
def wNeverS : WS := fun _ _ _ => False
theorem s_never : PS X st (liftS (kw X) wNeverS) := ⟨fun _ _ _ _ _ _ ⟨_, _, _, _, _, h, _⟩ => h.elim⟩
theorem ss_never {sts : List Stmt} : PSs X sts (liftS (kw X) wNeverS) := ⟨fun _ _ _ _ _ _ ⟨_, _, _, _, _, h, _⟩ => h.elim⟩
end

/-! ### targets -/
inductive Tg where | nm (i : Nat) | tup (ts : List Tg) | lst (ts : List Tg)
mutual
def asg (S : Sto) : Tg → D → Env → Option Env
  | .nm i, d, ρ => some (ρ.set i (some d))
  | .tup ts, .tup ds, ρ => asgs S ts ds ρ
  | .lst ts, .ref a, ρ => match S a with | some (.lst ds) => asgs S ts ds ρ | _ => none
  | .lst ts, .rl ds, ρ => asgs S ts ds ρ
  | _, _, _ => none
def asgs (S : Sto) : List Tg → List D → Env → Option Env
  | [], [], ρ => some ρ
  | t :: ts, d :: ds, ρ => match asg S t d ρ with | some ρ1 => asgs S ts ds ρ1 | none => none
  | _, _, _ => none
end
mutual
def hG (K : PySem.W.Frag) : Tg → TG
  | .nm i => gName i
  | .tup ts => gTup K ts.length (hGs K ts)
  | .lst ts => gUnl K ts.length (hGs K ts)
def hGs (K : PySem.W.Frag) : List Tg → TGs
  | [] => gNil
  | t :: ts => gCons (hG K t) (hGs K ts)
end
mutual
def Tg.ix : Tg → List Nat
  | .nm i => [i]
  | .tup ts => Tg.ixs ts
  | .lst ts => Tg.ixs ts
def Tg.ixs : List Tg → List Nat
  | [] => []
  | t :: ts => t.ix ++ Tg.ixs ts
end
theorem wipe_set {σ : L2.St} {i : Nat} {x : Option V} : ∀ {vs : List Nat}, i ∈ vs → wipe (σ.set i x) vs = wipe σ vs
  | v :: vs, h => by
    unfold wipe
    by_cases q : i ∈ vs
    · rw [wipe_set q]
    · have e : i = v := by rcases List.mem_cons.mp h with z | z; exact z; exact (q z).elim
      subst e
      have go : ∀ us : List Nat, (wipe (σ.set i x) us).set i none = (wipe σ us).set i none := by
        intro us
        induction us with
        | nil => unfold wipe; rw [List.set_set]
        | cons u us ih =>
          unfold wipe
          by_cases e : u = i
          · subst e; rw [List.set_set, List.set_set, ih]
          · rw [List.set_comm _ _ e, List.set_comm _ _ e, ih]
      exact go vs
def WpEq (vs : List Nat) (σ σ' : L2.St) : Prop := ∀ us : List Nat, (∀ i ∈ vs, i ∈ us) → wipe σ' us = wipe σ us
mutual
theorem asg_ok {K : KW} {S : Sto} {H : Hp} (s : StoR K S H) : ∀ (t : Tg) {d : D} {v : V} {ρ ρ' : Env} {σ : L2.St} {Q : L2.St → Hp → Prop}, EnvR K H ρ σ → DR K H d v → asg S t d ρ = some ρ' → (∀ σ', EnvR K H ρ' σ' → WpEq t.ix σ σ' → Q σ' H) → hG K.1 t v σ H Q
  | .nm i, d, v, ρ, ρ', σ, Q, er, r, h, q => by
    unfold asg at h
    cases h
    unfold hG
    exact q _ (er.set r) fun us hu => wipe_set (hu i (by unfold Tg.ix; simp))
  | .tup ts, d, v, ρ, ρ', σ, Q, er, r, h, q => by
    cases d with
    | tup ds =>
      unfold asg at h
      obtain ⟨a, vs, rfl, h1, r1⟩ := r.tup_of
      unfold hG
      refine ⟨a, vs, rfl, h1, ?_, asgs_ok s ts er r1 h fun σ' e' w' => q σ' e' (by unfold Tg.ix; exact w')⟩
      rw [r1.length]; exact (asgs_len ts h).symm
    | _ => unfold asg at h; cases h
  | .lst ts, d, v, ρ, ρ', σ, Q, er, r, h, q => by
    cases d with
    | ref a =>
      unfold asg at h
      split at h
      · rename_i ds e
        obtain ⟨ws, h1, r1⟩ := s _ _ e
        rw [r.ref_of]
        unfold hG
        refine ⟨a, ws, rfl, SqL.of h1, ?_, asgs_ok s ts er r1 h fun σ' e' w' => q σ' e' (by unfold Tg.ix; exact w')⟩
        rw [r1.length]; exact (asgs_len ts h).symm
      · cases h
    | rl ds =>
      unfold asg at h
      obtain ⟨a, vs, rfl, h1, r1⟩ := r.rl_of
      unfold hG
      refine ⟨a, vs, rfl, h1.seq, ?_, asgs_ok s ts er r1 h fun σ' e' w' => q σ' e' (by unfold Tg.ix; exact w')⟩
      rw [r1.length]; exact (asgs_len ts h).symm
    | _ => unfold asg at h; cases h
theorem asgs_ok {K : KW} {S : Sto} {H : Hp} (s : StoR K S H) : ∀ (ts : List Tg) {ds : List D} {vs : List V} {ρ ρ' : Env} {σ : L2.St} {Q : L2.St → Hp → Prop}, EnvR K H ρ σ → DRs K H ds vs → asgs S ts ds ρ = some ρ' → (∀ σ', EnvR K H ρ' σ' → WpEq (Tg.ixs ts) σ σ' → Q σ' H) → hGs K.1 ts vs σ H Q
  | [], ds, vs, ρ, ρ', σ, Q, er, r, h, q => by
    cases ds with
    | nil =>
      unfold asgs at h
      cases h
      rw [r.inv_nil]
      unfold hGs
      exact ⟨rfl, q σ er fun us _ => rfl⟩
    | cons _ _ => unfold asgs at h; cases h
  | t :: ts, ds, vs, ρ, ρ', σ, Q, er, r, h, q => by
    cases ds with
    | nil => unfold asgs at h; cases h
    | cons d ds =>
      unfold asgs at h
      split at h
      · rename_i ρ1 e
        obtain ⟨w, ws, rfl, r1, r2⟩ := r.inv_cons
        unfold hGs
        refine ⟨w, ws, rfl, asg_ok s t er r1 e fun σ1 e1 w1 => asgs_ok s ts e1 r2 h fun σ2 e2 w2 => q σ2 e2 fun us hu => ?_⟩
        have a1 := w2 us fun i hi => hu i (by unfold Tg.ixs; exact List.mem_append_right _ hi)
        have a2 := w1 us fun i hi => hu i (by unfold Tg.ixs; exact List.mem_append_left _ hi)
        exact a1.trans a2
      · cases h
theorem asgs_len {S : Sto} : ∀ (ts : List Tg) {ds : List D} {ρ ρ' : Env}, asgs S ts ds ρ = some ρ' → ts.length = ds.length
  | [], ds, ρ, ρ', h => by
    cases ds with
    | nil => rfl
    | cons _ _ => unfold asgs at h; cases h
  | t :: ts, ds, ρ, ρ', h => by
    cases ds with
    | nil => unfold asgs at h; cases h
    | cons d ds =>
      unfold asgs at h
      split at h
      · simp [asgs_len ts h]
      · cases h
end
section
variable {X : Cx} {e : Expr} {pos p pp pt : Pos}
structure PGD (X : Cx) (tg : Expr) (t : Tg) : Prop where
  g : PG X tg (hG X.K t)
structure PGDs (X : Cx) (tgs : List Expr) (ts : List Tg) : Prop where
  g : PGs X tgs (hGs X.K ts)
  ns : tgs.all noStar = true
  len : tgs.length = ts.length
theorem g_name {i : Nat} {x : Str} (hN : X.N.Nodup) (hi : X.N[i]? = some x) (hx : Loc X.env.scope x) (hf : X.fn x = true ∨ X.env.scope.names.lookup x = some .local) : PGD X (.Name x pos) (.nm i) := ⟨pg_name hN hi hx hf⟩
theorem gs_nil : PGDs X [] [] := ⟨pgs_nil, rfl, rfl⟩
theorem assign_cons {env : PySem.Env} {e : Expr} {es : List Expr} (h : noStar e = true) : assignEach (e :: es) env = (false, assign e env) :: assignEach es env := by
  cases e <;> first | rfl | cases h
theorem gs_cons {e : Expr} {es : List Expr} {t : Tg} {ts : List Tg} (h1 : PGD X e t) (h2 : PGDs X es ts) (hs : noStar e = true) : PGDs X (e :: es) (t :: ts) :=
  ⟨pgs_cons h1.g h2.g (by rw [assign_cons hs]; rfl), by rw [List.all_cons, hs, h2.ns]; rfl, by simp [h2.len]⟩
theorem assign_len {env : PySem.Env} : ∀ {es : List Expr}, es.all noStar = true → (assignEach es env).length = es.length ∧ (assignEach es env).findIdx? (·.1) = none
  | [], _ => ⟨rfl, rfl⟩
  | e :: es, h => by
    rw [List.all_cons, Bool.and_eq_true] at h
    rw [assign_cons h.1]
    obtain ⟨a, b⟩ := assign_len (env := env) h.2
    refine ⟨by simp [a], ?_⟩
    rw [List.findIdx?_cons]
    simp [b]
theorem g_tup {es : List Expr} {ts : List Tg} {k : Nat} (hc : X.calm = true) (h : PGDs X es ts) : PGD X (.Tuple es k pos) (.tup ts) :=
  ⟨pg_tup hc h.g ((assign_len h.ns).1.trans h.len) (assign_len h.ns).2⟩
theorem g_lst {es : List Expr} {ts : List Tg} {k : Nat} (hc : X.calm = true) (h : PGDs X es ts) : PGD X (.Tuple es k pos) (.lst ts) :=
  ⟨pg_unl hc h.g ((assign_len h.ns).1.trans h.len) (assign_len h.ns).2⟩
def asgK (o : Option Env) (N : Env → Prop) : Prop := match o with | some ρ => N ρ | none => False
theorem asg_lst {S : Sto} {a : Addr} {ds : List D} {ts : List Tg} {ρ : Env} {N : Env → Prop} (h : S a = some (.lst ds)) (q : asgK (asgs S ts ds ρ) N) : asgK (asg S (.lst ts) (.ref a) ρ) N := by
  unfold asg
  rw [h]; exact q
def wAsg (a : WE) (t : Tg) : WS := fun D ρ S => a ρ S fun d S1 => asgK (asg S1 t d ρ) fun ρ' => D.nx ρ' S1
theorem lift_asg {K : KW} {a : WE} {t : Tg} {D' : Ends} {σ : L2.St} {H : Hp} (h : liftS K (wAsg a t) D' σ H) : tAsg (liftE K a) (hG K.1 t) D' σ H := by
  obtain ⟨ρ, S, D, er, s, w, l⟩ := h
  refine ⟨ρ, S, _, er, s, w, fun d S1 v H1 r1 s1 p1 w1 => ?_⟩
  unfold asgK at w1
  split at w1
  · rename_i ρ' e1
    exact asg_ok s1 t (er.step s p1) r1 e1 fun σ' e' _ => l.nx ρ' S1 σ' H1 e' s1 p1 w1
  · exact w1.elim
theorem s_set {i : Nat} {x : Str} {a : WE} (hN : X.N.Nodup) (hi : X.N[i]? = some x) (hx : Loc X.env.scope x) (he : PE X e (liftE (kw X) a)) (hs : swapsWith e (some (.Name x p)) pos.line X.env = pure false) (hf : X.fn x = true ∨ X.env.scope.names.lookup x = some .local) :
    PS X (.Assign [.Name x p] e pos) (liftS (kw X) (wAsg a (.nm i))) :=
  weakS (ps_set hN hi hx he hs hf) fun D' σ H h => by have z := lift_asg h; unfold hG at z; exact z
theorem s_asg {tg : Expr} {t : Tg} {a : WE} (he : PE X e (liftE (kw X) a)) (hg : PGD X tg t) (hs : swapsWithSole [tg] e pos.line X.env = pure false) (hw : swappedStores [tg] e X.env = pure none) (h1 : noStar tg = true) :
    PS X (.Assign [tg] e pos) (liftS (kw X) (wAsg a t)) :=
  weakS (ps_asg he hg.g hs hw (by rw [assign_cons h1]; rfl)) fun D' σ H h => lift_asg h
/-- x, y = a, b -/
def wPar (i j : Nat) (a : WA) : WS := fun D ρ S => a ρ S fun ds S1 => match ds with | [d, e] => D.nx ((ρ.set i (some d)).set j (some e)) S1 | _ => False
theorem s_par {i j : Nat} {x y : Str} {a b : Expr} {w : WA} {px py pt : Pos} {kt k2 pt2} (hc : X.calm = true) (hN : X.N.Nodup) (hi : X.N[i]? = some x) (hj : X.N[j]? = some y) (hij : i ≠ j)
    (hx : X.env.scope.names.lookup x = some .local) (hy : X.env.scope.names.lookup y = some .local) (ha : PA X [a, b] (liftA (kw X) w))
    (hw : swappedStores [.Tuple [.Name x px, .Name y py] kt pt] (.Tuple [a, b] k2 pt2) X.env = pure (some [x, y]))
    (hs : swapsWithSole [.Tuple [.Name x px, .Name y py] kt pt] (.Tuple [a, b] k2 pt2) pos.line X.env = pure false) :
    PS X (.Assign [.Tuple [.Name x px, .Name y py] kt pt] (.Tuple [a, b] k2 pt2) pos) (liftS (kw X) (wPar i j w)) :=
  weakS (ps_par hc hN hi hj hij hx hy ha hw hs) fun D' σ H ⟨ρ, S, D, er, s, w, l⟩ => by
    refine ⟨ρ, S, _, er, s, w, fun ds S1 vs H1 r1 s1 p1 w1 => ?_⟩
    split at w1
    · obtain ⟨v, u, rfl, r2, r3⟩ := r1.two
      exact ⟨v, u, rfl, l.nx _ S1 _ H1 (((er.step s p1).set r2).set r3) s1 p1 w1⟩
    · exact w1.elim
/-- x, y, z = a, b, c -/
def wPar3 (i j k : Nat) (a : WA) : WS := fun D ρ S => a ρ S fun ds S1 => match ds with | [d, e, f] => D.nx (((ρ.set i (some d)).set j (some e)).set k (some f)) S1 | _ => False
theorem DRs.three {K H} {d e f : D} {vs : List V} (r : DRs K H [d, e, f] vs) : ∃ v u w, vs = [v, u, w] ∧ DR K H d v ∧ DR K H e u ∧ DR K H f w := by
  obtain ⟨v, ws, rfl, r1, t⟩ := r.inv_cons
  obtain ⟨u, w, rfl, r2, r3⟩ := t.two
  exact ⟨v, u, w, rfl, r1, r2, r3⟩
theorem s_par3 {i j l : Nat} {x y z : Str} {a b c : Expr} {w : WA} {px py pz pt : Pos} {kt k2 pt2} (hc : X.calm = true) (hN : X.N.Nodup) (hi : X.N[i]? = some x) (hj : X.N[j]? = some y) (hl : X.N[l]? = some z) (hij : i ≠ j) (hil : i ≠ l) (hjl : j ≠ l)
    (hx : X.env.scope.names.lookup x = some .local) (hy : X.env.scope.names.lookup y = some .local) (hz : X.env.scope.names.lookup z = some .local) (ha : PA X [a, b, c] (liftA (kw X) w))
    (hw : swappedStores [.Tuple [.Name x px, .Name y py, .Name z pz] kt pt] (.Tuple [a, b, c] k2 pt2) X.env = pure (some [x, y, z]))
    (hs : swapsWithSole [.Tuple [.Name x px, .Name y py, .Name z pz] kt pt] (.Tuple [a, b, c] k2 pt2) pos.line X.env = pure false) :
    PS X (.Assign [.Tuple [.Name x px, .Name y py, .Name z pz] kt pt] (.Tuple [a, b, c] k2 pt2) pos) (liftS (kw X) (wPar3 i j l w)) :=
  weakS (ps_par3 hc hN hi hj hl hij hil hjl hx hy hz ha hw hs) fun D' σ H ⟨ρ, S, D, er, s, w, l⟩ => by
    refine ⟨ρ, S, _, er, s, w, fun ds S1 vs H1 r1 s1 p1 w1 => ?_⟩
    split at w1
    · obtain ⟨v, u, w', rfl, r2, r3, r4⟩ := r1.three
      exact ⟨v, u, w', rfl, l.nx _ S1 _ H1 ((((er.step s p1).set r2).set r3).set r4) s1 p1 w1⟩
    · exact w1.elim
/-- o[i] = e of a list -/
def wPut (a o i : WE) : WS := fun D ρ S => a ρ S fun d S1 => o ρ S1 fun x S2 => i ρ S2 fun y S3 => match x, y with
  | .ref l, .int k => match S3 l with
    | some (.lst xs) => ∃ j, ixN xs.length k = some j ∧ D.nx ρ (put S3 l (.lst (xs.set j d)))
    | _ => False
  | _, _ => False
theorem s_put {o i : Expr} {a wo wi : WE} (he : PE X e (liftE (kw X) a)) (ho : PE X o (liftE (kw X) wo)) (hi : PE X i (liftE (kw X) wi)) 
    (ha : ∀ v, assign (.Subscript o i p) X.env v = (do
      let ov ← holding [v] (eval o X.env)
      let iv ← holding [v, ov] (eval i X.env)
      standAt p
      holding [v, ov, iv] (setItem ov iv v)
      release [v, ov, iv] []))
    (hs : swapsWithSole [.Subscript o i p] e pos.line X.env = pure false) (hw : swappedStores [.Subscript o i p] e X.env = pure none) :
    PS X (.Assign [.Subscript o i p] e pos) (liftS (kw X) (wPut a wo wi)) :=
  weakS (ps_asg he (pg_sub ho hi set_list ha) hs hw (by rw [assign_cons (by rfl)]; rfl)) fun D' σ H ⟨ρ, S, D, er, s, w, l⟩ => by
    refine ⟨ρ, S, _, er, s, w, fun d S1 v H1 r1 s1 p1 w1 => ?_⟩
    refine ⟨ρ, S1, _, er.step s p1, s1, w1, fun x S2 u H2 r2 s2 p2 w2 => ?_⟩
    refine ⟨ρ, S2, _, (er.step s p1).step s1 p2, s2, w2, fun y S3 t H3 r3 s3 p3 w3 => ?_⟩
    have r1' := DR.step s2 p3 d v (DR.step s1 p2 d v r1)
    have r2' := DR.step s2 p3 x u r2
    have er' := ((er.step s p1).step s1 p2).step s2 p3
    split at w3
    · rename_i l' k
      split at w3
      · rename_i xs e
        obtain ⟨j, z, q⟩ := w3
        obtain ⟨ws, h1, r4⟩ := s3 _ _ e
        have st : Stp S3 H3 (put S3 l' (.lst (xs.set j d))) (upd H3 l' (.lst (ws.set j v))) := Stp.chg e
        refine ⟨l', ws, k, j, r2'.ref_of, r3.int_of, h1, by rw [r4.length]; exact z, ?_⟩
        exact l.nx ρ _ σ _ (er'.step s3 st) (s3.put st ⟨_, upd_same, DRs.set (DR.step s3 st _ _ r1') j (DRs.step s3 st _ _ r4)⟩) (p1.trans (p2.trans (p3.trans st))) q
      · exact w3.elim
    · exact w3.elim
end

/-! ### while -/
def wWhile (c : WT) (b : WS) : WS := fun D ρ S => ∃ W : Nat → Env → Sto → Prop, (∃ m, W m ρ S) ∧ ∀ m ρ S, W m ρ S → c ρ S fun k S1 =>
  if k = true then ∃ N : Env → Sto → Prop, (∀ ρ' S', N ρ' S' → ∃ m', m' < m ∧ W m' ρ' S') ∧ b { D with nx := N, ct := N, bk := D.nx } ρ S1 else D.nx ρ S1
section
variable {X : Cx} {pos : Pos}
theorem s_while {c : Expr} {body : List Stmt} {wc : WT} {b : WS} (hp : PassesOwn (model X.prog X.w) X.A X.env X.xe) (hc : PT X c (liftT (kw X) wc)) (hb : PSs X body (liftS (kw X) b)) : PS X (.While c body [] pos) (liftS (kw X) (wWhile wc b)) :=
  weakS (ps_while hp hc hb) fun D' σ H ⟨ρ, S, D, er, s, ⟨W, ⟨m, w0⟩, turn⟩, l⟩ => by
    refine ⟨fun m σ' H' => ∃ ρ' S', EnvR (kw X) H' ρ' σ' ∧ StoR (kw X) S' H' ∧ Stp S H S' H' ∧ W m ρ' S', ⟨m, ρ, S, er, s, Stp.refl _ _, w0⟩, ?_⟩
    rintro m σ1 H1 ⟨ρ1, S1, er1, s1, p1, w1⟩
    refine ⟨ρ1, S1, _, er1, s1, turn m ρ1 S1 w1, fun k S2 H2 s2 p2 w2 => ?_⟩
    cases k with
    | false => rw [if_neg Bool.false_ne_true] at w2 ⊢; exact l.nx ρ1 S2 σ1 H2 (er1.step s1 p2) s2 (p1.trans p2) w2
    | true =>
      rw [if_pos rfl] at w2 ⊢
      obtain ⟨N, hN, w2⟩ := w2
      refine ⟨fun σ' H' => ∃ ρ' S', EnvR (kw X) H' ρ' σ' ∧ StoR (kw X) S' H' ∧ Stp S H S' H' ∧ N ρ' S', ?_, ρ1, S2, _, er1.step s1 p2, s2, w2, ?_⟩
      · rintro σ' H' ⟨ρ', S', a, b, c, d⟩
        obtain ⟨m', lt, w'⟩ := hN ρ' S' d
        exact ⟨m', lt, ρ', S', a, b, c, w'⟩
      · have pp := p1.trans p2
        exact ⟨fun ρ' S' σ' H' a b c d => ⟨ρ', S', a, b, pp.trans c, d⟩, l.rt.later pp, l.nx.later pp, fun ρ' S' σ' H' a b c d => ⟨ρ', S', a, b, pp.trans c, d⟩⟩
end
end PD

namespace PD
open PySem PySem.Spec PyProof.Rows L2

/-! ### what a loop walks: the items as they stood at its start; the store keeps them -/
structure ItD where
  ds : List D
  ok : Sto → Prop := fun _ => True
/-- what nobody changes stays -/
def Kp (H H' : Hp) : Prop := ∀ a o, H a = some o → ¬ Mut (some o) → H' a = some o
theorem Kp.refl (H : Hp) : Kp H H := fun _ _ h _ => h
theorem Kp.trans {H H1 H2 : Hp} (a : Kp H H1) (b : Kp H1 H2) : Kp H H2 := fun c o h n => b c o (a c o h n) n
theorem Stp.kp {K : KW} {S S' : Sto} {H H' : Hp} (p : Stp S H S' H') (s : StoR K S H) : Kp H H' := fun a o h n => (p a o h (s.free h n)).2
theorem SqT.kp {K : PySem.W.Frag} {H H' : Hp} (p : Kp H H') {a : Addr} {vs : List V} (h : SqT K H a vs) : SqT K H' a vs := by
  rcases h with h | h
  · rcases h with h | ⟨o, h⟩
    · exact .inl (.inl (p a _ h fun z => z))
    · exact .inl (.inr ⟨o, p a _ h fun z => z⟩)
  · exact .inr h
theorem SqF.kp {K : PySem.W.Frag} {H H' : Hp} (p : Kp H H') {a : Addr} {vs : List V} (h : SqF K H a vs) : SqF K H' a vs := by
  rcases h with ⟨o, h⟩ | h
  · exact .inl ⟨o, p a _ h fun z => z⟩
  · exact .inr h
section
variable {K : KW} {H H' : Hp}
mutual
theorem DR.kp (p : Kp H H') : ∀ (d : D) (v : V), DR K H d v → DR K H' d v
  | .non, v, h => by unfold DR at h ⊢; exact h
  | .bl b, v, h => by unfold DR at h ⊢; exact h
  | .int i, v, h => by unfold DR at h ⊢; exact h
  | .str x, v, h => by unfold DR at h ⊢; exact h
  | .tup ds, v, h => by
    unfold DR at h ⊢
    obtain ⟨a, vs, e, q, r⟩ := h
    exact ⟨a, vs, e, SqT.kp p q, DRs.kp p ds vs r⟩
  | .rl ds, v, h => by
    unfold DR at h ⊢
    obtain ⟨a, vs, e, q, r⟩ := h
    exact ⟨a, vs, e, SqF.kp p q, DRs.kp p ds vs r⟩
  | .kd ks ds, v, h => by
    unfold DR at h ⊢
    obtain ⟨a, vs, e, q, r⟩ := h
    exact ⟨a, vs, e, q, DRs.kp p ds vs r⟩
  | .ref a, v, h => by unfold DR at h ⊢; exact h
theorem DRs.kp (p : Kp H H') : ∀ (ds : List D) (vs : List V), DRs K H ds vs → DRs K H' ds vs
  | [], vs, h => by unfold DRs at h ⊢; exact h
  | d :: ds, vs, h => by
    unfold DRs at h ⊢
    obtain ⟨w, ws, e, r, t⟩ := h
    exact ⟨w, ws, e, DR.kp p d w r, DRs.kp p ds ws t⟩
end
theorem EnvR.kp (p : Kp H H') {ρ : Env} {σ : L2.St} (e : EnvR K H ρ σ) : EnvR K H' ρ σ := ⟨e.1, fun i d h => let ⟨v, a, b⟩ := e.2 i d h; ⟨v, a, DR.kp p d v b⟩⟩
end
abbrev WI := Env → Sto → (ItD → Sto → Prop) → Prop
def ItR (K : KW) (H0 : Hp) (J : It) (it : ItD) : Prop := ∀ (i : Nat) (S : Sto) (H : Hp), Kp H0 H → StoR K S H → it.ok S →
  (∀ d, it.ds[i]? = some d → J.go i H ∧ ∀ x H', J.yld i H x H' → StoR K S H' ∧ Stp S H S H' ∧ DR K H' d x) ∧ (it.ds.length ≤ i → J.stop i H)
def liftI (K : KW) (w : WI) : TI := fun σ H R => ∃ ρ S R', EnvR K H ρ σ ∧ StoR K S H ∧ w ρ S R' ∧
  ∀ it S1 J H1, StoR K S1 H1 → Stp S H S1 H1 → ItR K H1 J it → it.ok S1 → R' it S1 → R J H1
section
variable {X : Cx} {tg e : Expr} {es : List Expr} {p pos : Pos}
theorem weakI {t t' : TI} (h : PI X tg e t) (i : ∀ σ H R, t' σ H R → t σ H R) : PI X tg e t' := ⟨fun pins s σ H R I q => h.run pins s σ H R I (i σ H R q)⟩
theorem DRs.idx {K : KW} {H : Hp} {ds : List D} {vs : List V} {i : Nat} {d : D} (r : DRs K H ds vs) (e : ds[i]? = some d) {x : V} (h : vs[i]? = some x) : DR K H d x := by
  obtain ⟨v, h1, h2⟩ := r.get e
  rw [h1] at h; cases h; exact h2
theorem itr_lst {K : KW} {H0 : Hp} {l : Addr} {xs : List D} : ItR K H0 (Itl K.1 l) ⟨xs, fun S => S l = some (.lst xs)⟩ := by
  intro i S H p s ok
  obtain ⟨vs, h1, r⟩ := s l _ ok
  refine ⟨fun d e => ?_, fun hz => ⟨vs, SqL.of h1, by rw [r.length]; exact hz⟩⟩
  obtain ⟨v, h2, h3⟩ := r.get e
  refine ⟨⟨vs, v, SqL.of h1, h2⟩, fun x H' y => ?_⟩
  obtain ⟨rfl, y⟩ := y
  exact ⟨s, Stp.refl _ _, r.idx e (y vs (SqL.of h1))⟩
theorem itr_rl {K : KW} {H0 : Hp} {l : Addr} {xs : List D} {vs : List V} (h1 : SqF K.1 H0 l vs) (r : DRs K H0 xs vs) : ItR K H0 (Itl K.1 l) ⟨xs, fun _ => True⟩ := by
  intro i S H p s ok
  have h1 := SqF.kp p h1
  have r := DRs.kp p _ _ r
  refine ⟨fun d e => ?_, fun hz => ⟨vs, h1.seq, by rw [r.length]; exact hz⟩⟩
  obtain ⟨v, h2, h3⟩ := r.get e
  refine ⟨⟨vs, v, h1.seq, h2⟩, fun x H' y => ?_⟩
  obtain ⟨rfl, y⟩ := y
  exact ⟨s, Stp.refl _ _, r.idx e (y vs h1.seq)⟩
theorem itr_tup {K : KW} {H0 : Hp} {l : Addr} {xs : List D} {vs : List V} (h1 : SqT K.1 H0 l vs) (r : DRs K H0 xs vs) : ItR K H0 (Itt K.1 l) ⟨xs, fun _ => True⟩ := by
  intro i S H p s ok
  have h1 := SqT.kp p h1
  have r := DRs.kp p _ _ r
  refine ⟨fun d e => ?_, fun hz => ⟨vs, h1, by rw [r.length]; exact hz⟩⟩
  obtain ⟨v, h2, h3⟩ := r.get e
  refine ⟨⟨vs, v, h1, h2⟩, fun x H' y => ?_⟩
  obtain ⟨rfl, y⟩ := y
  exact ⟨s, Stp.refl _ _, r.idx e (y vs h1)⟩
/-- a list, a tuple, walked -/
def iVal (K : PySem.W.Frag) (tl : TE) : TI := fun σ H R => tl σ H fun x H1 => (∃ a, x = .ref a ∧ (∃ xs, SqL K H1 a xs) ∧ R (Itl K a) H1) ∨ ∃ a, x = .ref a ∧ (∃ xs, SqT K H1 a xs) ∧ R (Itt K a) H1
theorem pi_val {l : Expr} {tl : TE} (hl : PE X l tl) : PI X tg l (iVal X.K tl) := by
  refine ⟨fun pins s σ H R I h => thn (hl.run pins s σ H _ I h) fun v s1 ⟨x, H1, I1, r1, q1⟩ => ?_⟩
  rcases q1 with ⟨a, rfl, ⟨xs, hq⟩, q⟩ | ⟨a, rfl, ⟨xs, hq⟩, q⟩
  · cases r1
    obtain ⟨its, rv, pl, hz⟩ := I1.list hq
    exact wpAny_pyIter_list pl.isList (pi_one (tk := s1.toks) I1 _ (turn_list a _) ⟨_, Heap.get?_push_size _ rfl, rfl, rfl⟩ q)
  · cases r1
    obtain ⟨its, rv, pl, hz⟩ := I1.tuple hq
    exact wpAny_pyIter_tuple (show s1.heap.IsTuple a its.toArray from pl) (pi_one (tk := s1.toks) I1 _ (turn_tuple a _) ⟨_, Heap.get?_push_size _ rfl, rfl, rfl⟩ q)
def valK (d : D) (S1 : Sto) (R : ItD → Sto → Prop) : Prop := match d with
  | .tup xs => R ⟨xs, fun _ => True⟩ S1
  | .rl xs => R ⟨xs, fun _ => True⟩ S1
  | .ref l => match S1 l with
    | some (.lst xs) => R ⟨xs, fun S => S l = some (.lst xs)⟩ S1
    | _ => False
  | _ => False
theorem val_lst {S : Sto} {l : Addr} {xs : List D} {R : ItD → Sto → Prop} (h : S l = some (.lst xs)) (q : R ⟨xs, fun S => S l = some (.lst xs)⟩ S) : valK (.ref l) S R := by
  unfold valK
  simp only [h]
  exact q
def wVal (a : WE) : WI := fun ρ S R => a ρ S fun d S1 => valK d S1 R
theorem i_val {a : WE} (h : PE X e (liftE (kw X) a)) : PI X tg e (liftI (kw X) (wVal a)) :=
  weakI (pi_val h) fun σ H R ⟨ρ, S, R', er, s, w, l⟩ => by
    refine ⟨ρ, S, _, er, s, w, fun d S1 v H1 r1 s1 p1 w1 => ?_⟩
    unfold valK at w1
    split at w1
    · obtain ⟨a, vs, rfl, h1, r2⟩ := r1.tup_of
      exact .inr ⟨a, rfl, ⟨vs, h1⟩, l _ S1 _ H1 s1 p1 (itr_tup h1 r2) trivial w1⟩
    · obtain ⟨a, vs, rfl, h1, r2⟩ := r1.rl_of
      exact .inl ⟨a, rfl, ⟨vs, h1.seq⟩, l _ S1 _ H1 s1 p1 (itr_rl h1 r2) trivial w1⟩
    · rename_i a
      split at w1
      · rename_i xs e1
        obtain ⟨vs, h1, r2⟩ := s1 _ _ e1
        exact .inl ⟨a, r1.ref_of, ⟨vs, SqL.of h1⟩, l _ S1 _ H1 s1 p1 itr_lst e1 w1⟩
      · exact w1.elim
    · exact w1.elim
/-! ranges -/
def rngD (lo c : Int) (n : Nat) : List D := (List.range n).map fun (i : Nat) => D.int (lo + ((i : Nat) : Int) * c)
theorem rngD_get {lo c : Int} {n i : Nat} {d : D} (h : (rngD lo c n)[i]? = some d) : i < n ∧ d = .int (lo + i * c) := by
  unfold rngD at h
  rw [List.getElem?_map] at h
  by_cases q : i < n
  · rw [List.getElem?_range q] at h
    cases h
    exact ⟨q, rfl⟩
  · rw [List.getElem?_eq_none (by simpa using q)] at h
    cases h
theorem rngD_len {lo c : Int} {n : Nat} : (rngD lo c n).length = n := by unfold rngD; simp
theorem itr_rng {K : KW} {H0 : Hp} {lo : Int} {n : Nat} : ItR K H0 (Itr lo n) ⟨rngD lo 1 n, fun _ => True⟩ := by
  intro i S H p s ok
  refine ⟨fun d e => ?_, fun hz => by rw [rngD_len] at hz; exact hz⟩
  obtain ⟨h1, rfl⟩ := rngD_get e
  refine ⟨h1, fun x H' y => ?_⟩
  obtain ⟨rfl, rfl⟩ := y
  exact ⟨s, Stp.refl _ _, by rw [Int.mul_one]; exact DR.int⟩
theorem itr_rngC {K : KW} {H0 : Hp} {lo c : Int} {n : Nat} : ItR K H0 (Itc lo c n) ⟨rngD lo c n, fun _ => True⟩ := by
  intro i S H p s ok
  refine ⟨fun d e => ?_, fun hz => by rw [rngD_len] at hz; exact hz⟩
  obtain ⟨h1, rfl⟩ := rngD_get e
  refine ⟨h1, fun x H' y => ?_⟩
  obtain ⟨rfl, rfl⟩ := y
  exact ⟨s, Stp.refl _ _, DR.int⟩
def wRng1 (a : WE) : WI := fun ρ S R => a ρ S fun d S1 => match d with
  | .int j => -(2 ^ 62) ≤ j ∧ j < 2 ^ 62 ∧ R ⟨rngD 0 1 j.toNat, fun _ => True⟩ S1
  | _ => False
def wRng2 (a b : WE) : WI := fun ρ S R => a ρ S fun d S1 => b ρ S1 fun e S2 => match d, e with
  | .int i, .int j => (-(2 ^ 62) ≤ i ∧ i < 2 ^ 62 ∧ -(2 ^ 62) ≤ j ∧ j < 2 ^ 62) ∧ R ⟨rngD i 1 (j - i).toNat, fun _ => True⟩ S2
  | _, _ => False
def wRng3 (a b c : WE) : WI := fun ρ S R => a ρ S fun d S1 => b ρ S1 fun e S2 => c ρ S2 fun f S3 => match d, e, f with
  | .int i, .int j, .int c => ∃ n, RgC i j c n ∧ R ⟨rngD i c n, fun _ => True⟩ S3
  | _, _, _ => False
theorem i_range1 {a : Expr} {w : WE} (hg : Gl X "range") (hm : X.mg "range" = none) (ha : PE X a (liftE (kw X) w)) (hs : noStar a = true) : PI X tg (.Call (.Name "range" p) [a] [] pos) (liftI (kw X) (wRng1 w)) :=
  weakI (pi_range1 hg hm (d_cons ha d_nil (star_cons hs)) (star_cons hs)) fun σ H R ⟨ρ, S, R', er, s, w, l⟩ => by
    refine ⟨ρ, S, fun ds S1 => match ds with | [d] => (match d with | .int j => -(2 ^ 62) ≤ j ∧ j < 2 ^ 62 ∧ R' ⟨rngD 0 1 j.toNat, fun _ => True⟩ S1 | _ => False) | _ => False, er, s, w, fun ds S1 vs H1 r1 s1 p1 w1 => ?_⟩
    dsimp only at w1
    split at w1
    · obtain ⟨v, rfl, r2⟩ := r1.one
      split at w1
      · exact ⟨_, by rw [r2.int_of], w1.1, w1.2.1, l _ S1 _ H1 s1 p1 itr_rng trivial w1.2.2⟩
      · exact w1.elim
    · exact w1.elim
theorem i_range2 {a b : Expr} {w u : WE} (hg : Gl X "range") (hm : X.mg "range" = none) (ha : PE X a (liftE (kw X) w)) (hb : PE X b (liftE (kw X) u)) (hs : noStar a = true) (hs2 : noStar b = true) : PI X tg (.Call (.Name "range" p) [a, b] [] pos) (liftI (kw X) (wRng2 w u)) :=
  weakI (pi_range2 hg hm (d_cons ha (d_cons hb d_nil (star_cons hs2)) (star_cons hs)) (by rw [star_cons hs, star_cons hs2]; rfl) (star_cons hs2)) fun σ H R ⟨ρ, S, R', er, s, w, l⟩ => by
    refine ⟨ρ, S, fun ds S1 => match ds with | [d, e] => (match d, e with | .int i, .int j => (-(2 ^ 62) ≤ i ∧ i < 2 ^ 62 ∧ -(2 ^ 62) ≤ j ∧ j < 2 ^ 62) ∧ R' ⟨rngD i 1 (j - i).toNat, fun _ => True⟩ S1 | _, _ => False) | _ => False, er, s, w, fun ds S1 vs H1 r1 s1 p1 w1 => ?_⟩
    dsimp only at w1
    split at w1
    · obtain ⟨v, u, rfl, r2, r3⟩ := r1.two
      split at w1
      · exact ⟨_, _, by rw [r2.int_of, r3.int_of], w1.1, l _ S1 _ H1 s1 p1 itr_rng trivial w1.2⟩
      · exact w1.elim
    · exact w1.elim
/-! the keys of a written dict -/
theorem dicW_inv {K : PySem.W.Frag} {P : Params} {a : Addr} {ks : List Str} (h : He.dicW K a = some (He.keysIn P ks)) :
    ∃ es n, K.lookup a = some ⟨.type "dict", none, .dict es n, #[]⟩ ∧ (a == sysModules) = false ∧ es.toList.map He.keyOf = He.keysIn P ks := by
  unfold He.dicW at h
  split at h
  · rename_i c es n sl q
    split at h
    · rename_i z
      rw [Bool.and_eq_true, Bool.and_eq_true] at z
      obtain ⟨z1, z2, z3⟩ := z
      have e1 := of_decide_eq_true z1
      have e2 := Array.isEmpty_iff.mp z2
      subst e1; subst e2
      exact ⟨es, n, q, by simpa using z3, Option.some.inj h⟩
    · cases h
  · cases h
def Itw (ks : List Str) : It := ⟨fun i _ => i < ks.length, fun i H x H' => H' = H ∧ ∃ k, ks[i]? = some k ∧ x = .str k, fun i _ => ks.length ≤ i⟩
theorem key_at {P : Params} {l : List DictEntry} {ks : List Str} {i : Nat} {k : Str} (h : l.map He.keyOf = He.keysIn P ks) (hk : ks[i]? = some k) : ∃ en t, l[i]? = some en ∧ en.key = .str k t := by
  have z : (l.map He.keyOf)[i]? = (He.keysIn P ks)[i]? := by rw [h]
  unfold He.keysIn at z
  rw [List.getElem?_map, List.getElem?_map, hk] at z
  cases q : l[i]? with
  | none => rw [q] at z; cases z
  | some en =>
    rw [q] at z
    have z := Option.some.inj z
    unfold He.keyOf at z
    split at z
    · rename_i x t e
      have z := (Prod.mk.inj (Option.some.inj z)).1
      subst z
      exact ⟨en, t, rfl, e⟩
    · cases z
theorem turn_keysW {P : Program} {w : World} {K : PySem.W.Frag} {tg : Expr} {a : Addr} {ks : List Str} {es : Array DictEntry} {n : Nat} (it : Addr) (hK : K.lookup a = some ⟨.type "dict", none, .dict es n, #[]⟩) (hk : es.toList.map He.keyOf = He.keysIn w.params ks) :
    Turn P w K tg (Itw ks) [it] it (fun i h => h.IsKeyIter it a i es.size n) where
  mem := by simp
  obj := fun i h st b hb => by
    have e : b = it := by simpa using hb
    subst e
    obtain ⟨oi, e, c, dd⟩ := st
    exact ⟨oi, e, fun v z => by rw [dd] at z; cases z⟩
  keep := fun i h h' st k => st.at fun oi e => k it (by simp) oi e
  item := by
    intro X hP hw hKX hc i pins s σ H E I hf st hg
    subst hP hw hKX
    obtain ⟨f0, f1, f2, f3, f4, f5⟩ := hf it (by simp)
    obtain ⟨k, hkv⟩ : ∃ p, ks[i]? = some p := ⟨ks[i], List.getElem?_eq_getElem hg⟩
    obtain ⟨en, t, h1, h2⟩ := key_at hk hkv
    have h1' : es[i]? = some en := by rw [← Array.getElem?_toList]; exact h1
    refine next_key_item st (I.kIn _ _ hK) rfl rfl h1' fun h' st' sb => ?_
    have I1 : Inv X pins σ H { s with heap := h' } := I.turned (t' := s.toks) (fun b ob hb e => (sb.2 b hb).trans e) f0 f1 f3 f4 f5
    obtain ⟨oi, e, c, dd⟩ := id st'
    exact ⟨en.key, rfl, go_of (s := { s with heap := h' }) e c dd (by decide) ⟨.str k, H, I1, by rw [h2]; exact ⟨t, rfl⟩, ⟨rfl, k, hkv, rfl⟩, st', fun b hb => (hf b hb).1⟩⟩
  done := by
    intro X hP hw hKX hc i pins s σ H E I hf st hg
    subst hP hw hKX
    obtain ⟨f0, f1, f2, f3, f4, f5⟩ := hf it (by simp)
    have hl : es.size = ks.length := by
      have z := congrArg List.length hk
      unfold He.keysIn at z
      simpa using z
    exact next_key_end (I.ok.hd hc) st (I.kIn _ _ hK) rfl rfl (by rw [hl]; exact hg) fun h' eb => ⟨rfl, I.turned (t' := s.toks) (fun b ob hb e => eb b ob hb e) f0 f1 f3 f4 f5⟩
  self := fun A i s Q E st h => wpAny_pyIter_keyiter st h
theorem itr_keysW {K : KW} {H0 : Hp} {ks : List Str} : ItR K H0 (Itw ks) ⟨ks.map D.str, fun _ => True⟩ := by
  intro i S H p s ok
  refine ⟨fun d e => ?_, fun hz => by rw [List.length_map] at hz; exact hz⟩
  rw [List.getElem?_map] at e
  cases q : ks[i]? with
  | none => rw [q] at e; cases e
  | some k =>
    rw [q] at e; cases e
    refine ⟨(List.getElem?_eq_some_iff.mp q).1, fun x H' y => ?_⟩
    obtain ⟨rfl, k', h1, rfl⟩ := y
    rw [q] at h1; cases h1
    exact ⟨s, Stp.refl _ _, DR.str⟩
def wKeys (ks : List Str) : WI := fun _ S R => R ⟨ks.map D.str, fun _ => True⟩ S
theorem i_keysW {a : Addr} {ks : List Str} (he : PE X e (tC (.ref a))) (h : He.dicW X.K a = some (He.keysIn X.w.params ks)) : PI X tg e (liftI (kw X) (wKeys ks)) := by
  obtain ⟨es, n, h1, h2, h3⟩ := dicW_inv h
  refine ⟨fun pins s σ H R I ⟨ρ, S, R', er, s0, w, l⟩ => ?_⟩
  refine thn (he.run pins s σ H (fun v H' => v = .ref a ∧ H' = H) I ⟨rfl, rfl⟩) fun u s1 ⟨x, H1, I1, rx, e1, e2⟩ => ?_
  subst e1; subst e2
  cases rx
  exact iter_keys h2 (I1.kIn _ _ h1) ⟨rfl, rfl, rfl⟩ rfl (pi_one (tk := s1.toks) I1 _ (turn_keysW _ h1 h3) ⟨_, Heap.get?_push_size _ rfl, rfl, rfl⟩ (l _ S _ H1 s0 (Stp.refl _ _) itr_keysW trivial w))
end

/-! ### for -/
def loopD (ok : Sto → Prop) (t : Tg) (b : WS) : List D → WS
  | [] => fun D ρ S => D.nx ρ S
  | d :: ds => fun D ρ S => ∃ ρ1, asg S t d ρ = some ρ1 ∧ ∃ N : Env → Sto → Prop, (∀ ρ' S', N ρ' S' → ok S' ∧ loopD ok t b ds D ρ' S') ∧ b { D with nx := N, ct := N, bk := D.nx } ρ1 S
def wFor (wi : WI) (t : Tg) (b : WS) : WS := fun D ρ S => wi ρ S fun it S1 => loopD it.ok t b it.ds D ρ S1
theorem drop_cons {α : Type} {l : List α} {i : Nat} {d : α} (h : l[i]? = some d) : l.drop i = d :: l.drop (i + 1) := by
  have hi : i < l.length := by
    rcases Nat.lt_or_ge i l.length with z | z
    · exact z
    · rw [List.getElem?_eq_none z] at h; cases h
  rw [List.drop_eq_getElem_cons hi]
  rw [List.getElem?_eq_getElem hi] at h
  cases h
  rfl
section
variable {X : Cx} {tg iter : Expr} {pos : Pos}
theorem s_for {body : List Stmt} {wi : WI} {t : Tg} {b : WS} (hp : PassesOwn (model X.prog X.w) X.A X.env X.xe) (hc : X.calm = true) (hi : PI X tg iter (liftI (kw X) wi)) (hg : PGD X tg t) (hb : PSs X body (liftS (kw X) b))
    (hs : ∀ x, foldedSetIterable iter X.env x = pure x) : PS X (.For tg iter body [] pos) (liftS (kw X) (wFor wi t b)) :=
  weakS (ps_for hp hc hi hg.g hb hs) fun D' σ H ⟨ρ, S, D, er, s, w, l⟩ => by
    refine ⟨ρ, S, _, er, s, w, fun it S1 J H1 s1 p1 ir ok w1 => ?_⟩
    refine ⟨fun i m σ' H' => i ≤ it.ds.length ∧ m = it.ds.length - i ∧ ∃ ρ' S', EnvR (kw X) H' ρ' σ' ∧ StoR (kw X) S' H' ∧ Stp S1 H1 S' H' ∧ it.ok S' ∧ loopD it.ok t b (it.ds.drop i) D ρ' S', ⟨_, Nat.zero_le _, rfl, ρ, S1, er.step s p1, s1, Stp.refl _ _, ok, w1⟩, ?_⟩
    rintro i m σ2 H2 ⟨hi, rfl, ρ2, S2, er2, s2, p2, ok2, w2⟩
    obtain ⟨go, stop⟩ := ir i S2 H2 (p2.kp s1) s2 ok2
    by_cases hlt : i < it.ds.length
    · obtain ⟨d, e⟩ : ∃ d, it.ds[i]? = some d := ⟨_, List.getElem?_eq_getElem hlt⟩
      rw [drop_cons e] at w2
      obtain ⟨ρ3, ea, N, hN, w3⟩ := w2
      obtain ⟨g1, g2⟩ := go d e
      refine .inr ⟨g1, fun σ' H' => ∃ ρ' S', EnvR (kw X) H' ρ' σ' ∧ StoR (kw X) S' H' ∧ Stp S1 H1 S' H' ∧ N ρ' S', ?_, fun x H3 y => ?_⟩
      · rintro σ' H' ⟨ρ', S', a1, a2, a3, a4⟩
        obtain ⟨k1, k2⟩ := hN ρ' S' a4
        exact ⟨it.ds.length - (i + 1), by omega, hlt, rfl, ρ', S', a1, a2, a3, k1, k2⟩
      · obtain ⟨s3, p3, r3⟩ := g2 x H3 y
        refine asg_ok s3 t (er2.step s2 p3) r3 ea fun σ4 e4 _ => ?_
        have pp : Stp S1 H1 S2 H3 := p2.trans p3
        have lp : Stp S H S2 H3 := p1.trans pp
        exact ⟨ρ3, S2, _, e4, s3, w3, ⟨fun ρ' S' σ' H' a b c d => ⟨ρ', S', a, b, pp.trans c, d⟩, l.rt.later lp, l.nx.later lp, fun ρ' S' σ' H' a b c d => ⟨ρ', S', a, b, pp.trans c, d⟩⟩⟩
    · have e : i = it.ds.length := by omega
      subst e
      rw [List.drop_length] at w2
      exact .inl ⟨stop (Nat.le_refl _), l.nx ρ2 S2 σ2 H2 er2 s2 (p1.trans p2) w2⟩

/-! ### [e for t in ..] -/
def compD (ok : Sto → Prop) (t : Tg) (tt : WT) (te : WE) (ρ : Env) : List D → List D → Sto → (List D → Sto → Prop) → Prop
  | [], acc, S, Q => Q acc S
  | d :: ds, acc, S, Q => ∃ ρ1, asg S t d ρ = some ρ1 ∧ ∃ N : List D → Sto → Prop, (∀ acc' S', N acc' S' → ok S' ∧ compD ok t tt te ρ ds acc' S' Q) ∧
      tt ρ1 S fun b S1 => if b = true then te ρ1 S1 fun y S2 => acc.length < sizeLine ∧ N (acc ++ [y]) S2 else N acc S1
def wLc (wi : WI) (t : Tg) (tt : WT) (te : WE) (vs : List Nat) : WE := fun ρ S Q => wi ρ S fun it S1 => compD it.ok t tt te (wipeD ρ vs) it.ds [] S1 fun acc S2 => newK S2 (.lst acc) Q
structure PTD (X : Cx) (ifs : List Expr) (w : WT) : Prop where
  t : PTs X ifs (liftT (kw X) w)
def wYes : WT := fun _ S Q => Q true S
theorem t_nil : PTD X [] wYes := ⟨⟨fun pins s σ H Q I ⟨ρ, S, Q0, er, s1, w, l⟩ => pts_nil.run pins s σ H Q I (l true S H s1 (Stp.refl _ _) w)⟩⟩
theorem t_one {c : Expr} {w : WT} (h : PT X c (liftT (kw X) w)) : PTD X [c] w := ⟨pts_one h⟩
theorem wp_idem_of {σ : L2.St} {vs : List Nat} : ∀ us : List Nat, (∀ i ∈ us, i ∈ vs) → wipe (wipe σ us) vs = wipe σ vs
  | [], _ => rfl
  | u :: us, h => by
    show wipe ((wipe σ us).set u none) vs = _
    rw [wipe_set (h u List.mem_cons_self)]
    exact wp_idem_of us fun i hi => h i (List.mem_cons_of_mem _ hi)
theorem wp_idem {σ : L2.St} {vs : List Nat} : wipe (wipe σ vs) vs = wipe σ vs := wp_idem_of vs fun _ h => h
/-- the state of a comprehension between two turns: the list at L grows, the store does not hold it -/
def Grow (K : KW) (L : Addr) (Sb : Sto) (Hb : Hp) (H' : Hp) (acc : List D) (S' : Sto) : Prop := ∃ accV, H' L = some (.lst accV) ∧ S' L = none ∧ StoR K S' H' ∧ Stp Sb Hb S' H' ∧ DRs K H' acc accV
theorem Grow.on {K : KW} {L : Addr} {Sb : Sto} {Hb H2 H3 : Hp} {acc : List D} {S2 S3 : Sto} (g : Grow K L Sb Hb H2 acc S2) (s : StoR K S3 H3) (p : Stp S2 H2 S3 H3) : Grow K L Sb Hb H3 acc S3 := by
  obtain ⟨av, h1, h2, h3, h4, h5⟩ := g
  exact ⟨av, (p L _ h1 h2).2, (p L _ h1 h2).1, s, h4.trans p, DRs.step h3 p _ _ h5⟩
theorem Grow.add {K : KW} {L : Addr} {Sb : Sto} {Hb H6 : Hp} {acc : List D} {S6 : Sto} (nL : Hb L = none) (g : Grow K L Sb Hb H6 acc S6) {y : D} {v : V} (r : DR K H6 y v) : ∃ accV, H6 L = some (.lst accV) ∧ accV.length = acc.length ∧ Grow K L Sb Hb (upd H6 L (.lst (accV ++ [v]))) (acc ++ [y]) S6 ∧ Kp H6 (upd H6 L (.lst (accV ++ [v]))) := by
  obtain ⟨accV, h1, h2, h3, h4, h5⟩ := g
  have kp : Kp H6 (upd H6 L (.lst (accV ++ [v]))) := fun b o hb nm => by
    have ne : b ≠ L := fun e => by rw [e, h1] at hb; cases hb; exact nm trivial
    rw [upd_ne ne]; exact hb
  refine ⟨accV, h1, h5.length, ⟨accV ++ [v], upd_same, h2, fun b o eb => ?_, fun b o hb z => ?_, DRs.append (DRs.kp kp _ _ h5) (DRs.cons (DR.kp kp _ _ r) DRs.nil)⟩, kp⟩
  · have ne : b ≠ L := fun e => by rw [e, h2] at eb; cases eb
    have z := h3 b o eb
    cases o with
    | lst ds => obtain ⟨vs, a1, a2⟩ := z; exact ⟨vs, by rw [upd_ne ne]; exact a1, DRs.kp kp _ _ a2⟩
    | dK ds => obtain ⟨vs, a1, a2, a3⟩ := z; exact ⟨vs, by rw [upd_ne ne]; exact a1, a2, DRs.kp kp _ _ a3⟩
  · have ne : b ≠ L := fun e => by rw [e, nL] at hb; cases hb
    have z2 := h4 b o hb z
    exact ⟨z2.1, by rw [upd_ne ne]; exact z2.2⟩
theorem Grow.kp {K : KW} {L : Addr} {Sb : Sto} {Hb H2 H3 : Hp} {acc : List D} {S2 S3 : Sto} (g : Grow K L Sb Hb H2 acc S2) (p : Stp S2 H2 S3 H3) : Kp H2 H3 := by
  obtain ⟨av, h1, h2, h3, h4, h5⟩ := g
  exact p.kp h3
theorem comp_loop {K : KW} {t : Tg} {tt : WT} {te : WE} {vs : List Nat} (hv : ∀ i ∈ t.ix, i ∈ vs) {ρ : Env} {σ : L2.St} {L : Addr} {Sb : Sto} {Hb Hk : Hp} {J : It} {it : ItD} (nL : Hb L = none) (ir : ItR K Hk J it) (er : EnvR K Hk ρ σ)
    {Qe : List D → Sto → Prop} {Qh : Hp → Prop} (fin : ∀ H' acc S', Kp Hk H' → Grow K L Sb Hb H' acc S' → Qe acc S' → Qh H') {H0 : Hp} {acc0 : List D} {S0 : Sto} (k0 : Kp Hk H0) (g0 : Grow K L Sb Hb H0 acc0 S0) (ok0 : it.ok S0)
    (w0 : compD it.ok t tt te (wipeD ρ vs) it.ds acc0 S0 Qe) :
    ∃ W : Nat → Nat → Hp → Prop, (∃ m, W 0 m H0) ∧ ∀ i m H, W i m H → (J.stop i H ∧ Qh H) ∨ (J.go i H ∧ ∃ Nx : Hp → Prop, (∀ H', Nx H' → ∃ m', m' < m ∧ W (i + 1) m' H') ∧ ∀ x H', J.yld i H x H' →
      hG K.1 t x (wipe σ vs) H' fun σ2 H2 => wipe σ2 vs = wipe σ vs ∧ liftT K tt σ2 H2 fun b H3 => if b = true then liftE K te σ2 H3 fun y H4 => ∃ acc, H4 L = some (.lst acc) ∧ acc.length < sizeLine ∧ Nx (upd H4 L (.lst (acc ++ [y]))) else Nx H3) := by
  refine ⟨fun i m H' => i ≤ it.ds.length ∧ m = it.ds.length - i ∧ ∃ acc S', Kp Hk H' ∧ Grow K L Sb Hb H' acc S' ∧ it.ok S' ∧ compD it.ok t tt te (wipeD ρ vs) (it.ds.drop i) acc S' Qe, ⟨_, Nat.zero_le _, rfl, acc0, S0, k0, g0, ok0, w0⟩, ?_⟩
  rintro i m H2 ⟨hi, rfl, acc, S2, k2, gr, ok2, w2⟩
  have s2 : StoR K S2 H2 := by obtain ⟨_, _, _, h3, _⟩ := gr; exact h3
  obtain ⟨go, stop⟩ := ir i S2 H2 k2 s2 ok2
  by_cases hlt : i < it.ds.length
  · obtain ⟨d, e⟩ : ∃ d, it.ds[i]? = some d := ⟨_, List.getElem?_eq_getElem hlt⟩
    rw [drop_cons e] at w2
    obtain ⟨ρ3, ea, N, hN, w3⟩ := w2
    obtain ⟨g1, g2⟩ := go d e
    refine .inr ⟨g1, fun H' => ∃ acc S', Kp Hk H' ∧ Grow K L Sb Hb H' acc S' ∧ N acc S', ?_, fun x H3 y => ?_⟩
    · rintro H' ⟨acc', S', a1, a2, a4⟩
      obtain ⟨k1, k2⟩ := hN acc' S' a4
      exact ⟨it.ds.length - (i + 1), by omega, hlt, rfl, acc', S', a1, a2, k1, k2⟩
    · obtain ⟨s3, p3, r3⟩ := g2 x H3 y
      have k3 := k2.trans (gr.kp p3)
      have er3 := (er.wipe vs).kp k3
      have gr3 := gr.on s3 p3
      refine asg_ok s3 t er3 r3 ea fun σ4 e4 wp => ⟨by rw [wp vs hv]; exact wp_idem, ?_⟩
      refine ⟨ρ3, S2, _, e4, s3, w3, fun b S5 H5 s5 p5 w5 => ?_⟩
      have k5 := k3.trans (gr3.kp p5)
      have gr5 := gr3.on s5 p5
      cases b with
      | false =>
        rw [if_neg Bool.false_ne_true] at w5
        show ∃ acc S', Kp Hk H5 ∧ Grow K L Sb Hb H5 acc S' ∧ N acc S'
        exact ⟨acc, S5, k5, gr5, w5⟩
      | true =>
        rw [if_pos rfl] at w5
        show liftE K te σ4 H5 _
        refine ⟨ρ3, S5, _, e4.kp (gr3.kp p5), s5, w5, fun y S6 v H6 r6 s6 p6 w6 => ?_⟩
        obtain ⟨accV, a1, a2, a3, a4⟩ := (gr5.on s6 p6).add nL r6
        exact ⟨accV, a1, by rw [a2]; exact w6.1, acc ++ [y], S6, (k5.trans (gr5.kp p6)).trans a4, a3, w6.2⟩
  · have e : i = it.ds.length := by omega
    subst e
    rw [List.drop_length] at w2
    exact .inl ⟨stop (Nat.le_refl _), fin H2 acc S2 k2 gr w2⟩
theorem grow_start {K : KW} {L : Addr} {S1 : Sto} {H1 : Hp} (nL : H1 L = none) (s1 : StoR K S1 H1) : Grow K L S1 H1 (upd H1 L (.lst [])) [] S1 := ⟨[], upd_same, s1.none nL, s1.newH nL, Stp.newH nL, DRs.nil⟩
theorem grow_end {K : KW} {L : Addr} {S1 S : Sto} {H1 H H2 : Hp} {Q : KD} {Q' : VK} {acc : List D} {S2 : Sto} (l : Lk K S H Q Q') (p1 : Stp S H S1 H1) (nL : H1 L = none) (g : Grow K L S1 H1 H2 acc S2) (q : newK S2 (.lst acc) Q) : Q' (.ref L) H2 := by
  obtain ⟨accV, hL, nS, s2, p2, ra⟩ := g
  have sx : StoR K (put S2 L (.lst acc)) H2 := fun b o eb => by
    by_cases q : b = L
    · subst q; rw [put_same] at eb; cases eb; exact ⟨accV, hL, ra⟩
    · rw [put_ne q] at eb; exact s2 b o eb
  refine l _ _ _ _ DR.ref sx (p1.trans fun b o hb z => ?_) (q.at nS)
  have ne : b ≠ L := fun e => by rw [e, nL] at hb; cases hb
  have z2 := p2 b o hb z
  exact ⟨by rw [put_ne ne]; exact z2.1, z2.2⟩
theorem allIx {t : Tg} {vs : List Nat} (hv : t.ix.all (fun i => decide (i ∈ vs)) = true) : ∀ i ∈ t.ix, i ∈ vs := fun i hi => of_decide_eq_true (List.all_eq_true.mp hv i hi)
theorem lift_lc {K : KW} {wi : WI} {t : Tg} {tt : WT} {te : WE} {vs : List Nat} (hv : t.ix.all (fun i => decide (i ∈ vs)) = true) {σ : L2.St} {H : Hp} {Q' : VK} (h : liftE K (wLc wi t tt te vs) σ H Q') : tLc (liftI K wi) (hG K.1 t) (liftT K tt) (liftE K te) vs σ H Q' := by
  obtain ⟨ρ, S, Q, er, s, w, l⟩ := h
  refine ⟨ρ, S, _, er, s, w, fun it S1 J H1 s1 p1 ir ok w1 => ?_⟩
  intro L nL
  exact comp_loop (allIx hv) nL ir (er.step s p1) (fun H' acc S' _ g q => grow_end l p1 nL g q) ((Stp.newH (S := S1) nL).kp s1) (grow_start nL s1) ok w1
/-- two fors -/
def compD2 (ok : Sto → Prop) (t : Tg) (tt : WT) (wi1 : WI) (t1 : Tg) (tt1 : WT) (te : WE) (vs1 : List Nat) (ρ : Env) : List D → List D → Sto → (List D → Sto → Prop) → Prop
  | [], acc, S, Q => Q acc S
  | d :: ds, acc, S, Q => ∃ ρ1, asg S t d ρ = some ρ1 ∧ ∃ N : List D → Sto → Prop, (∀ acc' S', N acc' S' → ok S' ∧ compD2 ok t tt wi1 t1 tt1 te vs1 ρ ds acc' S' Q) ∧
      tt ρ1 S fun b S1 => if b = true then wi1 ρ1 S1 fun it1 S2 => compD it1.ok t1 tt1 te (wipeD ρ1 vs1) it1.ds acc S2 N else N acc S1
def wLc2 (wi : WI) (t : Tg) (tt : WT) (wi1 : WI) (t1 : Tg) (tt1 : WT) (te : WE) (vs vs1 : List Nat) : WE := fun ρ S Q => wi ρ S fun it S1 => compD2 it.ok t tt wi1 t1 tt1 te vs1 (wipeD ρ vs) it.ds [] S1 fun acc S2 => newK S2 (.lst acc) Q
theorem lift_lc2 {K : KW} {wi wi1 : WI} {t t1 : Tg} {tt tt1 : WT} {te : WE} {vs vs1 : List Nat} (hv : t.ix.all (fun i => decide (i ∈ vs)) = true) (hv1 : t1.ix.all (fun i => decide (i ∈ vs1)) = true) {σ : L2.St} {H : Hp} {Q' : VK} (h : liftE K (wLc2 wi t tt wi1 t1 tt1 te vs vs1) σ H Q') :
    tLc2 (liftI K wi) (hG K.1 t) (liftT K tt) (liftI K wi1) (hG K.1 t1) (liftT K tt1) (liftE K te) vs vs1 σ H Q' := by
  obtain ⟨ρ, S, Q, er, s, w, l⟩ := h
  refine ⟨ρ, S, _, er, s, w, fun it S1 J H1 s1 p1 ir ok w1 => ?_⟩
  intro L nL
  refine ⟨fun i m H' => i ≤ it.ds.length ∧ m = it.ds.length - i ∧ ∃ acc S', Kp H1 H' ∧ Grow K L S1 H1 H' acc S' ∧ it.ok S' ∧ compD2 it.ok t tt wi1 t1 tt1 te vs1 (wipeD ρ vs) (it.ds.drop i) acc S' fun acc S2 => newK S2 (.lst acc) Q,
    ⟨_, Nat.zero_le _, rfl, [], S1, (Stp.newH (S := S1) nL).kp s1, grow_start nL s1, ok, w1⟩, ?_⟩
  rintro i m H2 ⟨hi, rfl, acc, S2, k2, gr, ok2, w2⟩
  have s2 : StoR K S2 H2 := by obtain ⟨_, _, _, h3, _⟩ := gr; exact h3
  obtain ⟨go, stop⟩ := ir i S2 H2 k2 s2 ok2
  by_cases hlt : i < it.ds.length
  · obtain ⟨d, e⟩ : ∃ d, it.ds[i]? = some d := ⟨_, List.getElem?_eq_getElem hlt⟩
    rw [drop_cons e] at w2
    obtain ⟨ρ3, ea, N, hN, w3⟩ := w2
    obtain ⟨g1, g2⟩ := go d e
    refine .inr ⟨g1, fun H' => ∃ acc S', Kp H1 H' ∧ Grow K L S1 H1 H' acc S' ∧ N acc S', ?_, fun x H3 y => ?_⟩
    · rintro H' ⟨acc', S', a1, a2, a4⟩
      obtain ⟨k1, k2⟩ := hN acc' S' a4
      exact ⟨it.ds.length - (i + 1), by omega, hlt, rfl, acc', S', a1, a2, k1, k2⟩
    · obtain ⟨s3, p3, r3⟩ := g2 x H3 y
      have k3 := k2.trans (gr.kp p3)
      have er3 := ((er.step s p1).wipe vs).kp k3
      have gr3 := gr.on s3 p3
      refine asg_ok s3 t er3 r3 ea fun σ4 e4 wp => ⟨by rw [wp vs (allIx hv)]; exact wp_idem, ?_⟩
      refine ⟨ρ3, S2, _, e4, s3, w3, fun b S5 H5 s5 p5 w5 => ?_⟩
      have k5 := k3.trans (gr3.kp p5)
      have gr5 := gr3.on s5 p5
      have e5 := e4.kp (gr3.kp p5)
      cases b with
      | false =>
        rw [if_neg Bool.false_ne_true] at w5
        show ∃ acc S', Kp H1 H5 ∧ Grow K L S1 H1 H5 acc S' ∧ N acc S'
        exact ⟨acc, S5, k5, gr5, w5⟩
      | true =>
        rw [if_pos rfl] at w5
        show liftI K wi1 σ4 H5 _
        refine ⟨ρ3, S5, _, e5, s5, w5, fun it1 S6 J1 H6 s6 p6 ir1 ok1 w6 => ?_⟩
        exact comp_loop (allIx hv1) nL ir1 (e5.step s5 p6) (fun H' acc S' k g q => ⟨acc, S', (k5.trans (gr5.kp p6)).trans k, g, q⟩) (Kp.refl H6) (gr5.on s6 p6) ok1 w6
  · have e : i = it.ds.length := by omega
    subst e
    rw [List.drop_length] at w2
    exact .inl ⟨stop (Nat.le_refl _), grow_end l p1 nL gr w2⟩
end
end PD

namespace PD
open PySem PySem.Spec PyProof.Rows L2

/-! ### comprehensions -/
abbrev Cx.bl (X : Cx) (s : Shared) (H : Hp) (scope : Scope) (C : Addr) (cl : List (Str × Addr)) (fp : List Addr) : Cx := X.blk s H scope (compEnvC scope cl C X.env) fp
section
variable {X : Cx} {elt tg iter tg1 iter1 : Expr} {ifs ifs1 : List Expr} {scope : Scope} {own : List (Str × Nat)} {pos spos py : Pos} {wi wi1 : WI} {t t1 : Tg} {tt tt1 : WT} {te : WE} {vs1 : List Nat} {i : Nat} {y : Str}
theorem d_lc (hc : X.calm = true) (hN : X.N.Nodup) (hi : PI X tg iter (liftI (kw X) wi)) (ok : blkC X.N X.env.scope scope own = true) (hv : t.ix.all (fun i => decide (i ∈ own.map (·.2))) = true)
    (hg : ∀ s H C cl fp, PGD (Cx.bl X s H scope C cl fp) tg t) (ht : ∀ s H C cl fp, PTD (Cx.bl X s H scope C cl fp) ifs tt) (he : ∀ s H C cl fp, PE (Cx.bl X s H scope C cl fp) elt (liftE (kw X) te))
    (hs : ∀ x, foldedSetIterable iter X.env x = pure x) : PE X (.ListComp elt [⟨tg, iter, ifs, 0⟩] scope pos) (liftE (kw X) (wLc wi t tt te (own.map (·.2)))) :=
  weakE (pe_lc hc hN hi (blkOk_by ok) (fun s H C cl fp => (hg s H C cl fp).g) (fun s H C cl fp => (ht s H C cl fp).t) he hs) fun σ H Q' h => lift_lc hv h
theorem d_lc2 (hc : X.calm = true) (hN : X.N.Nodup) (hi : PI X tg iter (liftI (kw X) wi)) (ok : blkC X.N X.env.scope scope own = true) (hv : t.ix.all (fun i => decide (i ∈ own.map (·.2))) = true) (hv1 : t1.ix.all (fun i => decide (i ∈ vs1)) = true) (hv2 : vs1.all (fun i => decide (i ∈ own.map (·.2))) = true)
    (hg : ∀ s H C cl fp, PGD (Cx.bl X s H scope C cl fp) tg t) (ht : ∀ s H C cl fp, PTD (Cx.bl X s H scope C cl fp) ifs tt) (hi1 : ∀ s H C cl fp, PI (Cx.bl X s H scope C cl fp) tg1 iter1 (liftI (kw X) wi1))
    (hg1 : ∀ s H C cl fp, PGD (Cx.bl X s H scope C cl fp) tg1 t1) (ht1 : ∀ s H C cl fp, PTD (Cx.bl X s H scope C cl fp) ifs1 tt1) (he : ∀ s H C cl fp, PE (Cx.bl X s H scope C cl fp) elt (liftE (kw X) te))
    (hs : ∀ x, foldedSetIterable iter X.env x = pure x) (hs1 : ∀ env x, foldedSetIterable iter1 env x = pure x) : PE X (.ListComp elt [⟨tg, iter, ifs, 0⟩, ⟨tg1, iter1, ifs1, 0⟩] scope pos) (liftE (kw X) (wLc2 wi t tt wi1 t1 tt1 te (own.map (·.2)) vs1)) :=
  weakE (pe_lc2 hc hN hi (blkOk_by ok) (fun i h => of_decide_eq_true (List.all_eq_true.mp hv2 i h)) (fun s H C cl fp => (hg s H C cl fp).g) (fun s H C cl fp => (ht s H C cl fp).t) hi1 (fun s H C cl fp => (hg1 s H C cl fp).g) (fun s H C cl fp => (ht1 s H C cl fp).t) he hs hs1) fun σ H Q' h => lift_lc2 hv hv1 h
theorem s_setLc (hc : X.calm = true) (hN : X.N.Nodup) (hy : X.N[i]? = some y) (hyl : X.env.scope.names.lookup y = some .local) (hsw : swapsWith (.ListComp elt [⟨tg, iter, ifs, 0⟩] scope pos) (some (.Name y py)) spos.line X.env = pure true)
    (hi : PI X tg iter (liftI (kw X) wi)) (ok : blkC X.N X.env.scope scope own = true) (hv : t.ix.all (fun i => decide (i ∈ own.map (·.2))) = true)
    (hg : ∀ s H C cl fp, PGD (Cx.bl X s H scope C cl fp) tg t) (ht : ∀ s H C cl fp, PTD (Cx.bl X s H scope C cl fp) ifs tt) (he : ∀ s H C cl fp, PE (Cx.bl X s H scope C cl fp) elt (liftE (kw X) te))
    (hs : ∀ x, foldedSetIterable iter X.env x = pure x) : PS X (.Assign [.Name y py] (.ListComp elt [⟨tg, iter, ifs, 0⟩] scope pos) spos) (liftS (kw X) (wAsg (wLc wi t tt te (own.map (·.2))) (.nm i))) :=
  weakS (ps_setLc hc hN hy hyl hsw hi (blkOk_by ok) (fun s H C cl fp => (hg s H C cl fp).g) (fun s H C cl fp => (ht s H C cl fp).t) he hs) fun D' σ H h => by
    have z := lift_asg h
    unfold hG at z
    obtain ⟨ρ, S, Q, er, s, w, l⟩ := z
    exact lift_lc hv ⟨ρ, S, Q, er, s, w, l⟩
end

/-! ### names of the module -/
structure GD (K : PySem.W.Frag) (w : World) (mg : Str → Option Value) (x : Str) (d : D) : Prop where
  ex : ∃ u v, mg x = some u ∧ RelV v u ∧ ∀ H, DR (K, w) H d v
theorem d_glo {X : Cx} {x : Str} {d : D} {p : Pos} (g : GD X.K X.w X.mg x d) (hg : Gl X x) (hd : (x == ("__debug__" : Str)) = false) : PE X (.Name x p) (liftE (kw X) (wC d)) := by
  obtain ⟨u, v, h1, h2, h3⟩ := g.ex
  exact d_c (pe_glob hg h1 h2 hd) h3
/-- a written dict whose keys one walks -/
structure GK (K : PySem.W.Frag) (w : World) (mg : Str → Option Value) (x : Str) (ks : List Str) : Prop where
  ex : ∃ a, mg x = some (.ref a) ∧ He.dicW K a = some (He.keysIn w.params ks)
theorem i_glo {X : Cx} {tg : Expr} {x : Str} {ks : List Str} {p : Pos} (g : GK X.K X.w X.mg x ks) (hg : Gl X x) (hd : (x == ("__debug__" : Str)) = false) : PI X tg (.Name x p) (liftI (kw X) (wKeys ks)) := by
  obtain ⟨a, h1, h2⟩ := g.ex
  exact i_keysW (pe_glob hg h1 rfl hd) h2
theorem d_ty {X : Cx} {x : Str} {p : Pos} {t : Ty} (hg : Gl X x) (hm : X.mg x = none) (hv : bootBuiltins x = some (.type t.nm)) (hn : x ≠ "__name__") (hd : (x == ("__debug__" : Str)) = false) (ht : t ≠ .non) : IsTy X (.Name x p) t :=
  ⟨pe_bltn hg hm hv rfl hn hd, rfl, ht⟩

/-! ### functions -/
/-- a smaller store -/
def Ext (S S' : Sto) : Prop := ∀ a o, S a = some o → S' a = some o
theorem Ext.refl (S : Sto) : Ext S S := fun _ _ h => h
theorem Ext.trans {S S1 S2 : Sto} (a : Ext S S1) (b : Ext S1 S2) : Ext S S2 := fun c o h => b c o (a c o h)
theorem Ext.put {S : Sto} {p : Addr} {o : O} (n : S p = none) : Ext S (PD.put S p o) := fun a u h => by
  rw [put_ne (fun e => by rw [e, n] at h; cases h)]; exact h
theorem Ext.put' {S S1 : Sto} {p : Addr} {o : O} (e : Ext S S1) (n : S1 p = none) : Ext S (PD.put S1 p o) := e.trans (Ext.put n)
theorem Ext.none {S S1 : Sto} {p : Addr} (e : Ext S S1) (n : S1 p = Option.none) : S p = Option.none := by
  cases h : S p with
  | none => rfl
  | some o => rw [e p o h] at n; cases n
/-- a change at one place of both -/
theorem Ext.both {S S1 : Sto} {p : Addr} {o : O} (e : Ext S S1) : Ext (PD.put S p o) (PD.put S1 p o) := fun a u h => by
  by_cases q : a = p
  · subst q; rw [put_same] at h ⊢; exact h
  · rw [put_ne q] at h ⊢; exact e a u h
/-- a body's ends: the store may be larger than promised -/
def ends (Q : KD) : DE := { nx := fun _ S => ∃ S1, Ext S1 S ∧ Q .non S1, rt := fun d S => ∃ S1, Ext S1 S ∧ Q d S1 }
def startD (N : List Str) (ds : List D) : Env := ds.map some ++ List.replicate (N.length - ds.length) none
theorem start_ok {K : KW} {H : Hp} {N : List Str} {ds : List D} {vs : List V} (r : DRs K H ds vs) : EnvR K H (startD N ds) (L2.start N vs) := by
  refine ⟨by unfold startD L2.start; simp [r.length], fun i d h => ?_⟩
  unfold startD at h
  unfold L2.start
  by_cases q : i < ds.length
  · rw [List.getElem?_append_left (by simpa using q), List.getElem?_map] at h
    cases e : ds[i]? with
    | none => rw [e] at h; cases h
    | some d' =>
      rw [e] at h; cases h
      obtain ⟨v, h1, h2⟩ := r.get e
      refine ⟨v, ?_, h2⟩
      rw [List.getElem?_append_left (by rw [List.length_map, r.length]; exact q), List.getElem?_map, h1]
      rfl
  · rw [List.getElem?_append_right (by simpa using q), List.getElem?_replicate] at h
    split at h <;> cases h
abbrev CxF (P : Program) (w : World) (K : PySem.W.Frag) (mg : Str → Option Value) (base : Heap) (N : List Str) (qual : Str) (scope : Scope) (f : Addr) (cd : Value) (A : Around) (outer : List PySem.Env) (s : Shared) (H : Hp) (E : XK) : Cx :=
  (cxOf CX0 P w K mg base N qual scope f cd A outer s H E).nox
/-- a body's walk, at level k -/
def Walk (P : Program) (w : World) (K : PySem.W.Frag) (mg : Str → Option Value) (base : Heap) (k : Nat) (N : List Str) (qual : Str) (scope : Scope) (body : List Stmt) (ws : WS) : Prop :=
  ∀ (f : Addr) (cd : Value) (A : Around) (outer : List PySem.Env) (s : Shared) (H : Hp) (E : XK), Room k (A.deeper (envOfC qual scope s.heap.objs.size f cd)) → PSs (CxF P w K mg base N qual scope f cd A outer s H E) body (liftS (K, w) ws)
section
variable {P : Program} {w : World} {K : PySem.W.Frag} {mg : Str → Option Value} {base : Heap} {x qual : Str} {params : Arguments} {body : List Stmt} {scope : Scope} {kws : List (Str × V)} {f : Addr} {fd : FuncData} {N ps : List Str} {k : Nat} {sp : SpD} {ws : WS}
theorem fn_ok (F : FunD K x qual params body scope [] kws f fd) (sc : FnScope N ps scope) (W : Walk P w K mg base k N qual scope body ws) (vc : ∀ ds S Q, sp ds S Q → ds.length = ps.length ∧ ws (ends Q) (startD N ds) S) :
    FnOk P w K mg base CX0 (k + 1) f fd ps (liftSp (K, w) sp) := by
  refine F.ok sc (fun vs H Q E ⟨ds, S, Q0, r, s, q, l⟩ => by rw [r.length]; exact (vc _ _ _ q).1) fun cdv A outer s H vs Q E hr ⟨ds, S, Q0, r, s0, q, l⟩ => ?_
  have go : ∀ d S' v H', DR (K, w) H' d v → StoR (K, w) S' H' → Stp S H S' H' → (∃ S1, Ext S1 S' ∧ Q0 d S1) → Q v H' := fun d S' v H' r s p ⟨S1, e, q⟩ =>
    l d S1 v H' r (s.sub e) (fun a o h n => ⟨e.none (p a o h n).1, (p a o h n).2⟩) q
  exact ⟨_, PSs.nox (W f cdv A outer s H E hr), startD N ds, S, _, start_ok r, s0, (vc _ _ _ q).2, ⟨fun ρ' S' σ' H' a b c d => go .non S' .non H' DR.non b c d, go, fun ρ' S' σ' H' a b c d => d.elim, fun ρ' S' σ' H' a b c d => d.elim⟩⟩
theorem own_ok (F : FunD K x qual params body scope [] kws f fd) (sc : FnScope N ps scope) (W : Walk P w K mg base k N qual scope body ws) (hm : mg x = some (.ref f))
    (hb : ∀ (kV doc pm : Value) (an : Option Addr) (cdv ct : Value) (us : List Value), us.length = ps.length → bindArgs (PySem.W.fnOf x qual params body scope .none kV doc pm an cdv ct) ⟨us, []⟩ = pure (ps.zip us))
    (vc : ∀ ds S Q, sp ds S Q → ds.length = ps.length ∧ ws (ends Q) (startD N ds) S) : Own P w K mg base (k + 1) x sp :=
  ⟨f, fd, ps, fn_ok F sc W vc, hm, F.kp, F.bindsN hb⟩
end
end PD

namespace PD
open PySem PySem.Spec PyProof.Rows L2
/-! ### rules for what a reading asks -/
section
variable {α : Type} {x y z u v : α} {xs : List α}
theorem atI_nat {i : Nat} {l : List α} (h : i < l.length) : atI l (i : Int) = l[i]? := by
  unfold atI ixN
  rw [if_pos (Int.natCast_nonneg i), if_pos (by omega)]
  simp
theorem atI_0 : atI (x :: xs) 0 = some x := by
  have := atI_nat (i := 0) (l := x :: xs) (by simp); simpa using this
theorem atI_1 : atI (x :: y :: xs) 1 = some y := by
  have := atI_nat (i := 1) (l := x :: y :: xs) (by simp); simpa using this
theorem atI_2 : atI (x :: y :: z :: xs) 2 = some z := by
  have := atI_nat (i := 2) (l := x :: y :: z :: xs) (by simp); simpa using this
theorem atI_3 : atI (x :: y :: z :: u :: xs) 3 = some u := by
  have := atI_nat (i := 3) (l := x :: y :: z :: u :: xs) (by simp); simpa using this
theorem atI_4 : atI (x :: y :: z :: u :: v :: xs) 4 = some v := by
  have := atI_nat (i := 4) (l := x :: y :: z :: u :: v :: xs) (by simp); simpa using this
end
theorem oEq_str {a b : Str} {S Q} : oEq (.str a) (.str b) S Q = Q (.bl (decide (a = b))) S := rfl
theorem oEq_int {a b : Int} {S Q} : oEq (.int a) (.int b) S Q = Q (.bl (decide (a = b))) S := rfl
theorem oEq_bl {a b : Bool} {S Q} : oEq (.bl a) (.bl b) S Q = Q (.bl (decide (a = b))) S := rfl
theorem flat_int {i} : flatD (.int i) = true := rfl
theorem flat_str {i} : flatD (.str i) = true := rfl
theorem inD_nil {x} : inD x [] = false := rfl
theorem inD_cons {x y ys} : inD x (y :: ys) = (eqF y x || inD x ys) := rfl
theorem eqF_str {a b : Str} : eqF (.str a) (.str b) = (a == b) := rfl
theorem eqF_int {a b : Int} : eqF (.int a) (.int b) = (a == b) := rfl
theorem two_line : (2 : Nat) ≤ sizeLine := by decide
theorem line_ge : (16777216 : Nat) ≤ sizeLine := by decide +kernel
/-- a new list: what one needs of it mostly -/
theorem newE {S S0 : Sto} {o : O} {Q : KD} (x : Ext S0 S) (h : ∀ p S', Ext S0 S' → Ext S S' → S' p = some o → Q (.ref p) S') : newK S o Q := fun p S' n e => by
  subst e
  exact h p _ (x.put' n) (Ext.put n) put_same
theorem idx_lst {S : Sto} {a : Addr} {i : Int} {xs : List D} {d : D} {Q : KD} (h : S a = some (.lst xs)) (e : atI xs i = some d) (q : Q d S) : oIdx (.ref a) (.int i) S Q := by
  unfold oIdx
  simp only [h, e]
  exact q
/-- a loop by an invariant -/
theorem loop_of {ok : Sto → Prop} {t : Tg} {b : WS} {ds : List D} {E : DE} {ρ : Env} {S : Sto} (Pv : Nat → Env → Sto → Prop) (h0 : Pv 0 ρ S)
    (hs : ∀ i d ρ S, ds[i]? = some d → Pv i ρ S → ∃ ρ1, asg S t d ρ = some ρ1 ∧ b { E with nx := fun ρ S => ok S ∧ Pv (i + 1) ρ S, ct := fun ρ S => ok S ∧ Pv (i + 1) ρ S, bk := E.nx } ρ1 S)
    (hd : ∀ ρ S, Pv ds.length ρ S → E.nx ρ S) : loopD ok t b ds E ρ S := by
  have go : ∀ (l : List D) (i : Nat) (ρ : Env) (S : Sto), ds.drop i = l → i ≤ ds.length → Pv i ρ S → loopD ok t b l E ρ S := by
    intro l
    induction l with
    | nil =>
      intro i ρ S e hi p
      have h : ds.length ≤ i := by simpa using e
      have : i = ds.length := by omega
      subst this
      exact hd ρ S p
    | cons d l ih =>
      intro i ρ S e hi p
      have hd' : ds[i]? = some d := by
        have z := congrArg (fun l => l[0]?) e
        simpa using z
      have hlt : i < ds.length := (List.getElem?_eq_some_iff.mp hd').1
      obtain ⟨ρ1, h1, h2⟩ := hs i d ρ S hd' p
      refine ⟨ρ1, h1, _, fun ρ' S' ⟨o, p'⟩ => ⟨o, ih (i + 1) ρ' S' ?_ hlt p'⟩, h2⟩
      have z := drop_cons hd'
      rw [e] at z
      exact (List.cons.inj z).2.symm
  exact go ds 0 ρ S rfl (Nat.zero_le _) h0
/-- a comprehension by an invariant -/
theorem comp_of {ok : Sto → Prop} {t : Tg} {tt : WT} {te : WE} {ds acc : List D} {ρ : Env} {S : Sto} {Q : List D → Sto → Prop} (Pv : Nat → List D → Sto → Prop) (h0 : Pv 0 acc S)
    (hs : ∀ i d acc S, ds[i]? = some d → Pv i acc S → ∃ ρ1, asg S t d ρ = some ρ1 ∧ tt ρ1 S fun b S1 => if b = true then te ρ1 S1 fun y S2 => acc.length < sizeLine ∧ (ok S2 ∧ Pv (i + 1) (acc ++ [y]) S2) else (ok S1 ∧ Pv (i + 1) acc S1))
    (hd : ∀ acc S, Pv ds.length acc S → Q acc S) : compD ok t tt te ρ ds acc S Q := by
  have go : ∀ (l : List D) (i : Nat) (acc : List D) (S : Sto), ds.drop i = l → i ≤ ds.length → Pv i acc S → compD ok t tt te ρ l acc S Q := by
    intro l
    induction l with
    | nil =>
      intro i acc S e hi p
      have h : ds.length ≤ i := by simpa using e
      have : i = ds.length := by omega
      subst this
      exact hd acc S p
    | cons d l ih =>
      intro i acc S e hi p
      have hd' : ds[i]? = some d := by
        have z := congrArg (fun l => l[0]?) e
        simpa using z
      have hlt : i < ds.length := (List.getElem?_eq_some_iff.mp hd').1
      obtain ⟨ρ1, h1, h2⟩ := hs i d acc S hd' p
      refine ⟨ρ1, h1, fun acc' S' => ok S' ∧ Pv (i + 1) acc' S', fun acc' S' ⟨o, p'⟩ => ⟨o, ih (i + 1) acc' S' ?_ hlt p'⟩, h2⟩
      have z := drop_cons hd'
      rw [e] at z
      exact (List.cons.inj z).2.symm
  exact go ds 0 acc S rfl (Nat.zero_le _) h0
/-- .. of elements, each by itself -/
theorem comp_map {ok : Sto → Prop} {t : Tg} {te : WE} {ds acc : List D} {ρ : Env} {S : Sto} {Q : List D → Sto → Prop} (f : D → D)
    (he : ∀ d S1 (Q1 : KD), d ∈ ds → Ext S S1 → (∀ S2, Ext S1 S2 → Q1 (f d) S2) → ∃ ρ1, asg S1 t d ρ = some ρ1 ∧ te ρ1 S1 Q1) (hok : ∀ S1, Ext S S1 → ok S1) (hz : acc.length + ds.length ≤ sizeLine)
    (q : ∀ S1, Ext S S1 → Q (acc ++ ds.map f) S1) : compD ok t wYes te ρ ds acc S Q := by
  refine comp_of (fun i acc' S' => acc' = acc ++ (ds.take i).map f ∧ Ext S S') ⟨by simp, Ext.refl S⟩ (fun i d acc' S' hd ⟨ea, ex⟩ => ?_) (fun acc' S' ⟨ea, ex⟩ => by rw [ea, List.take_length]; exact q S' ex)
  have hlt : i < ds.length := (List.getElem?_eq_some_iff.mp hd).1
  obtain ⟨ρ1, h1, h2⟩ := he d S' (fun y S2 => acc'.length < sizeLine ∧ ok S2 ∧ (acc' ++ [y] = acc ++ (ds.take (i + 1)).map f ∧ Ext S S2)) (List.mem_of_getElem? hd) ex fun S2 e2 => by
    refine ⟨?_, hok S2 (ex.trans e2), ?_, ex.trans e2⟩
    · rw [ea, List.length_append, List.length_map, List.length_take]; omega
    · rw [ea, List.append_assoc]
      congr 1
      have z : ds.take (i + 1) = ds.take i ++ [d] := by rw [List.take_succ, hd]; rfl
      rw [z, List.map_append]; rfl
  exact ⟨ρ1, h1, h2⟩
end PD

namespace K83
open PySem PySem.Spec PyProof.Rows L2 PD
def top (i : Nat) : Stmt := PySem.Challenge.pw_readslittle_k83_whole_parts_of_what_is_b.main.body.getD i (.Pass ⟨0, 0, 0, 0⟩)
theorem u1 {k : Nat} {A : Around} (r : Room k A) : A.units + 1 < cLine := Nat.lt_of_le_of_lt (Nat.add_le_add_left (by decide) _) r.units
theorem nd_CODE_TIMES : (("CODE_TIMES" : Str) == ("__debug__" : Str)) = false := by decide +kernel
theorem nc_CODE_TIMES : (("CODE_TIMES" : Str) == ("__classdict__" : Str)) = false := by decide +kernel
theorem nd_COLUMNS : (("COLUMNS" : Str) == ("__debug__" : Str)) = false := by decide +kernel
theorem nc_COLUMNS : (("COLUMNS" : Str) == ("__classdict__" : Str)) = false := by decide +kernel
theorem nd_DOMAINS : (("DOMAINS" : Str) == ("__debug__" : Str)) = false := by decide +kernel
theorem nc_DOMAINS : (("DOMAINS" : Str) == ("__classdict__" : Str)) = false := by decide +kernel
theorem nd_FIRST_MANY : (("FIRST_MANY" : Str) == ("__debug__" : Str)) = false := by decide +kernel
theorem nc_FIRST_MANY : (("FIRST_MANY" : Str) == ("__classdict__" : Str)) = false := by decide +kernel
theorem nd_FIXED_MANY : (("FIXED_MANY" : Str) == ("__debug__" : Str)) = false := by decide +kernel
theorem nc_FIXED_MANY : (("FIXED_MANY" : Str) == ("__classdict__" : Str)) = false := by decide +kernel
theorem nd_LOT_WIDTHS : (("LOT_WIDTHS" : Str) == ("__debug__" : Str)) = false := by decide +kernel
theorem nc_LOT_WIDTHS : (("LOT_WIDTHS" : Str) == ("__classdict__" : Str)) = false := by decide +kernel
theorem nd_MOST_CODE : (("MOST_CODE" : Str) == ("__debug__" : Str)) = false := by decide +kernel
theorem nc_MOST_CODE : (("MOST_CODE" : Str) == ("__classdict__" : Str)) = false := by decide +kernel
theorem nd_PLACE : (("PLACE" : Str) == ("__debug__" : Str)) = false := by decide +kernel
theorem nc_PLACE : (("PLACE" : Str) == ("__classdict__" : Str)) = false := by decide +kernel
theorem nd_SECOND_MANY : (("SECOND_MANY" : Str) == ("__debug__" : Str)) = false := by decide +kernel
theorem nc_SECOND_MANY : (("SECOND_MANY" : Str) == ("__classdict__" : Str)) = false := by decide +kernel
theorem nd_SPOTS : (("SPOTS" : Str) == ("__debug__" : Str)) = false := by decide +kernel
theorem nc_SPOTS : (("SPOTS" : Str) == ("__classdict__" : Str)) = false := by decide +kernel
theorem nd_TELLINGS : (("TELLINGS" : Str) == ("__debug__" : Str)) = false := by decide +kernel
theorem nc_TELLINGS : (("TELLINGS" : Str) == ("__classdict__" : Str)) = false := by decide +kernel
theorem nd_TOUCHES : (("TOUCHES" : Str) == ("__debug__" : Str)) = false := by decide +kernel
theorem nc_TOUCHES : (("TOUCHES" : Str) == ("__classdict__" : Str)) = false := by decide +kernel
theorem nd_WORDS : (("WORDS" : Str) == ("__debug__" : Str)) = false := by decide +kernel
theorem nc_WORDS : (("WORDS" : Str) == ("__classdict__" : Str)) = false := by decide +kernel
theorem nd__law_domains : (("_law_domains" : Str) == ("__debug__" : Str)) = false := by decide +kernel
theorem nc__law_domains : (("_law_domains" : Str) == ("__classdict__" : Str)) = false := by decide +kernel
theorem nd__law_draw : (("_law_draw" : Str) == ("__debug__" : Str)) = false := by decide +kernel
theorem nc__law_draw : (("_law_draw" : Str) == ("__classdict__" : Str)) = false := by decide +kernel
theorem nd__law_power : (("_law_power" : Str) == ("__debug__" : Str)) = false := by decide +kernel
theorem nc__law_power : (("_law_power" : Str) == ("__classdict__" : Str)) = false := by decide +kernel
theorem nd__law_same : (("_law_same" : Str) == ("__debug__" : Str)) = false := by decide +kernel
theorem nc__law_same : (("_law_same" : Str) == ("__classdict__" : Str)) = false := by decide +kernel
theorem nd__law_size : (("_law_size" : Str) == ("__debug__" : Str)) = false := by decide +kernel
theorem nc__law_size : (("_law_size" : Str) == ("__classdict__" : Str)) = false := by decide +kernel
theorem nd__law_spots : (("_law_spots" : Str) == ("__debug__" : Str)) = false := by decide +kernel
theorem nc__law_spots : (("_law_spots" : Str) == ("__classdict__" : Str)) = false := by decide +kernel
theorem nd__law_state : (("_law_state" : Str) == ("__debug__" : Str)) = false := by decide +kernel
theorem nc__law_state : (("_law_state" : Str) == ("__classdict__" : Str)) = false := by decide +kernel
theorem nd_above : (("above" : Str) == ("__debug__" : Str)) = false := by decide +kernel
theorem nc_above : (("above" : Str) == ("__classdict__" : Str)) = false := by decide +kernel
theorem nd_abs : (("abs" : Str) == ("__debug__" : Str)) = false := by decide +kernel
theorem nc_abs : (("abs" : Str) == ("__classdict__" : Str)) = false := by decide +kernel
theorem nd_add : (("add" : Str) == ("__debug__" : Str)) = false := by decide +kernel
theorem nc_add : (("add" : Str) == ("__classdict__" : Str)) = false := by decide +kernel
theorem nd_ahead : (("ahead" : Str) == ("__debug__" : Str)) = false := by decide +kernel
theorem nc_ahead : (("ahead" : Str) == ("__classdict__" : Str)) = false := by decide +kernel
theorem nd_all : (("all" : Str) == ("__debug__" : Str)) = false := by decide +kernel
theorem nc_all : (("all" : Str) == ("__classdict__" : Str)) = false := by decide +kernel
theorem nd_alpha : (("alpha" : Str) == ("__debug__" : Str)) = false := by decide +kernel
theorem nc_alpha : (("alpha" : Str) == ("__classdict__" : Str)) = false := by decide +kernel
theorem nd_at : (("at" : Str) == ("__debug__" : Str)) = false := by decide +kernel
theorem nc_at : (("at" : Str) == ("__classdict__" : Str)) = false := by decide +kernel
theorem nd_b : (("b" : Str) == ("__debug__" : Str)) = false := by decide +kernel
theorem nc_b : (("b" : Str) == ("__classdict__" : Str)) = false := by decide +kernel
theorem nd_begin : (("begin" : Str) == ("__debug__" : Str)) = false := by decide +kernel
theorem nc_begin : (("begin" : Str) == ("__classdict__" : Str)) = false := by decide +kernel
theorem nd_belief_parts : (("belief_parts" : Str) == ("__debug__" : Str)) = false := by decide +kernel
theorem nc_belief_parts : (("belief_parts" : Str) == ("__classdict__" : Str)) = false := by decide +kernel
theorem nd_belief_share : (("belief_share" : Str) == ("__debug__" : Str)) = false := by decide +kernel
theorem nc_belief_share : (("belief_share" : Str) == ("__classdict__" : Str)) = false := by decide +kernel
theorem nd_below : (("below" : Str) == ("__debug__" : Str)) = false := by decide +kernel
theorem nc_below : (("below" : Str) == ("__classdict__" : Str)) = false := by decide +kernel
theorem nd_beta : (("beta" : Str) == ("__debug__" : Str)) = false := by decide +kernel
theorem nc_beta : (("beta" : Str) == ("__classdict__" : Str)) = false := by decide +kernel
theorem nd_bits : (("bits" : Str) == ("__debug__" : Str)) = false := by decide +kernel
theorem nc_bits : (("bits" : Str) == ("__classdict__" : Str)) = false := by decide +kernel
theorem nd_blind : (("blind" : Str) == ("__debug__" : Str)) = false := by decide +kernel
theorem nc_blind : (("blind" : Str) == ("__classdict__" : Str)) = false := by decide +kernel
theorem nd_book_height : (("book_height" : Str) == ("__debug__" : Str)) = false := by decide +kernel
theorem nc_book_height : (("book_height" : Str) == ("__classdict__" : Str)) = false := by decide +kernel
theorem nd_book_high : (("book_high" : Str) == ("__debug__" : Str)) = false := by decide +kernel
theorem nc_book_high : (("book_high" : Str) == ("__classdict__" : Str)) = false := by decide +kernel
theorem nd_book_many : (("book_many" : Str) == ("__debug__" : Str)) = false := by decide +kernel
theorem nc_book_many : (("book_many" : Str) == ("__classdict__" : Str)) = false := by decide +kernel
theorem nd_book_names : (("book_names" : Str) == ("__debug__" : Str)) = false := by decide +kernel
theorem nc_book_names : (("book_names" : Str) == ("__classdict__" : Str)) = false := by decide +kernel
theorem nd_book_points : (("book_points" : Str) == ("__debug__" : Str)) = false := by decide +kernel
theorem nc_book_points : (("book_points" : Str) == ("__classdict__" : Str)) = false := by decide +kernel
theorem nd_book_reads : (("book_reads" : Str) == ("__debug__" : Str)) = false := by decide +kernel
theorem nc_book_reads : (("book_reads" : Str) == ("__classdict__" : Str)) = false := by decide +kernel
theorem nd_book_rows : (("book_rows" : Str) == ("__debug__" : Str)) = false := by decide +kernel
theorem nc_book_rows : (("book_rows" : Str) == ("__classdict__" : Str)) = false := by decide +kernel
theorem nd_book_size : (("book_size" : Str) == ("__debug__" : Str)) = false := by decide +kernel
theorem nc_book_size : (("book_size" : Str) == ("__classdict__" : Str)) = false := by decide +kernel
theorem nd_bool : (("bool" : Str) == ("__debug__" : Str)) = false := by decide +kernel
theorem nc_bool : (("bool" : Str) == ("__classdict__" : Str)) = false := by decide +kernel
theorem nd_c : (("c" : Str) == ("__debug__" : Str)) = false := by decide +kernel
theorem nc_c : (("c" : Str) == ("__classdict__" : Str)) = false := by decide +kernel
theorem nd_cell : (("cell" : Str) == ("__debug__" : Str)) = false := by decide +kernel
theorem nc_cell : (("cell" : Str) == ("__classdict__" : Str)) = false := by decide +kernel
theorem nd_cells : (("cells" : Str) == ("__debug__" : Str)) = false := by decide +kernel
theorem nc_cells : (("cells" : Str) == ("__classdict__" : Str)) = false := by decide +kernel
theorem nd_chosen : (("chosen" : Str) == ("__debug__" : Str)) = false := by decide +kernel
theorem nc_chosen : (("chosen" : Str) == ("__classdict__" : Str)) = false := by decide +kernel
theorem nd_code : (("code" : Str) == ("__debug__" : Str)) = false := by decide +kernel
theorem nc_code : (("code" : Str) == ("__classdict__" : Str)) = false := by decide +kernel
theorem nd_column : (("column" : Str) == ("__debug__" : Str)) = false := by decide +kernel
theorem nc_column : (("column" : Str) == ("__classdict__" : Str)) = false := by decide +kernel
theorem nd_column_part : (("column_part" : Str) == ("__debug__" : Str)) = false := by decide +kernel
theorem nc_column_part : (("column_part" : Str) == ("__classdict__" : Str)) = false := by decide +kernel
theorem nd_count : (("count" : Str) == ("__debug__" : Str)) = false := by decide +kernel
theorem nc_count : (("count" : Str) == ("__classdict__" : Str)) = false := by decide +kernel
theorem nd_counted : (("counted" : Str) == ("__debug__" : Str)) = false := by decide +kernel
theorem nc_counted : (("counted" : Str) == ("__classdict__" : Str)) = false := by decide +kernel
theorem nd_domain : (("domain" : Str) == ("__debug__" : Str)) = false := by decide +kernel
theorem nc_domain : (("domain" : Str) == ("__classdict__" : Str)) = false := by decide +kernel
theorem nd_domain_bits : (("domain_bits" : Str) == ("__debug__" : Str)) = false := by decide +kernel
theorem nc_domain_bits : (("domain_bits" : Str) == ("__classdict__" : Str)) = false := by decide +kernel
theorem nd_domain_message_size : (("domain_message_size" : Str) == ("__debug__" : Str)) = false := by decide +kernel
theorem nc_domain_message_size : (("domain_message_size" : Str) == ("__classdict__" : Str)) = false := by decide +kernel
theorem nd_domain_reads : (("domain_reads" : Str) == ("__debug__" : Str)) = false := by decide +kernel
theorem nc_domain_reads : (("domain_reads" : Str) == ("__classdict__" : Str)) = false := by decide +kernel
theorem nd_domain_rules : (("domain_rules" : Str) == ("__debug__" : Str)) = false := by decide +kernel
theorem nc_domain_rules : (("domain_rules" : Str) == ("__classdict__" : Str)) = false := by decide +kernel
theorem nd_due : (("due" : Str) == ("__debug__" : Str)) = false := by decide +kernel
theorem nc_due : (("due" : Str) == ("__classdict__" : Str)) = false := by decide +kernel
theorem nd_expression : (("expression" : Str) == ("__debug__" : Str)) = false := by decide +kernel
theorem nc_expression : (("expression" : Str) == ("__classdict__" : Str)) = false := by decide +kernel
theorem nd_expression_by_powers : (("expression_by_powers" : Str) == ("__debug__" : Str)) = false := by decide +kernel
theorem nc_expression_by_powers : (("expression_by_powers" : Str) == ("__classdict__" : Str)) = false := by decide +kernel
theorem nd_expression_degree : (("expression_degree" : Str) == ("__debug__" : Str)) = false := by decide +kernel
theorem nc_expression_degree : (("expression_degree" : Str) == ("__classdict__" : Str)) = false := by decide +kernel
theorem nd_expression_sum : (("expression_sum" : Str) == ("__debug__" : Str)) = false := by decide +kernel
theorem nc_expression_sum : (("expression_sum" : Str) == ("__classdict__" : Str)) = false := by decide +kernel
theorem nd_first : (("first" : Str) == ("__debug__" : Str)) = false := by decide +kernel
theorem nc_first : (("first" : Str) == ("__classdict__" : Str)) = false := by decide +kernel
theorem nd_fork : (("fork" : Str) == ("__debug__" : Str)) = false := by decide +kernel
theorem nc_fork : (("fork" : Str) == ("__classdict__" : Str)) = false := by decide +kernel
theorem nd_found : (("found" : Str) == ("__debug__" : Str)) = false := by decide +kernel
theorem nc_found : (("found" : Str) == ("__classdict__" : Str)) = false := by decide +kernel
theorem nd_gamma : (("gamma" : Str) == ("__debug__" : Str)) = false := by decide +kernel
theorem nc_gamma : (("gamma" : Str) == ("__classdict__" : Str)) = false := by decide +kernel
theorem nd_gap_part : (("gap_part" : Str) == ("__debug__" : Str)) = false := by decide +kernel
theorem nc_gap_part : (("gap_part" : Str) == ("__classdict__" : Str)) = false := by decide +kernel
theorem nd_get : (("get" : Str) == ("__debug__" : Str)) = false := by decide +kernel
theorem nc_get : (("get" : Str) == ("__classdict__" : Str)) = false := by decide +kernel
theorem nd_greatest_sum_count : (("greatest_sum_count" : Str) == ("__debug__" : Str)) = false := by decide +kernel
theorem nc_greatest_sum_count : (("greatest_sum_count" : Str) == ("__classdict__" : Str)) = false := by decide +kernel
theorem nd_high : (("high" : Str) == ("__debug__" : Str)) = false := by decide +kernel
theorem nc_high : (("high" : Str) == ("__classdict__" : Str)) = false := by decide +kernel
theorem nd_index : (("index" : Str) == ("__debug__" : Str)) = false := by decide +kernel
theorem nc_index : (("index" : Str) == ("__classdict__" : Str)) = false := by decide +kernel
theorem nd_int : (("int" : Str) == ("__debug__" : Str)) = false := by decide +kernel
theorem nc_int : (("int" : Str) == ("__classdict__" : Str)) = false := by decide +kernel
theorem nd_inverse_rule : (("inverse_rule" : Str) == ("__debug__" : Str)) = false := by decide +kernel
theorem nc_inverse_rule : (("inverse_rule" : Str) == ("__classdict__" : Str)) = false := by decide +kernel
theorem nd_j : (("j" : Str) == ("__debug__" : Str)) = false := by decide +kernel
theorem nc_j : (("j" : Str) == ("__classdict__" : Str)) = false := by decide +kernel
theorem nd_joined_expression : (("joined_expression" : Str) == ("__debug__" : Str)) = false := by decide +kernel
theorem nc_joined_expression : (("joined_expression" : Str) == ("__classdict__" : Str)) = false := by decide +kernel
theorem nd_jump : (("jump" : Str) == ("__debug__" : Str)) = false := by decide +kernel
theorem nc_jump : (("jump" : Str) == ("__classdict__" : Str)) = false := by decide +kernel
theorem nd_k : (("k" : Str) == ("__debug__" : Str)) = false := by decide +kernel
theorem nc_k : (("k" : Str) == ("__classdict__" : Str)) = false := by decide +kernel
theorem nd_keeps : (("keeps" : Str) == ("__debug__" : Str)) = false := by decide +kernel
theorem nc_keeps : (("keeps" : Str) == ("__classdict__" : Str)) = false := by decide +kernel
theorem nd_kept : (("kept" : Str) == ("__debug__" : Str)) = false := by decide +kernel
theorem nc_kept : (("kept" : Str) == ("__classdict__" : Str)) = false := by decide +kernel
theorem nd_kinds : (("kinds" : Str) == ("__debug__" : Str)) = false := by decide +kernel
theorem nc_kinds : (("kinds" : Str) == ("__classdict__" : Str)) = false := by decide +kernel
theorem nd_last : (("last" : Str) == ("__debug__" : Str)) = false := by decide +kernel
theorem nc_last : (("last" : Str) == ("__classdict__" : Str)) = false := by decide +kernel
theorem nd_later : (("later" : Str) == ("__debug__" : Str)) = false := by decide +kernel
theorem nc_later : (("later" : Str) == ("__classdict__" : Str)) = false := by decide +kernel
theorem nd_led : (("led" : Str) == ("__debug__" : Str)) = false := by decide +kernel
theorem nc_led : (("led" : Str) == ("__classdict__" : Str)) = false := by decide +kernel
theorem nd_left : (("left" : Str) == ("__debug__" : Str)) = false := by decide +kernel
theorem nc_left : (("left" : Str) == ("__classdict__" : Str)) = false := by decide +kernel
theorem nd_len : (("len" : Str) == ("__debug__" : Str)) = false := by decide +kernel
theorem nc_len : (("len" : Str) == ("__classdict__" : Str)) = false := by decide +kernel
theorem nd_list : (("list" : Str) == ("__debug__" : Str)) = false := by decide +kernel
theorem nc_list : (("list" : Str) == ("__classdict__" : Str)) = false := by decide +kernel
theorem nd_lot : (("lot" : Str) == ("__debug__" : Str)) = false := by decide +kernel
theorem nc_lot : (("lot" : Str) == ("__classdict__" : Str)) = false := by decide +kernel
theorem nd_lot_many : (("lot_many" : Str) == ("__debug__" : Str)) = false := by decide +kernel
theorem nc_lot_many : (("lot_many" : Str) == ("__classdict__" : Str)) = false := by decide +kernel
theorem nd_lot_share : (("lot_share" : Str) == ("__debug__" : Str)) = false := by decide +kernel
theorem nc_lot_share : (("lot_share" : Str) == ("__classdict__" : Str)) = false := by decide +kernel
theorem nd_lots : (("lots" : Str) == ("__debug__" : Str)) = false := by decide +kernel
theorem nc_lots : (("lots" : Str) == ("__classdict__" : Str)) = false := by decide +kernel
theorem nd_lowest_share : (("lowest_share" : Str) == ("__debug__" : Str)) = false := by decide +kernel
theorem nc_lowest_share : (("lowest_share" : Str) == ("__classdict__" : Str)) = false := by decide +kernel
theorem nd_many : (("many" : Str) == ("__debug__" : Str)) = false := by decide +kernel
theorem nc_many : (("many" : Str) == ("__classdict__" : Str)) = false := by decide +kernel
theorem nd_mark : (("mark" : Str) == ("__debug__" : Str)) = false := by decide +kernel
theorem nc_mark : (("mark" : Str) == ("__classdict__" : Str)) = false := by decide +kernel
theorem nd_mark_expression : (("mark_expression" : Str) == ("__debug__" : Str)) = false := by decide +kernel
theorem nc_mark_expression : (("mark_expression" : Str) == ("__classdict__" : Str)) = false := by decide +kernel
theorem nd_marks : (("marks" : Str) == ("__debug__" : Str)) = false := by decide +kernel
theorem nc_marks : (("marks" : Str) == ("__classdict__" : Str)) = false := by decide +kernel
theorem nd_max : (("max" : Str) == ("__debug__" : Str)) = false := by decide +kernel
theorem nc_max : (("max" : Str) == ("__classdict__" : Str)) = false := by decide +kernel
theorem nd_message_size : (("message_size" : Str) == ("__debug__" : Str)) = false := by decide +kernel
theorem nc_message_size : (("message_size" : Str) == ("__classdict__" : Str)) = false := by decide +kernel
theorem nd_min : (("min" : Str) == ("__debug__" : Str)) = false := by decide +kernel
theorem nc_min : (("min" : Str) == ("__classdict__" : Str)) = false := by decide +kernel
theorem nd_mixed : (("mixed" : Str) == ("__debug__" : Str)) = false := by decide +kernel
theorem nc_mixed : (("mixed" : Str) == ("__classdict__" : Str)) = false := by decide +kernel
theorem nd_most_vanishing : (("most_vanishing" : Str) == ("__debug__" : Str)) = false := by decide +kernel
theorem nc_most_vanishing : (("most_vanishing" : Str) == ("__classdict__" : Str)) = false := by decide +kernel
theorem nd_most_wrong_weight : (("most_wrong_weight" : Str) == ("__debug__" : Str)) = false := by decide +kernel
theorem nc_most_wrong_weight : (("most_wrong_weight" : Str) == ("__classdict__" : Str)) = false := by decide +kernel
theorem nd_mul : (("mul" : Str) == ("__debug__" : Str)) = false := by decide +kernel
theorem nc_mul : (("mul" : Str) == ("__classdict__" : Str)) = false := by decide +kernel
theorem nd_n : (("n" : Str) == ("__debug__" : Str)) = false := by decide +kernel
theorem nc_n : (("n" : Str) == ("__classdict__" : Str)) = false := by decide +kernel
theorem nd_name : (("name" : Str) == ("__debug__" : Str)) = false := by decide +kernel
theorem nc_name : (("name" : Str) == ("__classdict__" : Str)) = false := by decide +kernel
theorem nd_near_radius : (("near_radius" : Str) == ("__debug__" : Str)) = false := by decide +kernel
theorem nc_near_radius : (("near_radius" : Str) == ("__classdict__" : Str)) = false := by decide +kernel
theorem nd_new : (("new" : Str) == ("__debug__" : Str)) = false := by decide +kernel
theorem nc_new : (("new" : Str) == ("__classdict__" : Str)) = false := by decide +kernel
theorem nd_number : (("number" : Str) == ("__debug__" : Str)) = false := by decide +kernel
theorem nc_number : (("number" : Str) == ("__classdict__" : Str)) = false := by decide +kernel
theorem nd_number_part : (("number_part" : Str) == ("__debug__" : Str)) = false := by decide +kernel
theorem nc_number_part : (("number_part" : Str) == ("__classdict__" : Str)) = false := by decide +kernel
theorem nd_old : (("old" : Str) == ("__debug__" : Str)) = false := by decide +kernel
theorem nc_old : (("old" : Str) == ("__classdict__" : Str)) = false := by decide +kernel
theorem nd_one : (("one" : Str) == ("__debug__" : Str)) = false := by decide +kernel
theorem nc_one : (("one" : Str) == ("__classdict__" : Str)) = false := by decide +kernel
theorem nd_other : (("other" : Str) == ("__debug__" : Str)) = false := by decide +kernel
theorem nc_other : (("other" : Str) == ("__classdict__" : Str)) = false := by decide +kernel
theorem nd_others : (("others" : Str) == ("__debug__" : Str)) = false := by decide +kernel
theorem nc_others : (("others" : Str) == ("__classdict__" : Str)) = false := by decide +kernel
theorem nd_p : (("p" : Str) == ("__debug__" : Str)) = false := by decide +kernel
theorem nc_p : (("p" : Str) == ("__classdict__" : Str)) = false := by decide +kernel
theorem nd_part : (("part" : Str) == ("__debug__" : Str)) = false := by decide +kernel
theorem nc_part : (("part" : Str) == ("__classdict__" : Str)) = false := by decide +kernel
theorem nd_parts : (("parts" : Str) == ("__debug__" : Str)) = false := by decide +kernel
theorem nc_parts : (("parts" : Str) == ("__classdict__" : Str)) = false := by decide +kernel
theorem nd_path : (("path" : Str) == ("__debug__" : Str)) = false := by decide +kernel
theorem nc_path : (("path" : Str) == ("__classdict__" : Str)) = false := by decide +kernel
theorem nd_place : (("place" : Str) == ("__debug__" : Str)) = false := by decide +kernel
theorem nc_place : (("place" : Str) == ("__classdict__" : Str)) = false := by decide +kernel
theorem nd_plain : (("plain" : Str) == ("__debug__" : Str)) = false := by decide +kernel
theorem nc_plain : (("plain" : Str) == ("__classdict__" : Str)) = false := by decide +kernel
theorem nd_points : (("points" : Str) == ("__debug__" : Str)) = false := by decide +kernel
theorem nc_points : (("points" : Str) == ("__classdict__" : Str)) = false := by decide +kernel
theorem nd_power : (("power" : Str) == ("__debug__" : Str)) = false := by decide +kernel
theorem nc_power : (("power" : Str) == ("__classdict__" : Str)) = false := by decide +kernel
theorem nd_product_part : (("product_part" : Str) == ("__debug__" : Str)) = false := by decide +kernel
theorem nc_product_part : (("product_part" : Str) == ("__classdict__" : Str)) = false := by decide +kernel
theorem nd_put : (("put" : Str) == ("__debug__" : Str)) = false := by decide +kernel
theorem nc_put : (("put" : Str) == ("__classdict__" : Str)) = false := by decide +kernel
theorem nd_reaches : (("reaches" : Str) == ("__debug__" : Str)) = false := by decide +kernel
theorem nc_reaches : (("reaches" : Str) == ("__classdict__" : Str)) = false := by decide +kernel
theorem nd_reads : (("reads" : Str) == ("__debug__" : Str)) = false := by decide +kernel
theorem nc_reads : (("reads" : Str) == ("__classdict__" : Str)) = false := by decide +kernel
theorem nd_row : (("row" : Str) == ("__debug__" : Str)) = false := by decide +kernel
theorem nc_row : (("row" : Str) == ("__classdict__" : Str)) = false := by decide +kernel
theorem nd_row_rules : (("row_rules" : Str) == ("__debug__" : Str)) = false := by decide +kernel
theorem nc_row_rules : (("row_rules" : Str) == ("__classdict__" : Str)) = false := by decide +kernel
theorem nd_rows : (("rows" : Str) == ("__debug__" : Str)) = false := by decide +kernel
theorem nc_rows : (("rows" : Str) == ("__classdict__" : Str)) = false := by decide +kernel
theorem nd_rows_domain_rules : (("rows_domain_rules" : Str) == ("__debug__" : Str)) = false := by decide +kernel
theorem nc_rows_domain_rules : (("rows_domain_rules" : Str) == ("__classdict__" : Str)) = false := by decide +kernel
theorem nd_rules : (("rules" : Str) == ("__debug__" : Str)) = false := by decide +kernel
theorem nc_rules : (("rules" : Str) == ("__classdict__" : Str)) = false := by decide +kernel
theorem nd_run_numbers : (("run_numbers" : Str) == ("__debug__" : Str)) = false := by decide +kernel
theorem nc_run_numbers : (("run_numbers" : Str) == ("__classdict__" : Str)) = false := by decide +kernel
theorem nd_script : (("script" : Str) == ("__debug__" : Str)) = false := by decide +kernel
theorem nc_script : (("script" : Str) == ("__classdict__" : Str)) = false := by decide +kernel
theorem nd_second : (("second" : Str) == ("__debug__" : Str)) = false := by decide +kernel
theorem nc_second : (("second" : Str) == ("__classdict__" : Str)) = false := by decide +kernel
theorem nd_seed : (("seed" : Str) == ("__debug__" : Str)) = false := by decide +kernel
theorem nc_seed : (("seed" : Str) == ("__classdict__" : Str)) = false := by decide +kernel
theorem nd_share : (("share" : Str) == ("__debug__" : Str)) = false := by decide +kernel
theorem nc_share : (("share" : Str) == ("__classdict__" : Str)) = false := by decide +kernel
theorem nd_share_expressions : (("share_expressions" : Str) == ("__debug__" : Str)) = false := by decide +kernel
theorem nc_share_expressions : (("share_expressions" : Str) == ("__classdict__" : Str)) = false := by decide +kernel
theorem nd_shares : (("shares" : Str) == ("__debug__" : Str)) = false := by decide +kernel
theorem nc_shares : (("shares" : Str) == ("__classdict__" : Str)) = false := by decide +kernel
theorem nd_shares_added : (("shares_added" : Str) == ("__debug__" : Str)) = false := by decide +kernel
theorem nc_shares_added : (("shares_added" : Str) == ("__classdict__" : Str)) = false := by decide +kernel
theorem nd_size : (("size" : Str) == ("__debug__" : Str)) = false := by decide +kernel
theorem nc_size : (("size" : Str) == ("__classdict__" : Str)) = false := by decide +kernel
theorem nd_sorted : (("sorted" : Str) == ("__debug__" : Str)) = false := by decide +kernel
theorem nc_sorted : (("sorted" : Str) == ("__classdict__" : Str)) = false := by decide +kernel
theorem nd_space : (("space" : Str) == ("__debug__" : Str)) = false := by decide +kernel
theorem nc_space : (("space" : Str) == ("__classdict__" : Str)) = false := by decide +kernel
theorem nd_spot : (("spot" : Str) == ("__debug__" : Str)) = false := by decide +kernel
theorem nc_spot : (("spot" : Str) == ("__classdict__" : Str)) = false := by decide +kernel
theorem nd_spot_weights : (("spot_weights" : Str) == ("__debug__" : Str)) = false := by decide +kernel
theorem nc_spot_weights : (("spot_weights" : Str) == ("__classdict__" : Str)) = false := by decide +kernel
theorem nd_state : (("state" : Str) == ("__debug__" : Str)) = false := by decide +kernel
theorem nc_state : (("state" : Str) == ("__classdict__" : Str)) = false := by decide +kernel
theorem nd_steps : (("steps" : Str) == ("__debug__" : Str)) = false := by decide +kernel
theorem nc_steps : (("steps" : Str) == ("__classdict__" : Str)) = false := by decide +kernel
theorem nd_stop : (("stop" : Str) == ("__debug__" : Str)) = false := by decide +kernel
theorem nc_stop : (("stop" : Str) == ("__classdict__" : Str)) = false := by decide +kernel
theorem nd_str : (("str" : Str) == ("__debug__" : Str)) = false := by decide +kernel
theorem nc_str : (("str" : Str) == ("__classdict__" : Str)) = false := by decide +kernel
theorem nd_sub : (("sub" : Str) == ("__debug__" : Str)) = false := by decide +kernel
theorem nc_sub : (("sub" : Str) == ("__classdict__" : Str)) = false := by decide +kernel
theorem nd_sum : (("sum" : Str) == ("__debug__" : Str)) = false := by decide +kernel
theorem nc_sum : (("sum" : Str) == ("__classdict__" : Str)) = false := by decide +kernel
theorem nd_sum_roots : (("sum_roots" : Str) == ("__debug__" : Str)) = false := by decide +kernel
theorem nc_sum_roots : (("sum_roots" : Str) == ("__classdict__" : Str)) = false := by decide +kernel
theorem nd_sums : (("sums" : Str) == ("__debug__" : Str)) = false := by decide +kernel
theorem nc_sums : (("sums" : Str) == ("__classdict__" : Str)) = false := by decide +kernel
theorem nd_talk_parts : (("talk_parts" : Str) == ("__debug__" : Str)) = false := by decide +kernel
theorem nc_talk_parts : (("talk_parts" : Str) == ("__classdict__" : Str)) = false := by decide +kernel
theorem nd_talk_reads : (("talk_reads" : Str) == ("__debug__" : Str)) = false := by decide +kernel
theorem nc_talk_reads : (("talk_reads" : Str) == ("__classdict__" : Str)) = false := by decide +kernel
theorem nd_told : (("told" : Str) == ("__debug__" : Str)) = false := by decide +kernel
theorem nc_told : (("told" : Str) == ("__classdict__" : Str)) = false := by decide +kernel
theorem nd_told_many : (("told_many" : Str) == ("__debug__" : Str)) = false := by decide +kernel
theorem nc_told_many : (("told_many" : Str) == ("__classdict__" : Str)) = false := by decide +kernel
theorem nd_total : (("total" : Str) == ("__debug__" : Str)) = false := by decide +kernel
theorem nc_total : (("total" : Str) == ("__classdict__" : Str)) = false := by decide +kernel
theorem nd_touch_expression : (("touch_expression" : Str) == ("__debug__" : Str)) = false := by decide +kernel
theorem nc_touch_expression : (("touch_expression" : Str) == ("__classdict__" : Str)) = false := by decide +kernel
theorem nd_touch_parts : (("touch_parts" : Str) == ("__debug__" : Str)) = false := by decide +kernel
theorem nc_touch_parts : (("touch_parts" : Str) == ("__classdict__" : Str)) = false := by decide +kernel
theorem nd_tuple : (("tuple" : Str) == ("__debug__" : Str)) = false := by decide +kernel
theorem nc_tuple : (("tuple" : Str) == ("__classdict__" : Str)) = false := by decide +kernel
theorem nd_value : (("value" : Str) == ("__debug__" : Str)) = false := by decide +kernel
theorem nc_value : (("value" : Str) == ("__classdict__" : Str)) = false := by decide +kernel
theorem nd_weights : (("weights" : Str) == ("__debug__" : Str)) = false := by decide +kernel
theorem nc_weights : (("weights" : Str) == ("__classdict__" : Str)) = false := by decide +kernel
theorem nd_whole_power : (("whole_power" : Str) == ("__debug__" : Str)) = false := by decide +kernel
theorem nc_whole_power : (("whole_power" : Str) == ("__classdict__" : Str)) = false := by decide +kernel
theorem nd_x : (("x" : Str) == ("__debug__" : Str)) = false := by decide +kernel
theorem nc_x : (("x" : Str) == ("__classdict__" : Str)) = false := by decide +kernel
theorem nd_y : (("y" : Str) == ("__debug__" : Str)) = false := by decide +kernel
theorem nc_y : (("y" : Str) == ("__classdict__" : Str)) = false := by decide +kernel
theorem nd_zero : (("zero" : Str) == ("__debug__" : Str)) = false := by decide +kernel
theorem nc_zero : (("zero" : Str) == ("__classdict__" : Str)) = false := by decide +kernel
theorem nn_abs : ("abs" : Str) ≠ "__name__" := by decide +kernel
theorem b_abs : bootBuiltins "abs" = some (.builtin "abs") := by decide +kernel
theorem nn_all : ("all" : Str) ≠ "__name__" := by decide +kernel
theorem b_all : bootBuiltins "all" = some (.builtin "all") := by decide +kernel
theorem nn_bool : ("bool" : Str) ≠ "__name__" := by decide +kernel
theorem b_bool : bootBuiltins "bool" = some (.type "bool") := by decide +kernel
theorem nn_int : ("int" : Str) ≠ "__name__" := by decide +kernel
theorem b_int : bootBuiltins "int" = some (.type "int") := by decide +kernel
theorem nn_isinstance : ("isinstance" : Str) ≠ "__name__" := by decide +kernel
theorem nn_len : ("len" : Str) ≠ "__name__" := by decide +kernel
theorem b_len : bootBuiltins "len" = some (.builtin "len") := by decide +kernel
theorem nn_list : ("list" : Str) ≠ "__name__" := by decide +kernel
theorem b_list : bootBuiltins "list" = some (.type "list") := by decide +kernel
theorem nn_max : ("max" : Str) ≠ "__name__" := by decide +kernel
theorem b_max : bootBuiltins "max" = some (.builtin "max") := by decide +kernel
theorem nn_min : ("min" : Str) ≠ "__name__" := by decide +kernel
theorem b_min : bootBuiltins "min" = some (.builtin "min") := by decide +kernel
theorem nn_range : ("range" : Str) ≠ "__name__" := by decide +kernel
theorem nn_sorted : ("sorted" : Str) ≠ "__name__" := by decide +kernel
theorem b_sorted : bootBuiltins "sorted" = some (.builtin "sorted") := by decide +kernel
theorem nn_str : ("str" : Str) ≠ "__name__" := by decide +kernel
theorem b_str : bootBuiltins "str" = some (.type "str") := by decide +kernel
theorem nn_sum : ("sum" : Str) ≠ "__name__" := by decide +kernel
theorem b_sum : bootBuiltins "sum" = some (.builtin "sum") := by decide +kernel
theorem nn_tuple : ("tuple" : Str) ≠ "__name__" := by decide +kernel
theorem b_tuple : bootBuiltins "tuple" = some (.type "tuple") := by decide +kernel
structure Mg (K : PySem.W.Frag) (w : World) (mg : Str → Option Value) : Prop where
  n_abs : mg "abs" = none
  n_all : mg "all" = none
  n_bool : mg "bool" = none
  n_int : mg "int" = none
  n_isinstance : mg "isinstance" = none
  n_len : mg "len" = none
  n_list : mg "list" = none
  n_max : mg "max" = none
  n_min : mg "min" = none
  n_range : mg "range" = none
  n_sorted : mg "sorted" = none
  n_str : mg "str" = none
  n_sum : mg "sum" = none
  n_tuple : mg "tuple" = none
  g_CODE_TIMES : GD K w mg "CODE_TIMES" (.int 4)
  g_FIRST_MANY : GD K w mg "FIRST_MANY" (.kd ["rows", "cells", "code", "times"] [(.int 30), (.int 2), (.int 1), (.int 1)])
  g_SECOND_MANY : GD K w mg "SECOND_MANY" (.kd ["rows", "cells", "code", "times"] [(.int 16), (.int 2), (.int 1), (.int 1)])
  g_WORDS : GD K w mg "WORDS" (.int 14)
  g_PLACE : GD K w mg "PLACE" (.int 15)
  g_COLUMNS : GD K w mg "COLUMNS" (.int 30)
  g_TOUCHES : GD K w mg "TOUCHES" (.int 5)
  g_FIXED_MANY : GD K w mg "FIXED_MANY" (.kd ["rows", "cells", "code", "times"] [(.int 1), (.int 5), (.int 15), (.int 1)])
  g_TELLINGS : GD K w mg "TELLINGS" (.tup [(.str "first"), (.str "second")])
  g_DOMAINS : GD K w mg "DOMAINS" (.tup [(.str "rows"), (.str "cells"), (.str "code"), (.str "times")])
  g_SPOTS : GD K w mg "SPOTS" (.int 20)
  g_MOST_CODE : GD K w mg "MOST_CODE" (.int 64)
  g_LOT_WIDTHS : GD K w mg "LOT_WIDTHS" (.kd ["cells", "code", "times"] [(.int 4), (.int 15), (.int 1)])
  k_LOT_WIDTHS : GK K w mg "LOT_WIDTHS" ["cells", "code", "times"]
namespace F_expression_degree
abbrev st : Stmt := top 2
abbrev N : List Str := ["expression", "first", "second"]
theorem nd_N : N.Nodup := by decide +kernel
theorem sc : FnScope N ["expression"] (defScope st) := ⟨rfl, rfl, rfl, by decide +kernel, rfl, by decide +kernel, by decide +kernel⟩
def ws (g_expression_degree : SpD) : WS := wSeq (wIfS (wBt (wBin oIn (wBin oIdx (wVar 0) (wC (.int 0))) (wTup (wCons (wC (.str "col")) (wCons (wC (.str "num")) (wNil)))))) (wRet (wCB bInt (wCons (wBin oEq (wBin oIdx (wVar 0) (wC (.int 0))) (wC (.str "col"))) (wNil)))) (wNext)) (wSeq (wPar 1 2 (wCons (wCall g_expression_degree (wCons (wBin oIdx (wVar 0) (wC (.int 1))) (wNil))) (wCons (wCall g_expression_degree (wCons (wBin oIdx (wVar 0) (wC (.int 2))) (wNil))) (wNil)))) (wRet (wIf (wBt (wBin oEq (wBin oIdx (wVar 0) (wC (.int 0))) (wC (.str "mul")))) (wBin oAdd (wVar 1) (wVar 2)) (wCB bMax (wCons (wVar 1) (wCons (wVar 2) (wNil)))))))
theorem walk {P : Program} {w : World} {K : PySem.W.Frag} {mg : Str → Option Value} {base : Heap} {k : Nat} (M : Mg K w mg) {g_expression_degree : SpD} (c_expression_degree : Own P w K mg base k "expression_degree" g_expression_degree) : Walk P w K mg base k N "expression_degree" (defScope st) (defBody st) (ws g_expression_degree) := fun f cd A outer s H E hr =>
  s_cons (s_if (d_cmpT op_in_seq l_in (d_idx (u1 hr) (d_var (i := 0) rfl (Or.inl rfl) nd_expression nc_expression) (d_int) (fun _ _ => rfl)) (d_tup (d_cons (d_str) (d_cons (d_str) (d_nil) rfl) rfl)) rfl) (s_one (s_ret (d_callT call_int1 l_int1 rfl M.n_int b_int (d_cons (d_cmp (op_eqA hr.units) l_eq (d_idx (u1 hr) (d_var (i := 0) rfl (Or.inl rfl) nd_expression nc_expression) (d_int) (fun _ _ => rfl)) (d_str) (nomark _)) (d_nil) rfl) rfl nn_int nd_int))) (s_nil)) (s_cons (s_par (i := 1) (j := 2) rfl nd_N rfl rfl (by decide) rfl rfl (d_cons (d_call c_expression_degree hr (Nat.le_refl _) rfl (d_cons (d_idx (u1 hr) (d_var (i := 0) rfl (Or.inl rfl) nd_expression nc_expression) (d_int) (fun _ _ => rfl)) (d_nil) rfl) rfl nd_expression_degree) (d_cons (d_call c_expression_degree hr (Nat.le_refl _) rfl (d_cons (d_idx (u1 hr) (d_var (i := 0) rfl (Or.inl rfl) nd_expression nc_expression) (d_int) (fun _ _ => rfl)) (d_nil) rfl) rfl nd_expression_degree) (d_nil) rfl) rfl) rfl rfl) (s_one (s_ret (d_if (d_cmpT (op_eqA hr.units) l_eq (d_idx (u1 hr) (d_var (i := 0) rfl (Or.inl rfl) nd_expression nc_expression) (d_int) (fun _ _ => rfl)) (d_str) (nomark _)) (d_add (d_var (i := 1) rfl (Or.inl rfl) nd_first nc_first) (d_var (i := 2) rfl (Or.inl rfl) nd_second nc_second)) (d_callB (call_maxA rfl) l_max rfl M.n_max b_max (d_cons (d_var (i := 1) rfl (Or.inl rfl) nd_first nc_first) (d_cons (d_var (i := 2) rfl (Or.inl rfl) nd_second nc_second) (d_nil) rfl) rfl) rfl nn_max nd_max)))))
end F_expression_degree

namespace F_expression_sum
abbrev st : Stmt := top 3
abbrev N : List Str := ["parts", "found", "one"]
theorem nd_N : N.Nodup := by decide +kernel
theorem sc : FnScope N ["parts"] (defScope st) := ⟨rfl, rfl, rfl, by decide +kernel, rfl, by decide +kernel, by decide +kernel⟩
def ws : WS := wSeq (wAsg (wTup (wCons (wC (.str "num")) (wCons (wC (.int 0)) (wNil)))) (.nm 1)) (wSeq (wFor (wVal (wVar 0)) (.nm 2) (wAsg (wTup (wCons (wC (.str "add")) (wCons (wVar 1) (wCons (wVar 2) (wNil))))) (.nm 1))) (wRet (wVar 1)))
theorem walk {P : Program} {w : World} {K : PySem.W.Frag} {mg : Str → Option Value} {base : Heap} {k : Nat} (M : Mg K w mg) : Walk P w K mg base k N "expression_sum" (defScope st) (defBody st) (ws) := fun f cd A outer s H E hr =>
  s_cons (s_set (i := 1) nd_N rfl (Or.inl rfl) (d_tup (d_cons (d_str) (d_cons (d_int) (d_nil) rfl) rfl)) rfl (Or.inl rfl)) (s_cons (s_for PassesOwn.never rfl (i_val (d_var (i := 0) rfl (Or.inl rfl) nd_parts nc_parts)) (g_name nd_N rfl (Or.inl rfl) (Or.inl rfl)) (s_one (s_set (i := 1) nd_N rfl (Or.inl rfl) (d_tup (d_cons (d_str) (d_cons (d_var (i := 1) rfl (Or.inl rfl) nd_found nc_found) (d_cons (d_var (i := 2) rfl (Or.inl rfl) nd_one nc_one) (d_nil) rfl) rfl) rfl)) rfl (Or.inl rfl))) (fun _ => rfl)) (s_one (s_ret (d_var (i := 1) rfl (Or.inl rfl) nd_found nc_found))))
end F_expression_sum

namespace F_expression_by_powers
abbrev st : Stmt := top 4
abbrev N : List Str := ["parts", "number", "first", "p", "found", "power", "k"]
theorem nd_N : N.Nodup := by decide +kernel
theorem sc : FnScope N ["parts", "number", "first", "p"] (defScope st) := ⟨rfl, rfl, rfl, by decide +kernel, rfl, by decide +kernel, by decide +kernel⟩
def ws (g_expression_sum : SpD) : WS := wSeq (wPar 4 5 (wCons (wLst (wNil)) (wCons (wBin oMod (wC (.int 1)) (wVar 3)) (wNil)))) (wSeq (wFor (wRng1 (wBin oAdd (wVar 2) (wCB bLen (wCons (wVar 0) (wNil))))) (.nm 6) (wSeq (wIfS (wBt (wBin oGe (wVar 6) (wVar 2))) (wDrop (wM gAppend (wVar 4) (wCons (wTup (wCons (wC (.str "mul")) (wCons (wTup (wCons (wC (.str "num")) (wCons (wVar 5) (wNil)))) (wCons (wBin oIdx (wVar 0) (wBin oSub (wVar 6) (wVar 2))) (wNil))))) (wNil)))) (wNext)) (wAsg (wBin oMod (wBin oMul (wVar 5) (wVar 1)) (wVar 3)) (.nm 5)))) (wRet (wCall g_expression_sum (wCons (wVar 4) (wNil)))))
theorem walk {P : Program} {w : World} {K : PySem.W.Frag} {mg : Str → Option Value} {base : Heap} {k : Nat} (M : Mg K w mg) {g_expression_sum : SpD} (c_expression_sum : Own P w K mg base k "expression_sum" g_expression_sum) : Walk P w K mg base k N "expression_by_powers" (defScope st) (defBody st) (ws g_expression_sum) := fun f cd A outer s H E hr =>
  s_cons (s_par (i := 4) (j := 5) rfl nd_N rfl rfl (by decide) rfl rfl (d_cons (d_lst (d_nil)) (d_cons (d_mod (d_int) (d_var (i := 3) rfl (Or.inl rfl) nd_p nc_p)) (d_nil) rfl) rfl) rfl rfl) (s_cons (s_for PassesOwn.never rfl (i_range1 rfl M.n_range (d_add (d_var (i := 2) rfl (Or.inl rfl) nd_first nc_first) (d_callB call_len l_len rfl M.n_len b_len (d_cons (d_var (i := 0) rfl (Or.inl rfl) nd_parts nc_parts) (d_nil) rfl) rfl nn_len nd_len)) rfl) (g_name nd_N rfl (Or.inl rfl) (Or.inl rfl)) (s_cons (s_if (d_cmpT op_ge l_rel (d_var (i := 6) rfl (Or.inl rfl) nd_k nc_k) (d_var (i := 2) rfl (Or.inl rfl) nd_first nc_first) (nomark _)) (s_one (s_expr (d_append (d_var (i := 4) rfl (Or.inl rfl) nd_found nc_found) (d_cons (d_tup (d_cons (d_str) (d_cons (d_tup (d_cons (d_str) (d_cons (d_var (i := 5) rfl (Or.inl rfl) nd_power nc_power) (d_nil) rfl) rfl)) (d_cons (d_idx (u1 hr) (d_var (i := 0) rfl (Or.inl rfl) nd_parts nc_parts) (d_sub (d_var (i := 6) rfl (Or.inl rfl) nd_k nc_k) (d_var (i := 2) rfl (Or.inl rfl) nd_first nc_first)) (fun _ _ => rfl)) (d_nil) rfl) rfl) rfl)) (d_nil) rfl) rfl rfl rfl) rfl)) (s_nil)) (s_one (s_set (i := 5) nd_N rfl (Or.inl rfl) (d_mod (d_mul (d_var (i := 5) rfl (Or.inl rfl) nd_power nc_power) (d_var (i := 1) rfl (Or.inl rfl) nd_number nc_number)) (d_var (i := 3) rfl (Or.inl rfl) nd_p nc_p)) rfl (Or.inl rfl)))) (fun _ => rfl)) (s_one (s_ret (d_call c_expression_sum hr (Nat.le_refl _) rfl (d_cons (d_var (i := 4) rfl (Or.inl rfl) nd_found nc_found) (d_nil) rfl) rfl nd_expression_sum))))
end F_expression_by_powers

namespace F_message_size
abbrev st : Stmt := top 6
abbrev N : List Str := ["expression"]
theorem nd_N : N.Nodup := by decide +kernel
theorem sc : FnScope N ["expression"] (defScope st) := ⟨rfl, rfl, rfl, by decide +kernel, rfl, by decide +kernel, by decide +kernel⟩
def ws (g_expression_degree : SpD) : WS := wRet (wBin oAdd (wCB bMax (wCons (wC (.int 1)) (wCons (wCall g_expression_degree (wCons (wVar 0) (wNil))) (wNil)))) (wC (.int 1)))
theorem walk {P : Program} {w : World} {K : PySem.W.Frag} {mg : Str → Option Value} {base : Heap} {k : Nat} (M : Mg K w mg) {g_expression_degree : SpD} (c_expression_degree : Own P w K mg base k "expression_degree" g_expression_degree) : Walk P w K mg base k N "message_size" (defScope st) (defBody st) (ws g_expression_degree) := fun f cd A outer s H E hr =>
  s_one (s_ret (d_add (d_callB (call_maxA rfl) l_max rfl M.n_max b_max (d_cons (d_int) (d_cons (d_call c_expression_degree hr (Nat.le_refl _) rfl (d_cons (d_var (i := 0) rfl (Or.inl rfl) nd_expression nc_expression) (d_nil) rfl) rfl nd_expression_degree) (d_nil) rfl) rfl) rfl nn_max nd_max) (d_int)))
end F_message_size

namespace F_book_high
abbrev st : Stmt := top 8
abbrev N : List Str := ["bits"]
theorem nd_N : N.Nodup := by decide +kernel
theorem sc : FnScope N ["bits"] (defScope st) := ⟨rfl, rfl, rfl, by decide +kernel, rfl, by decide +kernel, by decide +kernel⟩
def ws : WS := wRet (wCB bMax (wCons (wC (.int 0)) (wCons (wBin oSub (wBin oShr (wVar 0) (wC (.int 1))) (wC (.int 3))) (wNil))))
theorem walk {P : Program} {w : World} {K : PySem.W.Frag} {mg : Str → Option Value} {base : Heap} {k : Nat} (M : Mg K w mg) : Walk P w K mg base k N "book_high" (defScope st) (defBody st) (ws) := fun f cd A outer s H E hr =>
  s_one (s_ret (d_callB (call_maxA rfl) l_max rfl M.n_max b_max (d_cons (d_int) (d_cons (d_sub (d_shr (d_var (i := 0) rfl (Or.inl rfl) nd_bits nc_bits) (d_int)) (d_int)) (d_nil) rfl) rfl) rfl nn_max nd_max))
end F_book_high

namespace F_book_size
abbrev st : Stmt := top 9
abbrev N : List Str := ["bits"]
theorem nd_N : N.Nodup := by decide +kernel
theorem sc : FnScope N ["bits"] (defScope st) := ⟨rfl, rfl, rfl, by decide +kernel, rfl, by decide +kernel, by decide +kernel⟩
def ws (g_book_high : SpD) : WS := wRet (wBin oShl (wC (.int 1)) (wBin oSub (wVar 0) (wCall g_book_high (wCons (wVar 0) (wNil)))))
theorem walk {P : Program} {w : World} {K : PySem.W.Frag} {mg : Str → Option Value} {base : Heap} {k : Nat} (M : Mg K w mg) {g_book_high : SpD} (c_book_high : Own P w K mg base k "book_high" g_book_high) : Walk P w K mg base k N "book_size" (defScope st) (defBody st) (ws g_book_high) := fun f cd A outer s H E hr =>
  s_one (s_ret (d_shl (d_int) (d_sub (d_var (i := 0) rfl (Or.inl rfl) nd_bits nc_bits) (d_call c_book_high hr (Nat.le_refl _) rfl (d_cons (d_var (i := 0) rfl (Or.inl rfl) nd_bits nc_bits) (d_nil) rfl) rfl nd_book_high))))
end F_book_size

namespace F_book_points
abbrev st : Stmt := top 10
abbrev N : List Str := ["bits"]
theorem nd_N : N.Nodup := by decide +kernel
theorem sc : FnScope N ["bits"] (defScope st) := ⟨rfl, rfl, rfl, by decide +kernel, rfl, by decide +kernel, by decide +kernel⟩
def ws (g_book_size : SpD) : WS := wRet (wBin oMul (wC (.int 4)) (wCall g_book_size (wCons (wVar 0) (wNil))))
theorem walk {P : Program} {w : World} {K : PySem.W.Frag} {mg : Str → Option Value} {base : Heap} {k : Nat} (M : Mg K w mg) {g_book_size : SpD} (c_book_size : Own P w K mg base k "book_size" g_book_size) : Walk P w K mg base k N "book_points" (defScope st) (defBody st) (ws g_book_size) := fun f cd A outer s H E hr =>
  s_one (s_ret (d_mul (d_glo M.g_CODE_TIMES rfl nd_CODE_TIMES) (d_call c_book_size hr (Nat.le_refl _) rfl (d_cons (d_var (i := 0) rfl (Or.inl rfl) nd_bits nc_bits) (d_nil) rfl) rfl nd_book_size)))
end F_book_points

namespace F_book_height
abbrev st : Stmt := top 11
abbrev N : List Str := ["many", "bits"]
theorem nd_N : N.Nodup := by decide +kernel
theorem sc : FnScope N ["many", "bits"] (defScope st) := ⟨rfl, rfl, rfl, by decide +kernel, rfl, by decide +kernel, by decide +kernel⟩
def ws (g_book_high : SpD) : WS := wRet (wBin oShl (wVar 0) (wCall g_book_high (wCons (wVar 1) (wNil))))
theorem walk {P : Program} {w : World} {K : PySem.W.Frag} {mg : Str → Option Value} {base : Heap} {k : Nat} (M : Mg K w mg) {g_book_high : SpD} (c_book_high : Own P w K mg base k "book_high" g_book_high) : Walk P w K mg base k N "book_height" (defScope st) (defBody st) (ws g_book_high) := fun f cd A outer s H E hr =>
  s_one (s_ret (d_shl (d_var (i := 0) rfl (Or.inl rfl) nd_many nc_many) (d_call c_book_high hr (Nat.le_refl _) rfl (d_cons (d_var (i := 1) rfl (Or.inl rfl) nd_bits nc_bits) (d_nil) rfl) rfl nd_book_high)))
end F_book_height

namespace F_whole_power
abbrev st : Stmt := top 14
abbrev N : List Str := ["number", "many", "found", "k"]
theorem nd_N : N.Nodup := by decide +kernel
theorem sc : FnScope N ["number", "many"] (defScope st) := ⟨rfl, rfl, rfl, by decide +kernel, rfl, by decide +kernel, by decide +kernel⟩
def ws : WS := wSeq (wAsg (wC (.int 1)) (.nm 2)) (wSeq (wFor (wRng1 (wVar 1)) (.nm 3) (wAsg (wBin oMul (wVar 2) (wVar 0)) (.nm 2))) (wRet (wVar 2)))
theorem walk {P : Program} {w : World} {K : PySem.W.Frag} {mg : Str → Option Value} {base : Heap} {k : Nat} (M : Mg K w mg) : Walk P w K mg base k N "whole_power" (defScope st) (defBody st) (ws) := fun f cd A outer s H E hr =>
  s_cons (s_set (i := 2) nd_N rfl (Or.inl rfl) (d_int) rfl (Or.inl rfl)) (s_cons (s_for PassesOwn.never rfl (i_range1 rfl M.n_range (d_var (i := 1) rfl (Or.inl rfl) nd_many nc_many) rfl) (g_name nd_N rfl (Or.inl rfl) (Or.inl rfl)) (s_one (s_set (i := 2) nd_N rfl (Or.inl rfl) (d_mul (d_var (i := 2) rfl (Or.inl rfl) nd_found nc_found) (d_var (i := 0) rfl (Or.inl rfl) nd_number nc_number)) rfl (Or.inl rfl))) (fun _ => rfl)) (s_one (s_ret (d_var (i := 2) rfl (Or.inl rfl) nd_found nc_found))))
end F_whole_power

namespace F_most_vanishing
abbrev st : Stmt := top 15
abbrev N : List Str := ["bits", "p"]
theorem nd_N : N.Nodup := by decide +kernel
theorem sc : FnScope N ["bits", "p"] (defScope st) := ⟨rfl, rfl, rfl, by decide +kernel, rfl, by decide +kernel, by decide +kernel⟩
def ws (g_whole_power : SpD) : WS := wRet (wBin oSub (wCall g_whole_power (wCons (wVar 1) (wCons (wVar 0) (wNil)))) (wCall g_whole_power (wCons (wBin oSub (wVar 1) (wC (.int 1))) (wCons (wVar 0) (wNil)))))
theorem walk {P : Program} {w : World} {K : PySem.W.Frag} {mg : Str → Option Value} {base : Heap} {k : Nat} (M : Mg K w mg) {g_whole_power : SpD} (c_whole_power : Own P w K mg base k "whole_power" g_whole_power) : Walk P w K mg base k N "most_vanishing" (defScope st) (defBody st) (ws g_whole_power) := fun f cd A outer s H E hr =>
  s_one (s_ret (d_sub (d_call c_whole_power hr (Nat.le_refl _) rfl (d_cons (d_var (i := 1) rfl (Or.inl rfl) nd_p nc_p) (d_cons (d_var (i := 0) rfl (Or.inl rfl) nd_bits nc_bits) (d_nil) rfl) rfl) rfl nd_whole_power) (d_call c_whole_power hr (Nat.le_refl _) rfl (d_cons (d_sub (d_var (i := 1) rfl (Or.inl rfl) nd_p nc_p) (d_int)) (d_cons (d_var (i := 0) rfl (Or.inl rfl) nd_bits nc_bits) (d_nil) rfl) rfl) rfl nd_whole_power)))
end F_most_vanishing

namespace F_joined_expression
abbrev st : Stmt := top 17
abbrev N : List Str := ["rules", "sums", "many", "alpha", "p"]
theorem nd_N : N.Nodup := by decide +kernel
theorem sc : FnScope N ["rules", "sums", "many", "alpha", "p"] (defScope st) := ⟨rfl, rfl, rfl, by decide +kernel, rfl, by decide +kernel, by decide +kernel⟩
def ws (g_expression_by_powers : SpD) : WS := wRet (wTup (wCons (wC (.str "add")) (wCons (wTup (wCons (wC (.str "mul")) (wCons (wTup (wCons (wC (.str "col")) (wCons (wVar 2) (wNil)))) (wCons (wCall g_expression_by_powers (wCons (wVar 0) (wCons (wVar 3) (wCons (wC (.int 0)) (wCons (wVar 4) (wNil)))))) (wNil))))) (wCons (wCall g_expression_by_powers (wCons (wVar 1) (wCons (wVar 3) (wCons (wCB bLen (wCons (wVar 0) (wNil))) (wCons (wVar 4) (wNil)))))) (wNil)))))
theorem walk {P : Program} {w : World} {K : PySem.W.Frag} {mg : Str → Option Value} {base : Heap} {k : Nat} (M : Mg K w mg) {g_expression_by_powers : SpD} (c_expression_by_powers : Own P w K mg base k "expression_by_powers" g_expression_by_powers) : Walk P w K mg base k N "joined_expression" (defScope st) (defBody st) (ws g_expression_by_powers) := fun f cd A outer s H E hr =>
  s_one (s_ret (d_tup (d_cons (d_str) (d_cons (d_tup (d_cons (d_str) (d_cons (d_tup (d_cons (d_str) (d_cons (d_var (i := 2) rfl (Or.inl rfl) nd_many nc_many) (d_nil) rfl) rfl)) (d_cons (d_call c_expression_by_powers hr (Nat.le_refl _) rfl (d_cons (d_var (i := 0) rfl (Or.inl rfl) nd_rules nc_rules) (d_cons (d_var (i := 3) rfl (Or.inl rfl) nd_alpha nc_alpha) (d_cons (d_int) (d_cons (d_var (i := 4) rfl (Or.inl rfl) nd_p nc_p) (d_nil) rfl) rfl) rfl) rfl) rfl nd_expression_by_powers) (d_nil) rfl) rfl) rfl)) (d_cons (d_call c_expression_by_powers hr (Nat.le_refl _) rfl (d_cons (d_var (i := 1) rfl (Or.inl rfl) nd_sums nc_sums) (d_cons (d_var (i := 3) rfl (Or.inl rfl) nd_alpha nc_alpha) (d_cons (d_callB call_len l_len rfl M.n_len b_len (d_cons (d_var (i := 0) rfl (Or.inl rfl) nd_rules nc_rules) (d_nil) rfl) rfl nn_len nd_len) (d_cons (d_var (i := 4) rfl (Or.inl rfl) nd_p nc_p) (d_nil) rfl) rfl) rfl) rfl) rfl nd_expression_by_powers) (d_nil) rfl) rfl) rfl)))
end F_joined_expression

namespace F_near_radius
abbrev st : Stmt := top 19
abbrev N : List Str := ["size"]
theorem nd_N : N.Nodup := by decide +kernel
theorem sc : FnScope N ["size"] (defScope st) := ⟨rfl, rfl, rfl, by decide +kernel, rfl, by decide +kernel, by decide +kernel⟩
def ws : WS := wRet (wVar 0)
theorem walk {P : Program} {w : World} {K : PySem.W.Frag} {mg : Str → Option Value} {base : Heap} {k : Nat} (M : Mg K w mg) : Walk P w K mg base k N "near_radius" (defScope st) (defBody st) (ws) := fun f cd A outer s H E hr =>
  s_one (s_ret (d_var (i := 0) rfl (Or.inl rfl) nd_size nc_size))
end F_near_radius

namespace F_spot_weights
abbrev st : Stmt := top 21
abbrev N : List Str := ["points", "p", "spot"]
theorem nd_N : N.Nodup := by decide +kernel
theorem sc : FnScope N ["points", "p"] (defScope st) := ⟨rfl, rfl, rfl, by decide +kernel, rfl, by decide +kernel, by decide +kernel⟩
def ws : WS := wRet (wLc (wRng1 (wVar 0)) (.nm 2) (wYes) (wBin oDiv (wBin oSub (wBin oAdd (wBin oSub (wVar 1) (wVar 2)) (wVar 0)) (wC (.int 1))) (wVar 0)) [2])
theorem walk {P : Program} {w : World} {K : PySem.W.Frag} {mg : Str → Option Value} {base : Heap} {k : Nat} (M : Mg K w mg) : Walk P w K mg base k N "spot_weights" (defScope st) (defBody st) (ws) := fun f cd A outer s H E hr =>
  s_one (s_ret (d_lc (own := [("spot", 2)]) rfl nd_N (i_range1 rfl M.n_range (d_var (i := 0) rfl (Or.inr (Or.inl rfl)) nd_points nc_points) rfl) rfl rfl (fun _ _ _ _ _ => g_name nd_N rfl (Or.inl rfl) (Or.inr rfl)) (fun _ _ _ _ _ => t_nil) (fun _ _ _ _ _ => d_div (d_sub (d_add (d_sub (d_var (i := 1) rfl (Or.inr (Or.inl rfl)) nd_p nc_p) (d_var (i := 2) rfl (Or.inl rfl) nd_spot nc_spot)) (d_var (i := 0) rfl (Or.inr (Or.inl rfl)) nd_points nc_points)) (d_int)) (d_var (i := 0) rfl (Or.inr (Or.inl rfl)) nd_points nc_points)) (fun _ => rfl)))
end F_spot_weights

namespace F_most_wrong_weight
abbrev st : Stmt := top 22
abbrev N : List Str := ["size", "p", "weights"]
theorem nd_N : N.Nodup := by decide +kernel
theorem sc : FnScope N ["size", "p"] (defScope st) := ⟨rfl, rfl, rfl, by decide +kernel, rfl, by decide +kernel, by decide +kernel⟩
def ws (g_spot_weights : SpD) (g_near_radius : SpD) : WS := wSeq (wAsg (wCB bSorted (wCons (wCall g_spot_weights (wCons (wBin oMul (wC (.int 4)) (wVar 0)) (wCons (wVar 1) (wNil)))) (wNil))) (.nm 2)) (wRet (wCB bSum (wCons (wSl (wVar 2) (wPart (wBin oAdd (wCall g_near_radius (wCons (wVar 0) (wNil))) (wC (.int 1)))) (wNoPart)) (wNil))))
theorem walk {P : Program} {w : World} {K : PySem.W.Frag} {mg : Str → Option Value} {base : Heap} {k : Nat} (M : Mg K w mg) {g_spot_weights : SpD} {g_near_radius : SpD} (c_spot_weights : Own P w K mg base k "spot_weights" g_spot_weights) (c_near_radius : Own P w K mg base k "near_radius" g_near_radius) : Walk P w K mg base k N "most_wrong_weight" (defScope st) (defBody st) (ws g_spot_weights g_near_radius) := fun f cd A outer s H E hr =>
  s_cons (s_set (i := 2) nd_N rfl (Or.inl rfl) (d_callB cr_sortedI l_sorted rfl M.n_sorted b_sorted (d_cons (d_call c_spot_weights hr (Nat.le_refl _) rfl (d_cons (d_mul (d_glo M.g_CODE_TIMES rfl nd_CODE_TIMES) (d_var (i := 0) rfl (Or.inl rfl) nd_size nc_size)) (d_cons (d_var (i := 1) rfl (Or.inl rfl) nd_p nc_p) (d_nil) rfl) rfl) rfl nd_spot_weights) (d_nil) rfl) rfl nn_sorted nd_sorted) rfl (Or.inl rfl)) (s_one (s_ret (d_callB (cr_sum rfl) l_sum rfl M.n_sum b_sum (d_cons (d_sl (d_var (i := 2) rfl (Or.inl rfl) nd_weights nc_weights) (d_part (d_add (d_call c_near_radius hr (Nat.le_refl _) rfl (d_cons (d_var (i := 0) rfl (Or.inl rfl) nd_size nc_size) (d_nil) rfl) rfl nd_near_radius) (d_int))) (d_noPart)) (d_nil) rfl) rfl nn_sum nd_sum)))
end F_most_wrong_weight

namespace F_domain_bits
abbrev st : Stmt := top 33
abbrev N : List Str := ["domain", "n"]
theorem nd_N : N.Nodup := by decide +kernel
theorem sc : FnScope N ["domain", "n"] (defScope st) := ⟨rfl, rfl, rfl, by decide +kernel, rfl, by decide +kernel, by decide +kernel⟩
def ws : WS := wRet (wBin oIdx (wDisp (("rows", wVar 1) :: ("cells", wC (.int 6)) :: ("code", wC (.int 6)) :: ("times", wBin oAdd (wVar 1) (wC (.int 3))) :: [])) (wVar 0))
theorem walk {P : Program} {w : World} {K : PySem.W.Frag} {mg : Str → Option Value} {base : Heap} {k : Nat} (M : Mg K w mg) : Walk P w K mg base k N "domain_bits" (defScope st) (defBody st) (ws) := fun f cd A outer s H E hr =>
  s_one (s_ret (d_idx (u1 hr) (d_disp (dp_cons (d_var (i := 1) rfl (Or.inl rfl) nd_n nc_n) (dp_cons (d_int) (dp_cons (d_int) (dp_cons (d_add (d_var (i := 1) rfl (Or.inl rfl) nd_n nc_n) (d_int)) (dp_nil))))) rfl rfl rfl) (d_var (i := 0) rfl (Or.inl rfl) nd_domain nc_domain) (fun _ _ => rfl)))
end F_domain_bits

namespace F_told_many
abbrev st : Stmt := top 34
abbrev N : List Str := ["domain"]
theorem nd_N : N.Nodup := by decide +kernel
theorem sc : FnScope N ["domain"] (defScope st) := ⟨rfl, rfl, rfl, by decide +kernel, rfl, by decide +kernel, by decide +kernel⟩
def ws : WS := wRet (wBin oAdd (wBin oIdx (wC (.kd ["rows", "cells", "code", "times"] [(.int 30), (.int 2), (.int 1), (.int 1)])) (wVar 0)) (wBin oIdx (wC (.kd ["rows", "cells", "code", "times"] [(.int 16), (.int 2), (.int 1), (.int 1)])) (wVar 0)))
theorem walk {P : Program} {w : World} {K : PySem.W.Frag} {mg : Str → Option Value} {base : Heap} {k : Nat} (M : Mg K w mg) : Walk P w K mg base k N "told_many" (defScope st) (defBody st) (ws) := fun f cd A outer s H E hr =>
  s_one (s_ret (d_add (d_idx (u1 hr) (d_glo M.g_FIRST_MANY rfl nd_FIRST_MANY) (d_var (i := 0) rfl (Or.inl rfl) nd_domain nc_domain) (fun _ _ => rfl)) (d_idx (u1 hr) (d_glo M.g_SECOND_MANY rfl nd_SECOND_MANY) (d_var (i := 0) rfl (Or.inl rfl) nd_domain nc_domain) (fun _ _ => rfl))))
end F_told_many

namespace F_column_part
abbrev st : Stmt := top 35
abbrev N : List Str := ["k"]
theorem nd_N : N.Nodup := by decide +kernel
theorem sc : FnScope N ["k"] (defScope st) := ⟨rfl, rfl, rfl, by decide +kernel, rfl, by decide +kernel, by decide +kernel⟩
def ws : WS := wRet (wTup (wCons (wC (.str "col")) (wCons (wVar 0) (wNil))))
theorem walk {P : Program} {w : World} {K : PySem.W.Frag} {mg : Str → Option Value} {base : Heap} {k : Nat} (M : Mg K w mg) : Walk P w K mg base k N "column_part" (defScope st) (defBody st) (ws) := fun f cd A outer s H E hr =>
  s_one (s_ret (d_tup (d_cons (d_str) (d_cons (d_var (i := 0) rfl (Or.inl rfl) nd_k nc_k) (d_nil) rfl) rfl)))
end F_column_part

namespace F_number_part
abbrev st : Stmt := top 36
abbrev N : List Str := ["k"]
theorem nd_N : N.Nodup := by decide +kernel
theorem sc : FnScope N ["k"] (defScope st) := ⟨rfl, rfl, rfl, by decide +kernel, rfl, by decide +kernel, by decide +kernel⟩
def ws : WS := wRet (wTup (wCons (wC (.str "num")) (wCons (wVar 0) (wNil))))
theorem walk {P : Program} {w : World} {K : PySem.W.Frag} {mg : Str → Option Value} {base : Heap} {k : Nat} (M : Mg K w mg) : Walk P w K mg base k N "number_part" (defScope st) (defBody st) (ws) := fun f cd A outer s H E hr =>
  s_one (s_ret (d_tup (d_cons (d_str) (d_cons (d_var (i := 0) rfl (Or.inl rfl) nd_k nc_k) (d_nil) rfl) rfl)))
end F_number_part

namespace F_gap_part
abbrev st : Stmt := top 37
abbrev N : List Str := ["one", "other"]
theorem nd_N : N.Nodup := by decide +kernel
theorem sc : FnScope N ["one", "other"] (defScope st) := ⟨rfl, rfl, rfl, by decide +kernel, rfl, by decide +kernel, by decide +kernel⟩
def ws : WS := wRet (wTup (wCons (wC (.str "sub")) (wCons (wVar 0) (wCons (wVar 1) (wNil)))))
theorem walk {P : Program} {w : World} {K : PySem.W.Frag} {mg : Str → Option Value} {base : Heap} {k : Nat} (M : Mg K w mg) : Walk P w K mg base k N "gap_part" (defScope st) (defBody st) (ws) := fun f cd A outer s H E hr =>
  s_one (s_ret (d_tup (d_cons (d_str) (d_cons (d_var (i := 0) rfl (Or.inl rfl) nd_one nc_one) (d_cons (d_var (i := 1) rfl (Or.inl rfl) nd_other nc_other) (d_nil) rfl) rfl) rfl)))
end F_gap_part

namespace F_product_part
abbrev st : Stmt := top 38
abbrev N : List Str := ["one", "other"]
theorem nd_N : N.Nodup := by decide +kernel
theorem sc : FnScope N ["one", "other"] (defScope st) := ⟨rfl, rfl, rfl, by decide +kernel, rfl, by decide +kernel, by decide +kernel⟩
def ws : WS := wRet (wTup (wCons (wC (.str "mul")) (wCons (wVar 0) (wCons (wVar 1) (wNil)))))
theorem walk {P : Program} {w : World} {K : PySem.W.Frag} {mg : Str → Option Value} {base : Heap} {k : Nat} (M : Mg K w mg) : Walk P w K mg base k N "product_part" (defScope st) (defBody st) (ws) := fun f cd A outer s H E hr =>
  s_one (s_ret (d_tup (d_cons (d_str) (d_cons (d_var (i := 0) rfl (Or.inl rfl) nd_one nc_one) (d_cons (d_var (i := 1) rfl (Or.inl rfl) nd_other nc_other) (d_nil) rfl) rfl) rfl)))
end F_product_part

namespace F_row_rules
abbrev st : Stmt := top 39
abbrev N : List Str := ["c", "number", "add", "sub", "mul", "get", "put", "zero", "jump", "stop", "k", "x", "y", "old", "new", "at", "found", "left", "later", "b", "other", "one", "keeps", "told", "ahead", "fork", "plain", "led", "reaches", "place", "kept", "j"]
theorem nd_N : N.Nodup := by decide +kernel
theorem sc : FnScope N [] (defScope st) := ⟨rfl, rfl, rfl, by decide +kernel, rfl, by decide +kernel, by decide +kernel⟩
def ws (g_column_part : SpD) (g_expression_sum : SpD) (g_number_part : SpD) (g_product_part : SpD) (g_gap_part : SpD) : WS := wSeq (wAsg (wLc (wRng1 (wC (.int 10))) (.nm 10) (wYes) (wCall g_column_part (wCons (wVar 10) (wNil))) [10]) (.lst ((.nm 0) :: (.nm 1) :: (.nm 2) :: (.nm 3) :: (.nm 4) :: (.nm 5) :: (.nm 6) :: (.nm 7) :: (.nm 8) :: (.nm 9) :: []))) (wSeq (wAsg (wLc (wRng2 (wC (.int 14)) (wC (.int 25))) (.nm 31) (wYes) (wCall g_column_part (wCons (wVar 31) (wNil))) [31]) (.lst ((.nm 10) :: (.nm 11) :: (.nm 12) :: (.nm 13) :: (.nm 14) :: (.nm 15) :: (.nm 16) :: (.nm 17) :: (.nm 18) :: (.nm 19) :: (.nm 20) :: []))) (wSeq (wPar 21 22 (wCons (wCall g_number_part (wCons (wC (.int 1)) (wNil))) (wCons (wCall g_expression_sum (wCons (wLst (wCons (wVar 6) (wCons (wVar 7) (wCons (wVar 8) (wCons (wVar 9) (wNil)))))) (wNil))) (wNil)))) (wSeq (wAsg (wLst (wCons (wCall g_product_part (wCons (wVar 1) (wCons (wVar 10) (wNil)))) (wCons (wCall g_product_part (wCons (wVar 2) (wCons (wCall g_expression_sum (wCons (wLst (wCons (wVar 11) (wCons (wVar 12) (wNil)))) (wNil))) (wNil)))) (wCons (wCall g_product_part (wCons (wVar 3) (wCons (wCall g_gap_part (wCons (wVar 11) (wCons (wVar 12) (wNil)))) (wNil)))) (wCons (wCall g_product_part (wCons (wVar 4) (wCons (wCall g_product_part (wCons (wVar 11) (wCons (wVar 12) (wNil)))) (wNil)))) (wCons (wCall g_product_part (wCons (wVar 5) (wCons (wVar 16) (wNil)))) (wCons (wCall g_product_part (wCons (wVar 22) (wCons (wVar 13) (wNil)))) (wNil)))))))) (.nm 23)) (wSeq (wAsg (wCall g_expression_sum (wCons (wLst (wCons (wVar 0) (wCons (wVar 21) (wNil)))) (wNil))) (.nm 24)) (wSeq (wAsg (wCall g_expression_sum (wCons (wLst (wCons (wCall g_product_part (wCons (wVar 19) (wCons (wVar 10) (wNil)))) (wCons (wCall g_product_part (wCons (wCall g_gap_part (wCons (wVar 21) (wCons (wVar 19) (wNil)))) (wCons (wVar 24) (wNil)))) (wNil)))) (wNil))) (.nm 25)) (wSeq (wAsg (wCall g_gap_part (wCons (wCall g_gap_part (wCons (wCall g_gap_part (wCons (wVar 21) (wCons (wVar 8) (wNil)))) (wCons (wVar 9) (wNil)))) (wCons (wVar 7) (wNil)))) (.nm 26)) (wSeq (wAsg (wLst (wCons (wCall g_product_part (wCons (wVar 8) (wCons (wVar 10) (wNil)))) (wCons (wCall g_product_part (wCons (wVar 9) (wCons (wVar 0) (wNil)))) (wCons (wCall g_product_part (wCons (wVar 7) (wCons (wVar 25) (wNil)))) (wCons (wCall g_product_part (wCons (wVar 26) (wCons (wVar 24) (wNil)))) (wNil)))))) (.nm 27)) (wSeq (wAsg (wCall g_expression_sum (wCons (wLst (wCons (wVar 5) (wCons (wVar 6) (wNil)))) (wNil))) (.nm 28)) (wSeq (wAsg (wLst (wCons (wCall g_product_part (wCons (wVar 28) (wCons (wVar 11) (wNil)))) (wCons (wCall g_product_part (wCons (wCall g_gap_part (wCons (wVar 21) (wCons (wVar 28) (wNil)))) (wCons (wCall g_number_part (wCons (wC (.int 14)) (wNil))) (wNil)))) (wNil)))) (.nm 29)) (wSeq (wAsg (wLst (wCons (wCall g_product_part (wCons (wVar 6) (wCons (wVar 12) (wNil)))) (wCons (wCall g_product_part (wCons (wCall g_gap_part (wCons (wVar 21) (wCons (wVar 6) (wNil)))) (wCons (wVar 16) (wNil)))) (wNil)))) (.nm 30)) (wRet (wLst (wCons (wCall g_gap_part (wCons (wVar 14) (wCons (wCall g_expression_sum (wCons (wVar 23) (wNil))) (wNil)))) (wCons (wCall g_gap_part (wCons (wVar 15) (wCons (wCall g_expression_sum (wCons (wVar 29) (wNil))) (wNil)))) (wCons (wCall g_gap_part (wCons (wVar 17) (wCons (wCall g_expression_sum (wCons (wVar 30) (wNil))) (wNil)))) (wCons (wCall g_product_part (wCons (wVar 19) (wCons (wVar 11) (wNil)))) (wCons (wCall g_gap_part (wCons (wCall g_product_part (wCons (wVar 11) (wCons (wVar 20) (wNil)))) (wCons (wCall g_gap_part (wCons (wVar 21) (wCons (wVar 19) (wNil)))) (wNil)))) (wCons (wCall g_gap_part (wCons (wVar 18) (wCons (wCall g_expression_sum (wCons (wVar 27) (wNil))) (wNil)))) (wCons (wCall g_product_part (wCons (wVar 19) (wCons (wVar 20) (wNil)))) (wNil))))))))))))))))))))
theorem walk {P : Program} {w : World} {K : PySem.W.Frag} {mg : Str → Option Value} {base : Heap} {k : Nat} (M : Mg K w mg) {g_column_part : SpD} {g_expression_sum : SpD} {g_number_part : SpD} {g_product_part : SpD} {g_gap_part : SpD} (c_column_part : Own P w K mg base k "column_part" g_column_part) (c_expression_sum : Own P w K mg base k "expression_sum" g_expression_sum) (c_number_part : Own P w K mg base k "number_part" g_number_part) (c_product_part : Own P w K mg base k "product_part" g_product_part) (c_gap_part : Own P w K mg base k "gap_part" g_gap_part) : Walk P w K mg base k N "row_rules" (defScope st) (defBody st) (ws g_column_part g_expression_sum g_number_part g_product_part g_gap_part) := fun f cd A outer s H E hr =>
  s_cons (s_asg (d_lc (own := [("k", 10)]) rfl nd_N (i_range1 rfl M.n_range (d_int) rfl) rfl rfl (fun _ _ _ _ _ => g_name nd_N rfl (Or.inl rfl) (Or.inr rfl)) (fun _ _ _ _ _ => t_nil) (fun _ _ _ _ _ => d_call c_column_part hr (Nat.le_refl _) rfl (d_cons (d_var (i := 10) rfl (Or.inl rfl) nd_k nc_k) (d_nil) rfl) rfl nd_column_part) (fun _ => rfl)) (g_lst rfl (gs_cons (g_name nd_N rfl (Or.inl rfl) (Or.inl rfl)) (gs_cons (g_name nd_N rfl (Or.inl rfl) (Or.inl rfl)) (gs_cons (g_name nd_N rfl (Or.inl rfl) (Or.inl rfl)) (gs_cons (g_name nd_N rfl (Or.inl rfl) (Or.inl rfl)) (gs_cons (g_name nd_N rfl (Or.inl rfl) (Or.inl rfl)) (gs_cons (g_name nd_N rfl (Or.inl rfl) (Or.inl rfl)) (gs_cons (g_name nd_N rfl (Or.inl rfl) (Or.inl rfl)) (gs_cons (g_name nd_N rfl (Or.inl rfl) (Or.inl rfl)) (gs_cons (g_name nd_N rfl (Or.inl rfl) (Or.inl rfl)) (gs_cons (g_name nd_N rfl (Or.inl rfl) (Or.inl rfl)) (gs_nil) rfl) rfl) rfl) rfl) rfl) rfl) rfl) rfl) rfl) rfl)) rfl rfl rfl) (s_cons (s_asg (d_lc (own := [("j", 31)]) rfl nd_N (i_range2 rfl M.n_range (d_int) (d_int) rfl rfl) rfl rfl (fun _ _ _ _ _ => g_name nd_N rfl (Or.inl rfl) (Or.inr rfl)) (fun _ _ _ _ _ => t_nil) (fun _ _ _ _ _ => d_call c_column_part hr (Nat.le_refl _) rfl (d_cons (d_var (i := 31) rfl (Or.inl rfl) nd_j nc_j) (d_nil) rfl) rfl nd_column_part) (fun _ => rfl)) (g_lst rfl (gs_cons (g_name nd_N rfl (Or.inl rfl) (Or.inl rfl)) (gs_cons (g_name nd_N rfl (Or.inl rfl) (Or.inl rfl)) (gs_cons (g_name nd_N rfl (Or.inl rfl) (Or.inl rfl)) (gs_cons (g_name nd_N rfl (Or.inl rfl) (Or.inl rfl)) (gs_cons (g_name nd_N rfl (Or.inl rfl) (Or.inl rfl)) (gs_cons (g_name nd_N rfl (Or.inl rfl) (Or.inl rfl)) (gs_cons (g_name nd_N rfl (Or.inl rfl) (Or.inl rfl)) (gs_cons (g_name nd_N rfl (Or.inl rfl) (Or.inl rfl)) (gs_cons (g_name nd_N rfl (Or.inl rfl) (Or.inl rfl)) (gs_cons (g_name nd_N rfl (Or.inl rfl) (Or.inl rfl)) (gs_cons (g_name nd_N rfl (Or.inl rfl) (Or.inl rfl)) (gs_nil) rfl) rfl) rfl) rfl) rfl) rfl) rfl) rfl) rfl) rfl) rfl)) rfl rfl rfl) (s_cons (s_par (i := 21) (j := 22) rfl nd_N rfl rfl (by decide) rfl rfl (d_cons (d_call c_number_part hr (Nat.le_refl _) rfl (d_cons (d_int) (d_nil) rfl) rfl nd_number_part) (d_cons (d_call c_expression_sum hr (Nat.le_refl _) rfl (d_cons (d_lst (d_cons (d_var (i := 6) rfl (Or.inl rfl) nd_put nc_put) (d_cons (d_var (i := 7) rfl (Or.inl rfl) nd_zero nc_zero) (d_cons (d_var (i := 8) rfl (Or.inl rfl) nd_jump nc_jump) (d_cons (d_var (i := 9) rfl (Or.inl rfl) nd_stop nc_stop) (d_nil) rfl) rfl) rfl) rfl)) (d_nil) rfl) rfl nd_expression_sum) (d_nil) rfl) rfl) rfl rfl) (s_cons (s_set (i := 23) nd_N rfl (Or.inl rfl) (d_lst (d_cons (d_call c_product_part hr (Nat.le_refl _) rfl (d_cons (d_var (i := 1) rfl (Or.inl rfl) nd_number nc_number) (d_cons (d_var (i := 10) rfl (Or.inl rfl) nd_k nc_k) (d_nil) rfl) rfl) rfl nd_product_part) (d_cons (d_call c_product_part hr (Nat.le_refl _) rfl (d_cons (d_var (i := 2) rfl (Or.inl rfl) nd_add nc_add) (d_cons (d_call c_expression_sum hr (Nat.le_refl _) rfl (d_cons (d_lst (d_cons (d_var (i := 11) rfl (Or.inl rfl) nd_x nc_x) (d_cons (d_var (i := 12) rfl (Or.inl rfl) nd_y nc_y) (d_nil) rfl) rfl)) (d_nil) rfl) rfl nd_expression_sum) (d_nil) rfl) rfl) rfl nd_product_part) (d_cons (d_call c_product_part hr (Nat.le_refl _) rfl (d_cons (d_var (i := 3) rfl (Or.inl rfl) nd_sub nc_sub) (d_cons (d_call c_gap_part hr (Nat.le_refl _) rfl (d_cons (d_var (i := 11) rfl (Or.inl rfl) nd_x nc_x) (d_cons (d_var (i := 12) rfl (Or.inl rfl) nd_y nc_y) (d_nil) rfl) rfl) rfl nd_gap_part) (d_nil) rfl) rfl) rfl nd_product_part) (d_cons (d_call c_product_part hr (Nat.le_refl _) rfl (d_cons (d_var (i := 4) rfl (Or.inl rfl) nd_mul nc_mul) (d_cons (d_call c_product_part hr (Nat.le_refl _) rfl (d_cons (d_var (i := 11) rfl (Or.inl rfl) nd_x nc_x) (d_cons (d_var (i := 12) rfl (Or.inl rfl) nd_y nc_y) (d_nil) rfl) rfl) rfl nd_product_part) (d_nil) rfl) rfl) rfl nd_product_part) (d_cons (d_call c_product_part hr (Nat.le_refl _) rfl (d_cons (d_var (i := 5) rfl (Or.inl rfl) nd_get nc_get) (d_cons (d_var (i := 16) rfl (Or.inl rfl) nd_found nc_found) (d_nil) rfl) rfl) rfl nd_product_part) (d_cons (d_call c_product_part hr (Nat.le_refl _) rfl (d_cons (d_var (i := 22) rfl (Or.inl rfl) nd_keeps nc_keeps) (d_cons (d_var (i := 13) rfl (Or.inl rfl) nd_old nc_old) (d_nil) rfl) rfl) rfl nd_product_part) (d_nil) rfl) rfl) rfl) rfl) rfl) rfl)) rfl (Or.inl rfl)) (s_cons (s_set (i := 24) nd_N rfl (Or.inl rfl) (d_call c_expression_sum hr (Nat.le_refl _) rfl (d_cons (d_lst (d_cons (d_var (i := 0) rfl (Or.inl rfl) nd_c nc_c) (d_cons (d_var (i := 21) rfl (Or.inl rfl) nd_one nc_one) (d_nil) rfl) rfl)) (d_nil) rfl) rfl nd_expression_sum) rfl (Or.inl rfl)) (s_cons (s_set (i := 25) nd_N rfl (Or.inl rfl) (d_call c_expression_sum hr (Nat.le_refl _) rfl (d_cons (d_lst (d_cons (d_call c_product_part hr (Nat.le_refl _) rfl (d_cons (d_var (i := 19) rfl (Or.inl rfl) nd_b nc_b) (d_cons (d_var (i := 10) rfl (Or.inl rfl) nd_k nc_k) (d_nil) rfl) rfl) rfl nd_product_part) (d_cons (d_call c_product_part hr (Nat.le_refl _) rfl (d_cons (d_call c_gap_part hr (Nat.le_refl _) rfl (d_cons (d_var (i := 21) rfl (Or.inl rfl) nd_one nc_one) (d_cons (d_var (i := 19) rfl (Or.inl rfl) nd_b nc_b) (d_nil) rfl) rfl) rfl nd_gap_part) (d_cons (d_var (i := 24) rfl (Or.inl rfl) nd_ahead nc_ahead) (d_nil) rfl) rfl) rfl nd_product_part) (d_nil) rfl) rfl)) (d_nil) rfl) rfl nd_expression_sum) rfl (Or.inl rfl)) (s_cons (s_set (i := 26) nd_N rfl (Or.inl rfl) (d_call c_gap_part hr (Nat.le_refl _) rfl (d_cons (d_call c_gap_part hr (Nat.le_refl _) rfl (d_cons (d_call c_gap_part hr (Nat.le_refl _) rfl (d_cons (d_var (i := 21) rfl (Or.inl rfl) nd_one nc_one) (d_cons (d_var (i := 8) rfl (Or.inl rfl) nd_jump nc_jump) (d_nil) rfl) rfl) rfl nd_gap_part) (d_cons (d_var (i := 9) rfl (Or.inl rfl) nd_stop nc_stop) (d_nil) rfl) rfl) rfl nd_gap_part) (d_cons (d_var (i := 7) rfl (Or.inl rfl) nd_zero nc_zero) (d_nil) rfl) rfl) rfl nd_gap_part) rfl (Or.inl rfl)) (s_cons (s_set (i := 27) nd_N rfl (Or.inl rfl) (d_lst (d_cons (d_call c_product_part hr (Nat.le_refl _) rfl (d_cons (d_var (i := 8) rfl (Or.inl rfl) nd_jump nc_jump) (d_cons (d_var (i := 10) rfl (Or.inl rfl) nd_k nc_k) (d_nil) rfl) rfl) rfl nd_product_part) (d_cons (d_call c_product_part hr (Nat.le_refl _) rfl (d_cons (d_var (i := 9) rfl (Or.inl rfl) nd_stop nc_stop) (d_cons (d_var (i := 0) rfl (Or.inl rfl) nd_c nc_c) (d_nil) rfl) rfl) rfl nd_product_part) (d_cons (d_call c_product_part hr (Nat.le_refl _) rfl (d_cons (d_var (i := 7) rfl (Or.inl rfl) nd_zero nc_zero) (d_cons (d_var (i := 25) rfl (Or.inl rfl) nd_fork nc_fork) (d_nil) rfl) rfl) rfl nd_product_part) (d_cons (d_call c_product_part hr (Nat.le_refl _) rfl (d_cons (d_var (i := 26) rfl (Or.inl rfl) nd_plain nc_plain) (d_cons (d_var (i := 24) rfl (Or.inl rfl) nd_ahead nc_ahead) (d_nil) rfl) rfl) rfl nd_product_part) (d_nil) rfl) rfl) rfl) rfl)) rfl (Or.inl rfl)) (s_cons (s_set (i := 28) nd_N rfl (Or.inl rfl) (d_call c_expression_sum hr (Nat.le_refl _) rfl (d_cons (d_lst (d_cons (d_var (i := 5) rfl (Or.inl rfl) nd_get nc_get) (d_cons (d_var (i := 6) rfl (Or.inl rfl) nd_put nc_put) (d_nil) rfl) rfl)) (d_nil) rfl) rfl nd_expression_sum) rfl (Or.inl rfl)) (s_cons (s_set (i := 29) nd_N rfl (Or.inl rfl) (d_lst (d_cons (d_call c_product_part hr (Nat.le_refl _) rfl (d_cons (d_var (i := 28) rfl (Or.inl rfl) nd_reaches nc_reaches) (d_cons (d_var (i := 11) rfl (Or.inl rfl) nd_x nc_x) (d_nil) rfl) rfl) rfl nd_product_part) (d_cons (d_call c_product_part hr (Nat.le_refl _) rfl (d_cons (d_call c_gap_part hr (Nat.le_refl _) rfl (d_cons (d_var (i := 21) rfl (Or.inl rfl) nd_one nc_one) (d_cons (d_var (i := 28) rfl (Or.inl rfl) nd_reaches nc_reaches) (d_nil) rfl) rfl) rfl nd_gap_part) (d_cons (d_call c_number_part hr (Nat.le_refl _) rfl (d_cons (d_glo M.g_WORDS rfl nd_WORDS) (d_nil) rfl) rfl nd_number_part) (d_nil) rfl) rfl) rfl nd_product_part) (d_nil) rfl) rfl)) rfl (Or.inl rfl)) (s_cons (s_set (i := 30) nd_N rfl (Or.inl rfl) (d_lst (d_cons (d_call c_product_part hr (Nat.le_refl _) rfl (d_cons (d_var (i := 6) rfl (Or.inl rfl) nd_put nc_put) (d_cons (d_var (i := 12) rfl (Or.inl rfl) nd_y nc_y) (d_nil) rfl) rfl) rfl nd_product_part) (d_cons (d_call c_product_part hr (Nat.le_refl _) rfl (d_cons (d_call c_gap_part hr (Nat.le_refl _) rfl (d_cons (d_var (i := 21) rfl (Or.inl rfl) nd_one nc_one) (d_cons (d_var (i := 6) rfl (Or.inl rfl) nd_put nc_put) (d_nil) rfl) rfl) rfl nd_gap_part) (d_cons (d_var (i := 16) rfl (Or.inl rfl) nd_found nc_found) (d_nil) rfl) rfl) rfl nd_product_part) (d_nil) rfl) rfl)) rfl (Or.inl rfl)) (s_one (s_ret (d_lst (d_cons (d_call c_gap_part hr (Nat.le_refl _) rfl (d_cons (d_var (i := 14) rfl (Or.inl rfl) nd_new nc_new) (d_cons (d_call c_expression_sum hr (Nat.le_refl _) rfl (d_cons (d_var (i := 23) rfl (Or.inl rfl) nd_told nc_told) (d_nil) rfl) rfl nd_expression_sum) (d_nil) rfl) rfl) rfl nd_gap_part) (d_cons (d_call c_gap_part hr (Nat.le_refl _) rfl (d_cons (d_var (i := 15) rfl (Or.inl rfl) nd_at nc_at) (d_cons (d_call c_expression_sum hr (Nat.le_refl _) rfl (d_cons (d_var (i := 29) rfl (Or.inl rfl) nd_place nc_place) (d_nil) rfl) rfl nd_expression_sum) (d_nil) rfl) rfl) rfl nd_gap_part) (d_cons (d_call c_gap_part hr (Nat.le_refl _) rfl (d_cons (d_var (i := 17) rfl (Or.inl rfl) nd_left nc_left) (d_cons (d_call c_expression_sum hr (Nat.le_refl _) rfl (d_cons (d_var (i := 30) rfl (Or.inl rfl) nd_kept nc_kept) (d_nil) rfl) rfl nd_expression_sum) (d_nil) rfl) rfl) rfl nd_gap_part) (d_cons (d_call c_product_part hr (Nat.le_refl _) rfl (d_cons (d_var (i := 19) rfl (Or.inl rfl) nd_b nc_b) (d_cons (d_var (i := 11) rfl (Or.inl rfl) nd_x nc_x) (d_nil) rfl) rfl) rfl nd_product_part) (d_cons (d_call c_gap_part hr (Nat.le_refl _) rfl (d_cons (d_call c_product_part hr (Nat.le_refl _) rfl (d_cons (d_var (i := 11) rfl (Or.inl rfl) nd_x nc_x) (d_cons (d_var (i := 20) rfl (Or.inl rfl) nd_other nc_other) (d_nil) rfl) rfl) rfl nd_product_part) (d_cons (d_call c_gap_part hr (Nat.le_refl _) rfl (d_cons (d_var (i := 21) rfl (Or.inl rfl) nd_one nc_one) (d_cons (d_var (i := 19) rfl (Or.inl rfl) nd_b nc_b) (d_nil) rfl) rfl) rfl nd_gap_part) (d_nil) rfl) rfl) rfl nd_gap_part) (d_cons (d_call c_gap_part hr (Nat.le_refl _) rfl (d_cons (d_var (i := 18) rfl (Or.inl rfl) nd_later nc_later) (d_cons (d_call c_expression_sum hr (Nat.le_refl _) rfl (d_cons (d_var (i := 27) rfl (Or.inl rfl) nd_led nc_led) (d_nil) rfl) rfl nd_expression_sum) (d_nil) rfl) rfl) rfl nd_gap_part) (d_cons (d_call c_product_part hr (Nat.le_refl _) rfl (d_cons (d_var (i := 19) rfl (Or.inl rfl) nd_b nc_b) (d_cons (d_var (i := 20) rfl (Or.inl rfl) nd_other nc_other) (d_nil) rfl) rfl) rfl nd_product_part) (d_nil) rfl) rfl) rfl) rfl) rfl) rfl) rfl))))))))))))))
end F_row_rules

namespace F_mark_expression
abbrev st : Stmt := top 40
abbrev N : List Str := ["parts", "beta", "p"]
theorem nd_N : N.Nodup := by decide +kernel
theorem sc : FnScope N ["parts", "beta", "p"] (defScope st) := ⟨rfl, rfl, rfl, by decide +kernel, rfl, by decide +kernel, by decide +kernel⟩
def ws (g_expression_by_powers : SpD) : WS := wRet (wCall g_expression_by_powers (wCons (wVar 0) (wCons (wVar 1) (wCons (wC (.int 0)) (wCons (wVar 2) (wNil))))))
theorem walk {P : Program} {w : World} {K : PySem.W.Frag} {mg : Str → Option Value} {base : Heap} {k : Nat} (M : Mg K w mg) {g_expression_by_powers : SpD} (c_expression_by_powers : Own P w K mg base k "expression_by_powers" g_expression_by_powers) : Walk P w K mg base k N "mark_expression" (defScope st) (defBody st) (ws g_expression_by_powers) := fun f cd A outer s H E hr =>
  s_one (s_ret (d_call c_expression_by_powers hr (Nat.le_refl _) rfl (d_cons (d_var (i := 0) rfl (Or.inl rfl) nd_parts nc_parts) (d_cons (d_var (i := 1) rfl (Or.inl rfl) nd_beta nc_beta) (d_cons (d_int) (d_cons (d_var (i := 2) rfl (Or.inl rfl) nd_p nc_p) (d_nil) rfl) rfl) rfl) rfl) rfl nd_expression_by_powers))
end F_mark_expression

namespace F_inverse_rule
abbrev st : Stmt := top 41
abbrev N : List Str := ["column", "mark", "gamma"]
theorem nd_N : N.Nodup := by decide +kernel
theorem sc : FnScope N ["column", "mark", "gamma"] (defScope st) := ⟨rfl, rfl, rfl, by decide +kernel, rfl, by decide +kernel, by decide +kernel⟩
def ws (g_gap_part : SpD) (g_number_part : SpD) (g_product_part : SpD) (g_column_part : SpD) : WS := wRet (wCall g_gap_part (wCons (wCall g_product_part (wCons (wCall g_column_part (wCons (wVar 0) (wNil))) (wCons (wCall g_gap_part (wCons (wCall g_number_part (wCons (wVar 2) (wNil))) (wCons (wVar 1) (wNil)))) (wNil)))) (wCons (wCall g_number_part (wCons (wC (.int 1)) (wNil))) (wNil))))
theorem walk {P : Program} {w : World} {K : PySem.W.Frag} {mg : Str → Option Value} {base : Heap} {k : Nat} (M : Mg K w mg) {g_gap_part : SpD} {g_number_part : SpD} {g_product_part : SpD} {g_column_part : SpD} (c_gap_part : Own P w K mg base k "gap_part" g_gap_part) (c_number_part : Own P w K mg base k "number_part" g_number_part) (c_product_part : Own P w K mg base k "product_part" g_product_part) (c_column_part : Own P w K mg base k "column_part" g_column_part) : Walk P w K mg base k N "inverse_rule" (defScope st) (defBody st) (ws g_gap_part g_number_part g_product_part g_column_part) := fun f cd A outer s H E hr =>
  s_one (s_ret (d_call c_gap_part hr (Nat.le_refl _) rfl (d_cons (d_call c_product_part hr (Nat.le_refl _) rfl (d_cons (d_call c_column_part hr (Nat.le_refl _) rfl (d_cons (d_var (i := 0) rfl (Or.inl rfl) nd_column nc_column) (d_nil) rfl) rfl nd_column_part) (d_cons (d_call c_gap_part hr (Nat.le_refl _) rfl (d_cons (d_call c_number_part hr (Nat.le_refl _) rfl (d_cons (d_var (i := 2) rfl (Or.inl rfl) nd_gamma nc_gamma) (d_nil) rfl) rfl nd_number_part) (d_cons (d_var (i := 1) rfl (Or.inl rfl) nd_mark nc_mark) (d_nil) rfl) rfl) rfl nd_gap_part) (d_nil) rfl) rfl) rfl nd_product_part) (d_cons (d_call c_number_part hr (Nat.le_refl _) rfl (d_cons (d_int) (d_nil) rfl) rfl nd_number_part) (d_nil) rfl) rfl) rfl nd_gap_part))
end F_inverse_rule

namespace F_touch_parts
abbrev st : Stmt := top 42
abbrev N : List Str := ["k", "space", "place", "found", "left", "last"]
theorem nd_N : N.Nodup := by decide +kernel
theorem sc : FnScope N ["k"] (defScope st) := ⟨rfl, rfl, rfl, by decide +kernel, rfl, by decide +kernel, by decide +kernel⟩
def ws (g_column_part : SpD) (g_number_part : SpD) (g_touch_expression : SpD) : WS := wSeq (wAsg (wIf (wBt (wBin oEq (wVar 0) (wC (.int 3)))) (wCall g_column_part (wCons (wC (.int 13)) (wNil))) (wCall g_number_part (wCons (wC (.int 0)) (wNil)))) (.nm 1)) (wSeq (wAsg (wIf (wBt (wBin oEq (wVar 0) (wC (.int 0)))) (wCall g_number_part (wCons (wC (.int 15)) (wNil))) (wCall g_column_part (wCons (wBin oIdx (wTup (wCons (wC (.int 0)) (wCons (wC (.int 11)) (wCons (wC (.int 12)) (wCons (wC (.int 19)) (wCons (wC (.int 10)) (wNil))))))) (wVar 0)) (wNil)))) (.nm 2)) (wSeq (wAsg (wBin oIdx (wTup (wCons (wTup (wCons (wC (.int 0)) (wCons (wC (.int 22)) (wNil)))) (wCons (wTup (wCons (wC (.int 15)) (wCons (wC (.int 15)) (wNil)))) (wCons (wTup (wCons (wC (.int 16)) (wCons (wC (.int 16)) (wNil)))) (wCons (wTup (wCons (wC (.int 20)) (wCons (wC (.int 21)) (wNil)))) (wCons (wTup (wCons (wC (.int 17)) (wCons (wC (.int 18)) (wNil)))) (wNil))))))) (wVar 0)) (.tup ((.nm 3) :: (.nm 4) :: []))) (wSeq (wAsg (wCall g_column_part (wCons (wBin oAdd (wBin oSub (wC (.int 30)) (wC (.int 5))) (wVar 0)) (wNil))) (.nm 5)) (wRet (wTup (wCons (wLst (wCons (wVar 1) (wCons (wVar 2) (wCons (wCall g_column_part (wCons (wVar 3) (wNil))) (wCons (wVar 5) (wNil)))))) (wCons (wLst (wCons (wVar 1) (wCons (wVar 2) (wCons (wCall g_column_part (wCons (wVar 4) (wNil))) (wCons (wCall g_touch_expression (wCons (wVar 0) (wNil))) (wNil)))))) (wNil))))))))
theorem walk {P : Program} {w : World} {K : PySem.W.Frag} {mg : Str → Option Value} {base : Heap} {k : Nat} (M : Mg K w mg) {g_column_part : SpD} {g_number_part : SpD} {g_touch_expression : SpD} (c_column_part : Own P w K mg base k "column_part" g_column_part) (c_number_part : Own P w K mg base k "number_part" g_number_part) (c_touch_expression : Own P w K mg base k "touch_expression" g_touch_expression) : Walk P w K mg base k N "touch_parts" (defScope st) (defBody st) (ws g_column_part g_number_part g_touch_expression) := fun f cd A outer s H E hr =>
  s_cons (s_set (i := 1) nd_N rfl (Or.inl rfl) (d_if (d_cmpT (op_eqA hr.units) l_eq (d_var (i := 0) rfl (Or.inl rfl) nd_k nc_k) (d_int) (nomark _)) (d_call c_column_part hr (Nat.le_refl _) rfl (d_cons (d_int) (d_nil) rfl) rfl nd_column_part) (d_call c_number_part hr (Nat.le_refl _) rfl (d_cons (d_int) (d_nil) rfl) rfl nd_number_part)) rfl (Or.inl rfl)) (s_cons (s_set (i := 2) nd_N rfl (Or.inl rfl) (d_if (d_cmpT (op_eqA hr.units) l_eq (d_var (i := 0) rfl (Or.inl rfl) nd_k nc_k) (d_int) (nomark _)) (d_call c_number_part hr (Nat.le_refl _) rfl (d_cons (d_glo M.g_PLACE rfl nd_PLACE) (d_nil) rfl) rfl nd_number_part) (d_call c_column_part hr (Nat.le_refl _) rfl (d_cons (d_idx (u1 hr) (d_tup (d_cons (d_int) (d_cons (d_int) (d_cons (d_int) (d_cons (d_int) (d_cons (d_int) (d_nil) rfl) rfl) rfl) rfl) rfl)) (d_var (i := 0) rfl (Or.inl rfl) nd_k nc_k) (fun _ _ => rfl)) (d_nil) rfl) rfl nd_column_part)) rfl (Or.inl rfl)) (s_cons (s_asg (d_idx (u1 hr) (d_tup (d_cons (d_tup (d_cons (d_int) (d_cons (d_int) (d_nil) rfl) rfl)) (d_cons (d_tup (d_cons (d_int) (d_cons (d_int) (d_nil) rfl) rfl)) (d_cons (d_tup (d_cons (d_int) (d_cons (d_int) (d_nil) rfl) rfl)) (d_cons (d_tup (d_cons (d_int) (d_cons (d_int) (d_nil) rfl) rfl)) (d_cons (d_tup (d_cons (d_int) (d_cons (d_int) (d_nil) rfl) rfl)) (d_nil) rfl) rfl) rfl) rfl) rfl)) (d_var (i := 0) rfl (Or.inl rfl) nd_k nc_k) (fun _ _ => rfl)) (g_tup rfl (gs_cons (g_name nd_N rfl (Or.inl rfl) (Or.inl rfl)) (gs_cons (g_name nd_N rfl (Or.inl rfl) (Or.inl rfl)) (gs_nil) rfl) rfl)) rfl rfl rfl) (s_cons (s_set (i := 5) nd_N rfl (Or.inl rfl) (d_call c_column_part hr (Nat.le_refl _) rfl (d_cons (d_add (d_sub (d_glo M.g_COLUMNS rfl nd_COLUMNS) (d_glo M.g_TOUCHES rfl nd_TOUCHES)) (d_var (i := 0) rfl (Or.inl rfl) nd_k nc_k)) (d_nil) rfl) rfl nd_column_part) rfl (Or.inl rfl)) (s_one (s_ret (d_tup (d_cons (d_lst (d_cons (d_var (i := 1) rfl (Or.inl rfl) nd_space nc_space) (d_cons (d_var (i := 2) rfl (Or.inl rfl) nd_place nc_place) (d_cons (d_call c_column_part hr (Nat.le_refl _) rfl (d_cons (d_var (i := 3) rfl (Or.inl rfl) nd_found nc_found) (d_nil) rfl) rfl nd_column_part) (d_cons (d_var (i := 5) rfl (Or.inl rfl) nd_last nc_last) (d_nil) rfl) rfl) rfl) rfl)) (d_cons (d_lst (d_cons (d_var (i := 1) rfl (Or.inl rfl) nd_space nc_space) (d_cons (d_var (i := 2) rfl (Or.inl rfl) nd_place nc_place) (d_cons (d_call c_column_part hr (Nat.le_refl _) rfl (d_cons (d_var (i := 4) rfl (Or.inl rfl) nd_left nc_left) (d_nil) rfl) rfl nd_column_part) (d_cons (d_call c_touch_expression hr (Nat.le_refl _) rfl (d_cons (d_var (i := 0) rfl (Or.inl rfl) nd_k nc_k) (d_nil) rfl) rfl nd_touch_expression) (d_nil) rfl) rfl) rfl) rfl)) (d_nil) rfl) rfl)))))))
end F_touch_parts

namespace F_touch_expression
abbrev st : Stmt := top 43
abbrev N : List Str := ["k", "index"]
theorem nd_N : N.Nodup := by decide +kernel
theorem sc : FnScope N ["k"] (defScope st) := ⟨rfl, rfl, rfl, by decide +kernel, rfl, by decide +kernel, by decide +kernel⟩
def ws (g_column_part : SpD) (g_told_many : SpD) (g_expression_sum : SpD) (g_number_part : SpD) (g_product_part : SpD) : WS := wSeq (wAsg (wCall g_column_part (wCons (wCall g_told_many (wCons (wC (.str "rows")) (wNil))) (wNil))) (.nm 1)) (wRet (wCall g_expression_sum (wCons (wLst (wCons (wCall g_product_part (wCons (wCall g_number_part (wCons (wC (.int 5)) (wNil))) (wCons (wVar 1) (wNil)))) (wCons (wCall g_number_part (wCons (wBin oAdd (wVar 0) (wC (.int 1))) (wNil))) (wNil)))) (wNil))))
theorem walk {P : Program} {w : World} {K : PySem.W.Frag} {mg : Str → Option Value} {base : Heap} {k : Nat} (M : Mg K w mg) {g_column_part : SpD} {g_told_many : SpD} {g_expression_sum : SpD} {g_number_part : SpD} {g_product_part : SpD} (c_column_part : Own P w K mg base k "column_part" g_column_part) (c_told_many : Own P w K mg base k "told_many" g_told_many) (c_expression_sum : Own P w K mg base k "expression_sum" g_expression_sum) (c_number_part : Own P w K mg base k "number_part" g_number_part) (c_product_part : Own P w K mg base k "product_part" g_product_part) : Walk P w K mg base k N "touch_expression" (defScope st) (defBody st) (ws g_column_part g_told_many g_expression_sum g_number_part g_product_part) := fun f cd A outer s H E hr =>
  s_cons (s_set (i := 1) nd_N rfl (Or.inl rfl) (d_call c_column_part hr (Nat.le_refl _) rfl (d_cons (d_call c_told_many hr (Nat.le_refl _) rfl (d_cons (d_str) (d_nil) rfl) rfl nd_told_many) (d_nil) rfl) rfl nd_column_part) rfl (Or.inl rfl)) (s_one (s_ret (d_call c_expression_sum hr (Nat.le_refl _) rfl (d_cons (d_lst (d_cons (d_call c_product_part hr (Nat.le_refl _) rfl (d_cons (d_call c_number_part hr (Nat.le_refl _) rfl (d_cons (d_glo M.g_TOUCHES rfl nd_TOUCHES) (d_nil) rfl) rfl nd_number_part) (d_cons (d_var (i := 1) rfl (Or.inl rfl) nd_index nc_index) (d_nil) rfl) rfl) rfl nd_product_part) (d_cons (d_call c_number_part hr (Nat.le_refl _) rfl (d_cons (d_add (d_var (i := 0) rfl (Or.inl rfl) nd_k nc_k) (d_int)) (d_nil) rfl) rfl nd_number_part) (d_nil) rfl) rfl)) (d_nil) rfl) rfl nd_expression_sum)))
end F_touch_expression

namespace F_rows_domain_rules
abbrev st : Stmt := top 44
abbrev N : List Str := ["beta", "gamma", "p", "found", "left", "steps", "k", "parts", "code", "marks"]
theorem nd_N : N.Nodup := by decide +kernel
theorem sc : FnScope N ["beta", "gamma", "p"] (defScope st) := ⟨rfl, rfl, rfl, by decide +kernel, rfl, by decide +kernel, by decide +kernel⟩
def ws (g_touch_parts : SpD) (g_mark_expression : SpD) (g_gap_part : SpD) (g_column_part : SpD) (g_touch_expression : SpD) (g_row_rules : SpD) (g_inverse_rule : SpD) : WS := wSeq (wPar3 3 4 5 (wCons (wLst (wNil)) (wCons (wLst (wNil)) (wCons (wLst (wNil)) (wNil))))) (wSeq (wFor (wRng1 (wC (.int 5))) (.nm 6) (wSeq (wAsg (wCall g_touch_parts (wCons (wVar 6) (wNil))) (.nm 7)) (wSeq (wDrop (wM gAppend (wVar 3) (wCons (wCall g_mark_expression (wCons (wBin oIdx (wVar 7) (wC (.int 0))) (wCons (wVar 0) (wCons (wVar 2) (wNil))))) (wNil)))) (wSeq (wDrop (wM gAppend (wVar 4) (wCons (wCall g_mark_expression (wCons (wBin oIdx (wVar 7) (wC (.int 1))) (wCons (wVar 0) (wCons (wVar 2) (wNil))))) (wNil)))) (wDrop (wM gAppend (wVar 5) (wCons (wCall g_gap_part (wCons (wCall g_touch_expression (wCons (wVar 6) (wNil))) (wCons (wCall g_column_part (wCons (wBin oAdd (wBin oSub (wC (.int 30)) (wC (.int 5))) (wVar 6)) (wNil))) (wNil)))) (wNil)))))))) (wSeq (wAsg (wCall g_mark_expression (wCons (wLc (wRng1 (wBin oIdx (wC (.kd ["rows", "cells", "code", "times"] [(.int 1), (.int 5), (.int 15), (.int 1)])) (wC (.str "code")))) (.nm 6) (wYes) (wCall g_column_part (wCons (wVar 6) (wNil))) [6]) (wCons (wVar 0) (wCons (wVar 2) (wNil))))) (.nm 8)) (wSeq (wAsg (wBin oAdd (wBin oAdd (wBin oAdd (wVar 3) (wVar 4)) (wLst (wCons (wVar 8) (wNil)))) (wVar 5)) (.nm 9)) (wRet (wBin oAdd (wCall g_row_rules wNil) (wLc (wRng1 (wCB bLen (wCons (wVar 9) (wNil)))) (.nm 6) (wYes) (wCall g_inverse_rule (wCons (wBin oAdd (wC (.int 30)) (wVar 6)) (wCons (wBin oIdx (wVar 9) (wVar 6)) (wCons (wVar 1) (wNil))))) [6]))))))
theorem walk {P : Program} {w : World} {K : PySem.W.Frag} {mg : Str → Option Value} {base : Heap} {k : Nat} (M : Mg K w mg) {g_touch_parts : SpD} {g_mark_expression : SpD} {g_gap_part : SpD} {g_column_part : SpD} {g_touch_expression : SpD} {g_row_rules : SpD} {g_inverse_rule : SpD} (c_touch_parts : Own P w K mg base k "touch_parts" g_touch_parts) (c_mark_expression : Own P w K mg base k "mark_expression" g_mark_expression) (c_gap_part : Own P w K mg base k "gap_part" g_gap_part) (c_column_part : Own P w K mg base k "column_part" g_column_part) (c_touch_expression : Own P w K mg base k "touch_expression" g_touch_expression) (c_row_rules : Own P w K mg base k "row_rules" g_row_rules) (c_inverse_rule : Own P w K mg base k "inverse_rule" g_inverse_rule) : Walk P w K mg base k N "rows_domain_rules" (defScope st) (defBody st) (ws g_touch_parts g_mark_expression g_gap_part g_column_part g_touch_expression g_row_rules g_inverse_rule) := fun f cd A outer s H E hr =>
  s_cons (s_par3 (i := 3) (j := 4) (l := 5) rfl nd_N rfl rfl rfl (by decide) (by decide) (by decide) rfl rfl rfl (d_cons (d_lst (d_nil)) (d_cons (d_lst (d_nil)) (d_cons (d_lst (d_nil)) (d_nil) rfl) rfl) rfl) rfl rfl) (s_cons (s_for PassesOwn.never rfl (i_range1 rfl M.n_range (d_glo M.g_TOUCHES rfl nd_TOUCHES) rfl) (g_name nd_N rfl (Or.inl rfl) (Or.inl rfl)) (s_cons (s_set (i := 7) nd_N rfl (Or.inl rfl) (d_call c_touch_parts hr (Nat.le_refl _) rfl (d_cons (d_var (i := 6) rfl (Or.inl rfl) nd_k nc_k) (d_nil) rfl) rfl nd_touch_parts) rfl (Or.inl rfl)) (s_cons (s_expr (d_append (d_var (i := 3) rfl (Or.inl rfl) nd_found nc_found) (d_cons (d_call c_mark_expression hr (Nat.le_refl _) rfl (d_cons (d_idx (u1 hr) (d_var (i := 7) rfl (Or.inl rfl) nd_parts nc_parts) (d_int) (fun _ _ => rfl)) (d_cons (d_var (i := 0) rfl (Or.inl rfl) nd_beta nc_beta) (d_cons (d_var (i := 2) rfl (Or.inl rfl) nd_p nc_p) (d_nil) rfl) rfl) rfl) rfl nd_mark_expression) (d_nil) rfl) rfl rfl rfl) rfl) (s_cons (s_expr (d_append (d_var (i := 4) rfl (Or.inl rfl) nd_left nc_left) (d_cons (d_call c_mark_expression hr (Nat.le_refl _) rfl (d_cons (d_idx (u1 hr) (d_var (i := 7) rfl (Or.inl rfl) nd_parts nc_parts) (d_int) (fun _ _ => rfl)) (d_cons (d_var (i := 0) rfl (Or.inl rfl) nd_beta nc_beta) (d_cons (d_var (i := 2) rfl (Or.inl rfl) nd_p nc_p) (d_nil) rfl) rfl) rfl) rfl nd_mark_expression) (d_nil) rfl) rfl rfl rfl) rfl) (s_one (s_expr (d_append (d_var (i := 5) rfl (Or.inl rfl) nd_steps nc_steps) (d_cons (d_call c_gap_part hr (Nat.le_refl _) rfl (d_cons (d_call c_touch_expression hr (Nat.le_refl _) rfl (d_cons (d_var (i := 6) rfl (Or.inl rfl) nd_k nc_k) (d_nil) rfl) rfl nd_touch_expression) (d_cons (d_call c_column_part hr (Nat.le_refl _) rfl (d_cons (d_add (d_sub (d_glo M.g_COLUMNS rfl nd_COLUMNS) (d_glo M.g_TOUCHES rfl nd_TOUCHES)) (d_var (i := 6) rfl (Or.inl rfl) nd_k nc_k)) (d_nil) rfl) rfl nd_column_part) (d_nil) rfl) rfl) rfl nd_gap_part) (d_nil) rfl) rfl rfl rfl) rfl))))) (fun _ => rfl)) (s_cons (s_set (i := 8) nd_N rfl (Or.inl rfl) (d_call c_mark_expression hr (Nat.le_refl _) rfl (d_cons (d_lc (own := [("k", 6)]) rfl nd_N (i_range1 rfl M.n_range (d_idx (u1 hr) (d_glo M.g_FIXED_MANY rfl nd_FIXED_MANY) (d_str) (fun _ _ => rfl)) rfl) rfl rfl (fun _ _ _ _ _ => g_name nd_N rfl (Or.inl rfl) (Or.inr rfl)) (fun _ _ _ _ _ => t_nil) (fun _ _ _ _ _ => d_call c_column_part hr (Nat.le_refl _) rfl (d_cons (d_var (i := 6) rfl (Or.inl rfl) nd_k nc_k) (d_nil) rfl) rfl nd_column_part) (fun _ => rfl)) (d_cons (d_var (i := 0) rfl (Or.inl rfl) nd_beta nc_beta) (d_cons (d_var (i := 2) rfl (Or.inl rfl) nd_p nc_p) (d_nil) rfl) rfl) rfl) rfl nd_mark_expression) rfl (Or.inl rfl)) (s_cons (s_set (i := 9) nd_N rfl (Or.inr rfl) (d_add (d_add (d_add (d_var (i := 3) rfl (Or.inl rfl) nd_found nc_found) (d_var (i := 4) rfl (Or.inl rfl) nd_left nc_left)) (d_lst (d_cons (d_var (i := 8) rfl (Or.inl rfl) nd_code nc_code) (d_nil) rfl))) (d_var (i := 5) rfl (Or.inl rfl) nd_steps nc_steps)) rfl (Or.inl rfl)) (s_one (s_ret (d_add (d_call0 c_row_rules hr (Nat.le_refl _) rfl nd_row_rules) (d_lc (own := [("k", 6)]) rfl nd_N (i_range1 rfl M.n_range (d_callB call_len l_len rfl M.n_len b_len (d_cons (d_var (i := 9) rfl (Or.inr (Or.inl rfl)) nd_marks nc_marks) (d_nil) rfl) rfl nn_len nd_len) rfl) rfl rfl (fun _ _ _ _ _ => g_name nd_N rfl (Or.inl rfl) (Or.inr rfl)) (fun _ _ _ _ _ => t_nil) (fun _ _ _ _ _ => d_call c_inverse_rule hr (Nat.le_refl _) rfl (d_cons (d_add (d_glo M.g_COLUMNS rfl nd_COLUMNS) (d_var (i := 6) rfl (Or.inl rfl) nd_k nc_k)) (d_cons (d_idx (u1 hr) (d_var (i := 9) rfl (Or.inr (Or.inl rfl)) nd_marks nc_marks) (d_var (i := 6) rfl (Or.inl rfl) nd_k nc_k) (fun _ _ => rfl)) (d_cons (d_var (i := 1) rfl (Or.inr (Or.inl rfl)) nd_gamma nc_gamma) (d_nil) rfl) rfl) rfl) rfl nd_inverse_rule) (fun _ => rfl))))))))
end F_rows_domain_rules

namespace F_domain_rules
abbrev st : Stmt := top 45
abbrev N : List Str := ["domain", "beta", "gamma", "p", "first", "last", "chosen", "mark", "k"]
theorem nd_N : N.Nodup := by decide +kernel
theorem sc : FnScope N ["domain", "beta", "gamma", "p"] (defScope st) := ⟨rfl, rfl, rfl, by decide +kernel, rfl, by decide +kernel, by decide +kernel⟩
def ws (g_rows_domain_rules : SpD) (g_mark_expression : SpD) (g_number_part : SpD) (g_column_part : SpD) (g_product_part : SpD) (g_gap_part : SpD) (g_inverse_rule : SpD) : WS := wSeq (wIfS (wBt (wBin oEq (wVar 0) (wC (.str "rows")))) (wRet (wCall g_rows_domain_rules (wCons (wVar 1) (wCons (wVar 2) (wCons (wVar 3) (wNil)))))) (wNext)) (wSeq (wIfS (wBt (wBin oEq (wVar 0) (wC (.str "cells")))) (wSeq (wAsg (wCall g_mark_expression (wCons (wLst (wCons (wCall g_column_part (wCons (wC (.int 4)) (wNil))) (wCons (wCall g_column_part (wCons (wC (.int 5)) (wNil))) (wCons (wCall g_column_part (wCons (wC (.int 6)) (wNil))) (wCons (wCall g_number_part (wCons (wC (.int 0)) (wNil))) (wNil)))))) (wCons (wVar 1) (wCons (wVar 3) (wNil))))) (.nm 4)) (wSeq (wAsg (wCall g_mark_expression (wCons (wLst (wCons (wCall g_column_part (wCons (wC (.int 4)) (wNil))) (wCons (wCall g_column_part (wCons (wC (.int 5)) (wNil))) (wCons (wCall g_column_part (wCons (wC (.int 0)) (wNil))) (wCons (wCall g_column_part (wCons (wC (.int 1)) (wNil))) (wNil)))))) (wCons (wVar 1) (wCons (wVar 3) (wNil))))) (.nm 5)) (wSeq (wAsg (wCall g_product_part (wCons (wCall g_column_part (wCons (wC (.int 7)) (wNil))) (wCons (wCall g_gap_part (wCons (wCall g_column_part (wCons (wC (.int 0)) (wNil))) (wCons (wCall g_column_part (wCons (wC (.int 8)) (wNil))) (wNil)))) (wNil)))) (.nm 6)) (wRet (wLst (wCons (wVar 6) (wCons (wCall g_inverse_rule (wCons (wC (.int 2)) (wCons (wVar 4) (wCons (wVar 2) (wNil))))) (wCons (wCall g_inverse_rule (wCons (wC (.int 3)) (wCons (wVar 5) (wCons (wVar 2) (wNil))))) (wNil))))))))) (wNext)) (wSeq (wAsg (wCall g_mark_expression (wCons (wLc (wRng1 (wBin oIdx (wC (.kd ["rows", "cells", "code", "times"] [(.int 1), (.int 5), (.int 15), (.int 1)])) (wVar 0))) (.nm 8) (wYes) (wCall g_column_part (wCons (wBin oAdd (wC (.int 2)) (wVar 8)) (wNil))) [8]) (wCons (wVar 1) (wCons (wVar 3) (wNil))))) (.nm 7)) (wRet (wLst (wCons (wCall g_inverse_rule (wCons (wC (.int 1)) (wCons (wVar 7) (wCons (wVar 2) (wNil))))) (wNil))))))
theorem walk {P : Program} {w : World} {K : PySem.W.Frag} {mg : Str → Option Value} {base : Heap} {k : Nat} (M : Mg K w mg) {g_rows_domain_rules : SpD} {g_mark_expression : SpD} {g_number_part : SpD} {g_column_part : SpD} {g_product_part : SpD} {g_gap_part : SpD} {g_inverse_rule : SpD} (c_rows_domain_rules : Own P w K mg base k "rows_domain_rules" g_rows_domain_rules) (c_mark_expression : Own P w K mg base k "mark_expression" g_mark_expression) (c_number_part : Own P w K mg base k "number_part" g_number_part) (c_column_part : Own P w K mg base k "column_part" g_column_part) (c_product_part : Own P w K mg base k "product_part" g_product_part) (c_gap_part : Own P w K mg base k "gap_part" g_gap_part) (c_inverse_rule : Own P w K mg base k "inverse_rule" g_inverse_rule) : Walk P w K mg base k N "domain_rules" (defScope st) (defBody st) (ws g_rows_domain_rules g_mark_expression g_number_part g_column_part g_product_part g_gap_part g_inverse_rule) := fun f cd A outer s H E hr =>
  s_cons (s_if (d_cmpT (op_eqA hr.units) l_eq (d_var (i := 0) rfl (Or.inl rfl) nd_domain nc_domain) (d_str) (nomark _)) (s_one (s_ret (d_call c_rows_domain_rules hr (Nat.le_refl _) rfl (d_cons (d_var (i := 1) rfl (Or.inl rfl) nd_beta nc_beta) (d_cons (d_var (i := 2) rfl (Or.inl rfl) nd_gamma nc_gamma) (d_cons (d_var (i := 3) rfl (Or.inl rfl) nd_p nc_p) (d_nil) rfl) rfl) rfl) rfl nd_rows_domain_rules))) (s_nil)) (s_cons (s_if (d_cmpT (op_eqA hr.units) l_eq (d_var (i := 0) rfl (Or.inl rfl) nd_domain nc_domain) (d_str) (nomark _)) (s_cons (s_set (i := 4) nd_N rfl (Or.inl rfl) (d_call c_mark_expression hr (Nat.le_refl _) rfl (d_cons (d_lst (d_cons (d_call c_column_part hr (Nat.le_refl _) rfl (d_cons (d_int) (d_nil) rfl) rfl nd_column_part) (d_cons (d_call c_column_part hr (Nat.le_refl _) rfl (d_cons (d_int) (d_nil) rfl) rfl nd_column_part) (d_cons (d_call c_column_part hr (Nat.le_refl _) rfl (d_cons (d_int) (d_nil) rfl) rfl nd_column_part) (d_cons (d_call c_number_part hr (Nat.le_refl _) rfl (d_cons (d_int) (d_nil) rfl) rfl nd_number_part) (d_nil) rfl) rfl) rfl) rfl)) (d_cons (d_var (i := 1) rfl (Or.inl rfl) nd_beta nc_beta) (d_cons (d_var (i := 3) rfl (Or.inl rfl) nd_p nc_p) (d_nil) rfl) rfl) rfl) rfl nd_mark_expression) rfl (Or.inl rfl)) (s_cons (s_set (i := 5) nd_N rfl (Or.inl rfl) (d_call c_mark_expression hr (Nat.le_refl _) rfl (d_cons (d_lst (d_cons (d_call c_column_part hr (Nat.le_refl _) rfl (d_cons (d_int) (d_nil) rfl) rfl nd_column_part) (d_cons (d_call c_column_part hr (Nat.le_refl _) rfl (d_cons (d_int) (d_nil) rfl) rfl nd_column_part) (d_cons (d_call c_column_part hr (Nat.le_refl _) rfl (d_cons (d_int) (d_nil) rfl) rfl nd_column_part) (d_cons (d_call c_column_part hr (Nat.le_refl _) rfl (d_cons (d_int) (d_nil) rfl) rfl nd_column_part) (d_nil) rfl) rfl) rfl) rfl)) (d_cons (d_var (i := 1) rfl (Or.inl rfl) nd_beta nc_beta) (d_cons (d_var (i := 3) rfl (Or.inl rfl) nd_p nc_p) (d_nil) rfl) rfl) rfl) rfl nd_mark_expression) rfl (Or.inl rfl)) (s_cons (s_set (i := 6) nd_N rfl (Or.inl rfl) (d_call c_product_part hr (Nat.le_refl _) rfl (d_cons (d_call c_column_part hr (Nat.le_refl _) rfl (d_cons (d_int) (d_nil) rfl) rfl nd_column_part) (d_cons (d_call c_gap_part hr (Nat.le_refl _) rfl (d_cons (d_call c_column_part hr (Nat.le_refl _) rfl (d_cons (d_int) (d_nil) rfl) rfl nd_column_part) (d_cons (d_call c_column_part hr (Nat.le_refl _) rfl (d_cons (d_int) (d_nil) rfl) rfl nd_column_part) (d_nil) rfl) rfl) rfl nd_gap_part) (d_nil) rfl) rfl) rfl nd_product_part) rfl (Or.inl rfl)) (s_one (s_ret (d_lst (d_cons (d_var (i := 6) rfl (Or.inl rfl) nd_chosen nc_chosen) (d_cons (d_call c_inverse_rule hr (Nat.le_refl _) rfl (d_cons (d_int) (d_cons (d_var (i := 4) rfl (Or.inl rfl) nd_first nc_first) (d_cons (d_var (i := 2) rfl (Or.inl rfl) nd_gamma nc_gamma) (d_nil) rfl) rfl) rfl) rfl nd_inverse_rule) (d_cons (d_call c_inverse_rule hr (Nat.le_refl _) rfl (d_cons (d_int) (d_cons (d_var (i := 5) rfl (Or.inl rfl) nd_last nc_last) (d_cons (d_var (i := 2) rfl (Or.inl rfl) nd_gamma nc_gamma) (d_nil) rfl) rfl) rfl) rfl nd_inverse_rule) (d_nil) rfl) rfl) rfl))))))) (s_nil)) (s_cons (s_set (i := 7) nd_N rfl (Or.inl rfl) (d_call c_mark_expression hr (Nat.le_refl _) rfl (d_cons (d_lc (own := [("k", 8)]) rfl nd_N (i_range1 rfl M.n_range (d_idx (u1 hr) (d_glo M.g_FIXED_MANY rfl nd_FIXED_MANY) (d_var (i := 0) rfl (Or.inl rfl) nd_domain nc_domain) (fun _ _ => rfl)) rfl) rfl rfl (fun _ _ _ _ _ => g_name nd_N rfl (Or.inl rfl) (Or.inr rfl)) (fun _ _ _ _ _ => t_nil) (fun _ _ _ _ _ => d_call c_column_part hr (Nat.le_refl _) rfl (d_cons (d_add (d_int) (d_var (i := 8) rfl (Or.inl rfl) nd_k nc_k)) (d_nil) rfl) rfl nd_column_part) (fun _ => rfl)) (d_cons (d_var (i := 1) rfl (Or.inl rfl) nd_beta nc_beta) (d_cons (d_var (i := 3) rfl (Or.inl rfl) nd_p nc_p) (d_nil) rfl) rfl) rfl) rfl nd_mark_expression) rfl (Or.inl rfl)) (s_one (s_ret (d_lst (d_cons (d_call c_inverse_rule hr (Nat.le_refl _) rfl (d_cons (d_int) (d_cons (d_var (i := 7) rfl (Or.inl rfl) nd_mark nc_mark) (d_cons (d_var (i := 2) rfl (Or.inl rfl) nd_gamma nc_gamma) (d_nil) rfl) rfl) rfl) rfl nd_inverse_rule) (d_nil) rfl))))))
end F_domain_rules

namespace F_share_expressions
abbrev st : Stmt := top 46
abbrev N : List Str := ["domain", "lots", "counted", "begin", "k"]
theorem nd_N : N.Nodup := by decide +kernel
theorem sc : FnScope N ["domain"] (defScope st) := ⟨rfl, rfl, rfl, by decide +kernel, rfl, by decide +kernel, by decide +kernel⟩
def ws (g_expression_sum : SpD) (g_column_part : SpD) (g_gap_part : SpD) (g_product_part : SpD) (g_number_part : SpD) : WS := wSeq (wIfS (wBt (wBin oEq (wVar 0) (wC (.str "rows")))) (wSeq (wAsg (wLc (wVal (wTup (wCons (wC (.int 30)) (wCons (wC (.int 35)) (wCons (wC (.int 41)) (wNil)))))) (.nm 3) (wYes) (wCall g_expression_sum (wCons (wLc (wRng1 (wC (.int 5))) (.nm 4) (wYes) (wCall g_column_part (wCons (wBin oAdd (wVar 3) (wVar 4)) (wNil))) [4]) (wNil))) [3]) (.nm 1)) (wRet (wLst (wCons (wTup (wCons (wC (.int 0)) (wCons (wCall g_gap_part (wCons (wBin oIdx (wVar 1) (wC (.int 0))) (wCons (wBin oIdx (wVar 1) (wC (.int 1))) (wNil)))) (wNil)))) (wCons (wTup (wCons (wC (.int 1)) (wCons (wCall g_column_part (wCons (wC (.int 40)) (wNil))) (wNil)))) (wCons (wTup (wCons (wC (.int 2)) (wCons (wBin oIdx (wVar 1) (wC (.int 2))) (wNil)))) (wNil))))))) (wNext)) (wSeq (wIfS (wBt (wBin oEq (wVar 0) (wC (.str "cells")))) (wRet (wLst (wCons (wTup (wCons (wC (.int 0)) (wCons (wCall g_gap_part (wCons (wCall g_column_part (wCons (wC (.int 3)) (wNil))) (wCons (wCall g_column_part (wCons (wC (.int 2)) (wNil))) (wNil)))) (wNil)))) (wNil)))) (wNext)) (wSeq (wAsg (wCall g_product_part (wCons (wCall g_column_part (wCons (wC (.int 0)) (wNil))) (wCons (wCall g_column_part (wCons (wC (.int 1)) (wNil))) (wNil)))) (.nm 2)) (wRet (wLst (wCons (wTup (wCons (wIf (wBt (wBin oEq (wVar 0) (wC (.str "code")))) (wC (.int 1)) (wC (.int 2))) (wCons (wCall g_gap_part (wCons (wCall g_number_part (wCons (wC (.int 0)) (wNil))) (wCons (wVar 2) (wNil)))) (wNil)))) (wNil))))))
theorem walk {P : Program} {w : World} {K : PySem.W.Frag} {mg : Str → Option Value} {base : Heap} {k : Nat} (M : Mg K w mg) {g_expression_sum : SpD} {g_column_part : SpD} {g_gap_part : SpD} {g_product_part : SpD} {g_number_part : SpD} (c_expression_sum : Own P w K mg base k "expression_sum" g_expression_sum) (c_column_part : Own P w K mg base k "column_part" g_column_part) (c_gap_part : Own P w K mg base k "gap_part" g_gap_part) (c_product_part : Own P w K mg base k "product_part" g_product_part) (c_number_part : Own P w K mg base k "number_part" g_number_part) : Walk P w K mg base k N "share_expressions" (defScope st) (defBody st) (ws g_expression_sum g_column_part g_gap_part g_product_part g_number_part) := fun f cd A outer s H E hr =>
  s_cons (s_if (d_cmpT (op_eqA hr.units) l_eq (d_var (i := 0) rfl (Or.inl rfl) nd_domain nc_domain) (d_str) (nomark _)) (s_cons (s_setLc (i := 1) (own := [("begin", 3)]) rfl nd_N rfl rfl (sw_true rfl rfl rfl rfl) (i_val (d_tup (d_cons (d_int) (d_cons (d_int) (d_cons (d_int) (d_nil) rfl) rfl) rfl))) rfl rfl (fun _ _ _ _ _ => g_name nd_N rfl (Or.inr rfl) (Or.inl rfl)) (fun _ _ _ _ _ => t_nil) (fun _ _ _ _ _ => d_call c_expression_sum hr (Nat.le_refl _) rfl (d_cons (d_lc (own := [("k", 4)]) rfl nd_N (i_range1 rfl M.n_range (d_glo M.g_TOUCHES rfl nd_TOUCHES) rfl) rfl rfl (fun _ _ _ _ _ => g_name nd_N rfl (Or.inl rfl) (Or.inr rfl)) (fun _ _ _ _ _ => t_nil) (fun _ _ _ _ _ => d_call c_column_part hr (Nat.le_refl _) rfl (d_cons (d_add (d_var (i := 3) rfl (Or.inr (Or.inl rfl)) nd_begin nc_begin) (d_var (i := 4) rfl (Or.inl rfl) nd_k nc_k)) (d_nil) rfl) rfl nd_column_part) (fun _ => rfl)) (d_nil) rfl) rfl nd_expression_sum) (fun _ => rfl)) (s_one (s_ret (d_lst (d_cons (d_tup (d_cons (d_int) (d_cons (d_call c_gap_part hr (Nat.le_refl _) rfl (d_cons (d_idx (u1 hr) (d_var (i := 1) rfl (Or.inl rfl) nd_lots nc_lots) (d_int) (fun _ _ => rfl)) (d_cons (d_idx (u1 hr) (d_var (i := 1) rfl (Or.inl rfl) nd_lots nc_lots) (d_int) (fun _ _ => rfl)) (d_nil) rfl) rfl) rfl nd_gap_part) (d_nil) rfl) rfl)) (d_cons (d_tup (d_cons (d_int) (d_cons (d_call c_column_part hr (Nat.le_refl _) rfl (d_cons (d_int) (d_nil) rfl) rfl nd_column_part) (d_nil) rfl) rfl)) (d_cons (d_tup (d_cons (d_int) (d_cons (d_idx (u1 hr) (d_var (i := 1) rfl (Or.inl rfl) nd_lots nc_lots) (d_int) (fun _ _ => rfl)) (d_nil) rfl) rfl)) (d_nil) rfl) rfl) rfl))))) (s_nil)) (s_cons (s_if (d_cmpT (op_eqA hr.units) l_eq (d_var (i := 0) rfl (Or.inl rfl) nd_domain nc_domain) (d_str) (nomark _)) (s_one (s_ret (d_lst (d_cons (d_tup (d_cons (d_int) (d_cons (d_call c_gap_part hr (Nat.le_refl _) rfl (d_cons (d_call c_column_part hr (Nat.le_refl _) rfl (d_cons (d_int) (d_nil) rfl) rfl nd_column_part) (d_cons (d_call c_column_part hr (Nat.le_refl _) rfl (d_cons (d_int) (d_nil) rfl) rfl nd_column_part) (d_nil) rfl) rfl) rfl nd_gap_part) (d_nil) rfl) rfl)) (d_nil) rfl)))) (s_nil)) (s_cons (s_set (i := 2) nd_N rfl (Or.inl rfl) (d_call c_product_part hr (Nat.le_refl _) rfl (d_cons (d_call c_column_part hr (Nat.le_refl _) rfl (d_cons (d_int) (d_nil) rfl) rfl nd_column_part) (d_cons (d_call c_column_part hr (Nat.le_refl _) rfl (d_cons (d_int) (d_nil) rfl) rfl nd_column_part) (d_nil) rfl) rfl) rfl nd_product_part) rfl (Or.inl rfl)) (s_one (s_ret (d_lst (d_cons (d_tup (d_cons (d_if (d_cmpT (op_eqA hr.units) l_eq (d_var (i := 0) rfl (Or.inl rfl) nd_domain nc_domain) (d_str) (nomark _)) (d_int) (d_int)) (d_cons (d_call c_gap_part hr (Nat.le_refl _) rfl (d_cons (d_call c_number_part hr (Nat.le_refl _) rfl (d_cons (d_int) (d_nil) rfl) rfl nd_number_part) (d_cons (d_var (i := 2) rfl (Or.inl rfl) nd_counted nc_counted) (d_nil) rfl) rfl) rfl nd_gap_part) (d_nil) rfl) rfl)) (d_nil) rfl))))))
end F_share_expressions

namespace F_sum_roots
abbrev st : Stmt := top 48
abbrev N : List Str := ["size", "p"]
theorem nd_N : N.Nodup := by decide +kernel
theorem sc : FnScope N ["size", "p"] (defScope st) := ⟨rfl, rfl, rfl, by decide +kernel, rfl, by decide +kernel, by decide +kernel⟩
def ws : WS := wRet (wBin oSub (wCB bMin (wCons (wVar 0) (wCons (wVar 1) (wNil)))) (wC (.int 1)))
theorem walk {P : Program} {w : World} {K : PySem.W.Frag} {mg : Str → Option Value} {base : Heap} {k : Nat} (M : Mg K w mg) : Walk P w K mg base k N "sum_roots" (defScope st) (defBody st) (ws) := fun f cd A outer s H E hr =>
  s_one (s_ret (d_sub (d_callB (call_minA rfl) l_min rfl M.n_min b_min (d_cons (d_var (i := 0) rfl (Or.inl rfl) nd_size nc_size) (d_cons (d_var (i := 1) rfl (Or.inl rfl) nd_p nc_p) (d_nil) rfl) rfl) rfl nn_min nd_min) (d_int)))
end F_sum_roots

namespace F_greatest_sum_count
abbrev st : Stmt := top 49
abbrev N : List Str := ["bits", "size", "p"]
theorem nd_N : N.Nodup := by decide +kernel
theorem sc : FnScope N ["bits", "size", "p"] (defScope st) := ⟨rfl, rfl, rfl, by decide +kernel, rfl, by decide +kernel, by decide +kernel⟩
def ws (g_whole_power : SpD) (g_sum_roots : SpD) : WS := wRet (wBin oSub (wCall g_whole_power (wCons (wVar 2) (wCons (wVar 0) (wNil)))) (wCall g_whole_power (wCons (wBin oSub (wVar 2) (wCall g_sum_roots (wCons (wVar 1) (wCons (wVar 2) (wNil))))) (wCons (wVar 0) (wNil)))))
theorem walk {P : Program} {w : World} {K : PySem.W.Frag} {mg : Str → Option Value} {base : Heap} {k : Nat} (M : Mg K w mg) {g_whole_power : SpD} {g_sum_roots : SpD} (c_whole_power : Own P w K mg base k "whole_power" g_whole_power) (c_sum_roots : Own P w K mg base k "sum_roots" g_sum_roots) : Walk P w K mg base k N "greatest_sum_count" (defScope st) (defBody st) (ws g_whole_power g_sum_roots) := fun f cd A outer s H E hr =>
  s_one (s_ret (d_sub (d_call c_whole_power hr (Nat.le_refl _) rfl (d_cons (d_var (i := 2) rfl (Or.inl rfl) nd_p nc_p) (d_cons (d_var (i := 0) rfl (Or.inl rfl) nd_bits nc_bits) (d_nil) rfl) rfl) rfl nd_whole_power) (d_call c_whole_power hr (Nat.le_refl _) rfl (d_cons (d_sub (d_var (i := 2) rfl (Or.inl rfl) nd_p nc_p) (d_call c_sum_roots hr (Nat.le_refl _) rfl (d_cons (d_var (i := 1) rfl (Or.inl rfl) nd_size nc_size) (d_cons (d_var (i := 2) rfl (Or.inl rfl) nd_p nc_p) (d_nil) rfl) rfl) rfl nd_sum_roots)) (d_cons (d_var (i := 0) rfl (Or.inl rfl) nd_bits nc_bits) (d_nil) rfl) rfl) rfl nd_whole_power)))
end F_greatest_sum_count

namespace F_book_names
abbrev st : Stmt := top 52
abbrev N : List Str := ["part", "domain"]
theorem nd_N : N.Nodup := by decide +kernel
theorem sc : FnScope N [] (defScope st) := ⟨rfl, rfl, rfl, by decide +kernel, rfl, by decide +kernel, by decide +kernel⟩
def ws : WS := wRet (wCB bTuple (wCons (wLc2 (wVal (wC (.tup [(.str "first"), (.str "second")]))) (.nm 0) (wYes) (wVal (wC (.tup [(.str "rows"), (.str "cells"), (.str "code"), (.str "times")]))) (.nm 1) (wYes) (wTup (wCons (wVar 1) (wCons (wVar 0) (wNil)))) [0, 1] [1]) (wNil)))
theorem walk {P : Program} {w : World} {K : PySem.W.Frag} {mg : Str → Option Value} {base : Heap} {k : Nat} (M : Mg K w mg) : Walk P w K mg base k N "book_names" (defScope st) (defBody st) (ws) := fun f cd A outer s H E hr =>
  s_one (s_ret (d_callT call_tuple_of l_tuple rfl M.n_tuple b_tuple (d_cons (d_lc2 (own := [("part", 0), ("domain", 1)]) (vs1 := [1]) rfl nd_N (i_val (d_glo M.g_TELLINGS rfl nd_TELLINGS)) rfl rfl rfl rfl (fun _ _ _ _ _ => g_name nd_N rfl (Or.inl rfl) (Or.inr rfl)) (fun _ _ _ _ _ => t_nil) (fun _ _ _ _ _ => i_val (d_glo M.g_DOMAINS rfl nd_DOMAINS)) (fun _ _ _ _ _ => g_name nd_N rfl (Or.inl rfl) (Or.inr rfl)) (fun _ _ _ _ _ => t_nil) (fun _ _ _ _ _ => d_tup (d_cons (d_var (i := 1) rfl (Or.inl rfl) nd_domain nc_domain) (d_cons (d_var (i := 0) rfl (Or.inl rfl) nd_part nc_part) (d_nil) rfl) rfl)) (fun _ => rfl) (fun _ _ => rfl)) (d_nil) rfl) rfl nn_tuple nd_tuple))
end F_book_names

namespace F_book_many
abbrev st : Stmt := top 53
abbrev N : List Str := ["name"]
theorem nd_N : N.Nodup := by decide +kernel
theorem sc : FnScope N ["name"] (defScope st) := ⟨rfl, rfl, rfl, by decide +kernel, rfl, by decide +kernel, by decide +kernel⟩
def ws : WS := wRet (wIf (wBt (wBin oEq (wBin oIdx (wVar 0) (wC (.int 1))) (wC (.str "first")))) (wBin oIdx (wC (.kd ["rows", "cells", "code", "times"] [(.int 30), (.int 2), (.int 1), (.int 1)])) (wBin oIdx (wVar 0) (wC (.int 0)))) (wBin oIdx (wC (.kd ["rows", "cells", "code", "times"] [(.int 16), (.int 2), (.int 1), (.int 1)])) (wBin oIdx (wVar 0) (wC (.int 0)))))
theorem walk {P : Program} {w : World} {K : PySem.W.Frag} {mg : Str → Option Value} {base : Heap} {k : Nat} (M : Mg K w mg) : Walk P w K mg base k N "book_many" (defScope st) (defBody st) (ws) := fun f cd A outer s H E hr =>
  s_one (s_ret (d_if (d_cmpT (op_eqA hr.units) l_eq (d_idx (u1 hr) (d_var (i := 0) rfl (Or.inl rfl) nd_name nc_name) (d_int) (fun _ _ => rfl)) (d_str) (nomark _)) (d_idx (u1 hr) (d_glo M.g_FIRST_MANY rfl nd_FIRST_MANY) (d_idx (u1 hr) (d_var (i := 0) rfl (Or.inl rfl) nd_name nc_name) (d_int) (fun _ _ => rfl)) (fun _ _ => rfl)) (d_idx (u1 hr) (d_glo M.g_SECOND_MANY rfl nd_SECOND_MANY) (d_idx (u1 hr) (d_var (i := 0) rfl (Or.inl rfl) nd_name nc_name) (d_int) (fun _ _ => rfl)) (fun _ _ => rfl))))
end F_book_many

namespace F_book_rows
abbrev st : Stmt := top 54
abbrev N : List Str := ["name", "n"]
theorem nd_N : N.Nodup := by decide +kernel
theorem sc : FnScope N ["name", "n"] (defScope st) := ⟨rfl, rfl, rfl, by decide +kernel, rfl, by decide +kernel, by decide +kernel⟩
def ws (g_book_height : SpD) (g_domain_bits : SpD) (g_book_many : SpD) : WS := wRet (wCall g_book_height (wCons (wCall g_book_many (wCons (wVar 0) (wNil))) (wCons (wCall g_domain_bits (wCons (wBin oIdx (wVar 0) (wC (.int 0))) (wCons (wVar 1) (wNil)))) (wNil))))
theorem walk {P : Program} {w : World} {K : PySem.W.Frag} {mg : Str → Option Value} {base : Heap} {k : Nat} (M : Mg K w mg) {g_book_height : SpD} {g_domain_bits : SpD} {g_book_many : SpD} (c_book_height : Own P w K mg base k "book_height" g_book_height) (c_domain_bits : Own P w K mg base k "domain_bits" g_domain_bits) (c_book_many : Own P w K mg base k "book_many" g_book_many) : Walk P w K mg base k N "book_rows" (defScope st) (defBody st) (ws g_book_height g_domain_bits g_book_many) := fun f cd A outer s H E hr =>
  s_one (s_ret (d_call c_book_height hr (Nat.le_refl _) rfl (d_cons (d_call c_book_many hr (Nat.le_refl _) rfl (d_cons (d_var (i := 0) rfl (Or.inl rfl) nd_name nc_name) (d_nil) rfl) rfl nd_book_many) (d_cons (d_call c_domain_bits hr (Nat.le_refl _) rfl (d_cons (d_idx (u1 hr) (d_var (i := 0) rfl (Or.inl rfl) nd_name nc_name) (d_int) (fun _ _ => rfl)) (d_cons (d_var (i := 1) rfl (Or.inl rfl) nd_n nc_n) (d_nil) rfl) rfl) rfl nd_domain_bits) (d_nil) rfl) rfl) rfl nd_book_height))
end F_book_rows

namespace F_domain_message_size
abbrev st : Stmt := top 55
abbrev N : List Str := ["domain", "rules", "sums", "lot", "one"]
theorem nd_N : N.Nodup := by decide +kernel
theorem sc : FnScope N ["domain"] (defScope st) := ⟨rfl, rfl, rfl, by decide +kernel, rfl, by decide +kernel, by decide +kernel⟩
def ws (g_share_expressions : SpD) (g_domain_rules : SpD) (g_message_size : SpD) (g_joined_expression : SpD) : WS := wSeq (wPar 1 2 (wCons (wCall g_domain_rules (wCons (wVar 0) (wCons (wC (.int 1)) (wCons (wC (.int 0)) (wCons (wC (.int 3)) (wNil)))))) (wCons (wLc (wVal (wCall g_share_expressions (wCons (wVar 0) (wNil)))) (.tup ((.nm 3) :: (.nm 4) :: [])) (wYes) (wVar 4) [3, 4]) (wNil)))) (wRet (wCall g_message_size (wCons (wCall g_joined_expression (wCons (wVar 1) (wCons (wVar 2) (wCons (wC (.int 0)) (wCons (wC (.int 1)) (wCons (wC (.int 3)) (wNil))))))) (wNil))))
theorem walk {P : Program} {w : World} {K : PySem.W.Frag} {mg : Str → Option Value} {base : Heap} {k : Nat} (M : Mg K w mg) {g_share_expressions : SpD} {g_domain_rules : SpD} {g_message_size : SpD} {g_joined_expression : SpD} (c_share_expressions : Own P w K mg base k "share_expressions" g_share_expressions) (c_domain_rules : Own P w K mg base k "domain_rules" g_domain_rules) (c_message_size : Own P w K mg base k "message_size" g_message_size) (c_joined_expression : Own P w K mg base k "joined_expression" g_joined_expression) : Walk P w K mg base k N "domain_message_size" (defScope st) (defBody st) (ws g_share_expressions g_domain_rules g_message_size g_joined_expression) := fun f cd A outer s H E hr =>
  s_cons (s_par (i := 1) (j := 2) rfl nd_N rfl rfl (by decide) rfl rfl (d_cons (d_call c_domain_rules hr (Nat.le_refl _) rfl (d_cons (d_var (i := 0) rfl (Or.inl rfl) nd_domain nc_domain) (d_cons (d_int) (d_cons (d_int) (d_cons (d_int) (d_nil) rfl) rfl) rfl) rfl) rfl nd_domain_rules) (d_cons (d_lc (own := [("lot", 3), ("one", 4)]) rfl nd_N (i_val (d_call c_share_expressions hr (Nat.le_refl _) rfl (d_cons (d_var (i := 0) rfl (Or.inl rfl) nd_domain nc_domain) (d_nil) rfl) rfl nd_share_expressions)) rfl rfl (fun _ _ _ _ _ => g_tup rfl (gs_cons (g_name nd_N rfl (Or.inl rfl) (Or.inr rfl)) (gs_cons (g_name nd_N rfl (Or.inl rfl) (Or.inr rfl)) (gs_nil) rfl) rfl)) (fun _ _ _ _ _ => t_nil) (fun _ _ _ _ _ => d_var (i := 4) rfl (Or.inl rfl) nd_one nc_one) (fun _ => rfl)) (d_nil) rfl) rfl) rfl rfl) (s_one (s_ret (d_call c_message_size hr (Nat.le_refl _) rfl (d_cons (d_call c_joined_expression hr (Nat.le_refl _) rfl (d_cons (d_var (i := 1) rfl (Or.inl rfl) nd_rules nc_rules) (d_cons (d_var (i := 2) rfl (Or.inl rfl) nd_sums nc_sums) (d_cons (d_int) (d_cons (d_int) (d_cons (d_int) (d_nil) rfl) rfl) rfl) rfl) rfl) rfl nd_joined_expression) (d_nil) rfl) rfl nd_message_size)))
end F_domain_message_size

namespace F_book_reads
abbrev st : Stmt := top 57
abbrev N : List Str := ["name", "n", "bits", "path"]
theorem nd_N : N.Nodup := by decide +kernel
theorem sc : FnScope N ["name", "n"] (defScope st) := ⟨rfl, rfl, rfl, by decide +kernel, rfl, by decide +kernel, by decide +kernel⟩
def ws (g_domain_bits : SpD) (g_book_points : SpD) (g_book_size : SpD) (g_book_rows : SpD) : WS := wSeq (wAsg (wCall g_domain_bits (wCons (wBin oIdx (wVar 0) (wC (.int 0))) (wCons (wVar 1) (wNil)))) (.nm 2)) (wSeq (wAsg (wBin oSub (wBits (wCall g_book_points (wCons (wVar 2) (wNil)))) (wC (.int 1))) (.nm 3)) (wRet (wBin oAdd (wBin oMul (wC (.int 2)) (wCall g_book_size (wCons (wVar 2) (wNil)))) (wBin oMul (wC (.int 20)) (wBin oAdd (wCall g_book_rows (wCons (wVar 0) (wCons (wVar 1) (wNil)))) (wVar 3))))))
theorem walk {P : Program} {w : World} {K : PySem.W.Frag} {mg : Str → Option Value} {base : Heap} {k : Nat} (M : Mg K w mg) {g_domain_bits : SpD} {g_book_points : SpD} {g_book_size : SpD} {g_book_rows : SpD} (c_domain_bits : Own P w K mg base k "domain_bits" g_domain_bits) (c_book_points : Own P w K mg base k "book_points" g_book_points) (c_book_size : Own P w K mg base k "book_size" g_book_size) (c_book_rows : Own P w K mg base k "book_rows" g_book_rows) : Walk P w K mg base k N "book_reads" (defScope st) (defBody st) (ws g_domain_bits g_book_points g_book_size g_book_rows) := fun f cd A outer s H E hr =>
  s_cons (s_set (i := 2) nd_N rfl (Or.inl rfl) (d_call c_domain_bits hr (Nat.le_refl _) rfl (d_cons (d_idx (u1 hr) (d_var (i := 0) rfl (Or.inl rfl) nd_name nc_name) (d_int) (fun _ _ => rfl)) (d_cons (d_var (i := 1) rfl (Or.inl rfl) nd_n nc_n) (d_nil) rfl) rfl) rfl nd_domain_bits) rfl (Or.inl rfl)) (s_cons (s_set (i := 3) nd_N rfl (Or.inl rfl) (d_sub (d_bits (d_call c_book_points hr (Nat.le_refl _) rfl (d_cons (d_var (i := 2) rfl (Or.inl rfl) nd_bits nc_bits) (d_nil) rfl) rfl nd_book_points) rfl rfl) (d_int)) rfl (Or.inl rfl)) (s_one (s_ret (d_add (d_mul (d_int) (d_call c_book_size hr (Nat.le_refl _) rfl (d_cons (d_var (i := 2) rfl (Or.inl rfl) nd_bits nc_bits) (d_nil) rfl) rfl nd_book_size)) (d_mul (d_glo M.g_SPOTS rfl nd_SPOTS) (d_add (d_call c_book_rows hr (Nat.le_refl _) rfl (d_cons (d_var (i := 0) rfl (Or.inl rfl) nd_name nc_name) (d_cons (d_var (i := 1) rfl (Or.inl rfl) nd_n nc_n) (d_nil) rfl) rfl) rfl nd_book_rows) (d_var (i := 3) rfl (Or.inl rfl) nd_path nc_path)))))))
end F_book_reads

namespace F_domain_reads
abbrev st : Stmt := top 58
abbrev N : List Str := ["domain", "n"]
theorem nd_N : N.Nodup := by decide +kernel
theorem sc : FnScope N ["domain", "n"] (defScope st) := ⟨rfl, rfl, rfl, by decide +kernel, rfl, by decide +kernel, by decide +kernel⟩
def ws (g_domain_bits : SpD) (g_domain_message_size : SpD) (g_told_many : SpD) : WS := wRet (wBin oAdd (wBin oMul (wCall g_domain_bits (wCons (wVar 0) (wCons (wVar 1) (wNil)))) (wCall g_domain_message_size (wCons (wVar 0) (wNil)))) (wCall g_told_many (wCons (wVar 0) (wNil))))
theorem walk {P : Program} {w : World} {K : PySem.W.Frag} {mg : Str → Option Value} {base : Heap} {k : Nat} (M : Mg K w mg) {g_domain_bits : SpD} {g_domain_message_size : SpD} {g_told_many : SpD} (c_domain_bits : Own P w K mg base k "domain_bits" g_domain_bits) (c_domain_message_size : Own P w K mg base k "domain_message_size" g_domain_message_size) (c_told_many : Own P w K mg base k "told_many" g_told_many) : Walk P w K mg base k N "domain_reads" (defScope st) (defBody st) (ws g_domain_bits g_domain_message_size g_told_many) := fun f cd A outer s H E hr =>
  s_one (s_ret (d_add (d_mul (d_call c_domain_bits hr (Nat.le_refl _) rfl (d_cons (d_var (i := 0) rfl (Or.inl rfl) nd_domain nc_domain) (d_cons (d_var (i := 1) rfl (Or.inl rfl) nd_n nc_n) (d_nil) rfl) rfl) rfl nd_domain_bits) (d_call c_domain_message_size hr (Nat.le_refl _) rfl (d_cons (d_var (i := 0) rfl (Or.inl rfl) nd_domain nc_domain) (d_nil) rfl) rfl nd_domain_message_size)) (d_call c_told_many hr (Nat.le_refl _) rfl (d_cons (d_var (i := 0) rfl (Or.inl rfl) nd_domain nc_domain) (d_nil) rfl) rfl nd_told_many)))
end F_domain_reads

namespace F_talk_reads
abbrev st : Stmt := top 59
abbrev N : List Str := ["n", "one", "domain"]
theorem nd_N : N.Nodup := by decide +kernel
theorem sc : FnScope N ["n"] (defScope st) := ⟨rfl, rfl, rfl, by decide +kernel, rfl, by decide +kernel, by decide +kernel⟩
def ws (g_domain_reads : SpD) (g_book_names : SpD) (g_book_reads : SpD) : WS := wRet (wBin oAdd (wBin oAdd (wC (.int 12)) (wCB bSum (wCons (wLc (wVal (wC (.tup [(.str "rows"), (.str "cells"), (.str "code"), (.str "times")]))) (.nm 2) (wYes) (wCall g_domain_reads (wCons (wVar 2) (wCons (wVar 0) (wNil)))) [2]) (wNil)))) (wCB bSum (wCons (wLc (wVal (wCall g_book_names wNil)) (.nm 1) (wYes) (wCall g_book_reads (wCons (wVar 1) (wCons (wVar 0) (wNil)))) [1]) (wNil))))
theorem walk {P : Program} {w : World} {K : PySem.W.Frag} {mg : Str → Option Value} {base : Heap} {k : Nat} (M : Mg K w mg) {g_domain_reads : SpD} {g_book_names : SpD} {g_book_reads : SpD} (c_domain_reads : Own P w K mg base k "domain_reads" g_domain_reads) (c_book_names : Own P w K mg base k "book_names" g_book_names) (c_book_reads : Own P w K mg base k "book_reads" g_book_reads) : Walk P w K mg base k N "talk_reads" (defScope st) (defBody st) (ws g_domain_reads g_book_names g_book_reads) := fun f cd A outer s H E hr =>
  s_one (s_ret (d_add (d_add (d_int) (d_callB (cr_sum rfl) l_sum rfl M.n_sum b_sum (d_cons (d_lc (own := [("domain", 2)]) rfl nd_N (i_val (d_glo M.g_DOMAINS rfl nd_DOMAINS)) rfl rfl (fun _ _ _ _ _ => g_name nd_N rfl (Or.inl rfl) (Or.inr rfl)) (fun _ _ _ _ _ => t_nil) (fun _ _ _ _ _ => d_call c_domain_reads hr (Nat.le_refl _) rfl (d_cons (d_var (i := 2) rfl (Or.inl rfl) nd_domain nc_domain) (d_cons (d_var (i := 0) rfl (Or.inr (Or.inl rfl)) nd_n nc_n) (d_nil) rfl) rfl) rfl nd_domain_reads) (fun _ => rfl)) (d_nil) rfl) rfl nn_sum nd_sum)) (d_callB (cr_sum rfl) l_sum rfl M.n_sum b_sum (d_cons (d_lc (own := [("one", 1)]) rfl nd_N (i_val (d_call0 c_book_names hr (Nat.le_refl _) rfl nd_book_names)) rfl rfl (fun _ _ _ _ _ => g_name nd_N rfl (Or.inl rfl) (Or.inr rfl)) (fun _ _ _ _ _ => t_nil) (fun _ _ _ _ _ => d_call c_book_reads hr (Nat.le_refl _) rfl (d_cons (d_var (i := 1) rfl (Or.inl rfl) nd_one nc_one) (d_cons (d_var (i := 0) rfl (Or.inr (Or.inl rfl)) nd_n nc_n) (d_nil) rfl) rfl) rfl nd_book_reads) (fun _ => rfl)) (d_nil) rfl) rfl nn_sum nd_sum)))
end F_talk_reads

namespace F_run_numbers
abbrev st : Stmt := top 60
abbrev N : List Str := ["n"]
theorem nd_N : N.Nodup := by decide +kernel
theorem sc : FnScope N ["n"] (defScope st) := ⟨rfl, rfl, rfl, by decide +kernel, rfl, by decide +kernel, by decide +kernel⟩
def ws : WS := wRet (wBin oAdd (wBin oMul (wC (.int 30)) (wBin oShl (wC (.int 1)) (wVar 0))) (wBin oMul (wC (.int 3)) (wC (.int 64))))
theorem walk {P : Program} {w : World} {K : PySem.W.Frag} {mg : Str → Option Value} {base : Heap} {k : Nat} (M : Mg K w mg) : Walk P w K mg base k N "run_numbers" (defScope st) (defBody st) (ws) := fun f cd A outer s H E hr =>
  s_one (s_ret (d_add (d_mul (d_int) (d_shl (d_int) (d_var (i := 0) rfl (Or.inl rfl) nd_n nc_n))) (d_mul (d_int) (d_int))))
end F_run_numbers

namespace F_talk_parts
abbrev st : Stmt := top 61
abbrev N : List Str := ["n", "p", "found", "domain", "bits", "size", "many", "name"]
theorem nd_N : N.Nodup := by decide +kernel
theorem sc : FnScope N ["n", "p"] (defScope st) := ⟨rfl, rfl, rfl, by decide +kernel, rfl, by decide +kernel, by decide +kernel⟩
def ws (g_domain_message_size : SpD) (g_domain_bits : SpD) (g_domain_rules : SpD) (g_share_expressions : SpD) (g_whole_power : SpD) (g_most_vanishing : SpD) (g_greatest_sum_count : SpD) (g_book_names : SpD) (g_book_size : SpD) (g_book_many : SpD) (g_most_wrong_weight : SpD) : WS := wSeq (wAsg (wLst (wNil)) (.nm 2)) (wSeq (wFor (wVal (wC (.tup [(.str "rows"), (.str "cells"), (.str "code"), (.str "times")]))) (.nm 3) (wSeq (wPar 4 5 (wCons (wCall g_domain_bits (wCons (wVar 3) (wCons (wVar 0) (wNil)))) (wCons (wCall g_domain_message_size (wCons (wVar 3) (wNil))) (wNil)))) (wSeq (wAsg (wBin oAdd (wCB bLen (wCons (wCall g_domain_rules (wCons (wVar 3) (wCons (wC (.int 1)) (wCons (wC (.int 0)) (wCons (wC (.int 3)) (wNil)))))) (wNil))) (wCB bLen (wCons (wCall g_share_expressions (wCons (wVar 3) (wNil))) (wNil)))) (.nm 6)) (wSeq (wDrop (wM gAppend (wVar 2) (wCons (wTup (wCons (wTup (wCons (wC (.str "alpha")) (wCons (wVar 3) (wNil)))) (wCons (wBin oSub (wVar 6) (wC (.int 1))) (wCons (wVar 1) (wNil))))) (wNil)))) (wSeq (wDrop (wM gAppend (wVar 2) (wCons (wTup (wCons (wTup (wCons (wC (.str "zero")) (wCons (wVar 3) (wNil)))) (wCons (wCall g_most_vanishing (wCons (wVar 4) (wCons (wVar 1) (wNil)))) (wCons (wCall g_whole_power (wCons (wVar 1) (wCons (wVar 4) (wNil)))) (wNil))))) (wNil)))) (wDrop (wM gAppend (wVar 2) (wCons (wTup (wCons (wTup (wCons (wC (.str "rounds")) (wCons (wVar 3) (wNil)))) (wCons (wCall g_greatest_sum_count (wCons (wVar 4) (wCons (wVar 5) (wCons (wVar 1) (wNil))))) (wCons (wCall g_whole_power (wCons (wVar 1) (wCons (wVar 4) (wNil)))) (wNil))))) (wNil))))))))) (wSeq (wFor (wVal (wCall g_book_names wNil)) (.nm 7) (wSeq (wAsg (wCall g_book_size (wCons (wCall g_domain_bits (wCons (wBin oIdx (wVar 7) (wC (.int 0))) (wCons (wVar 0) (wNil)))) (wNil))) (.nm 5)) (wSeq (wDrop (wM gAppend (wVar 2) (wCons (wTup (wCons (wBin oAdd (wTup (wCons (wC (.str "eta")) (wNil))) (wVar 7)) (wCons (wBin oSub (wCall g_book_many (wCons (wVar 7) (wNil))) (wC (.int 1))) (wCons (wVar 1) (wNil))))) (wNil)))) (wSeq (wDrop (wM gAppend (wVar 2) (wCons (wTup (wCons (wBin oAdd (wTup (wCons (wC (.str "far")) (wNil))) (wVar 7)) (wCons (wBin oAdd (wVar 5) (wC (.int 1))) (wCons (wVar 1) (wNil))))) (wNil)))) (wDrop (wM gAppend (wVar 2) (wCons (wTup (wCons (wBin oAdd (wTup (wCons (wC (.str "spots")) (wNil))) (wVar 7)) (wCons (wCall g_whole_power (wCons (wCall g_most_wrong_weight (wCons (wVar 5) (wCons (wVar 1) (wNil)))) (wCons (wC (.int 20)) (wNil)))) (wCons (wCall g_whole_power (wCons (wVar 1) (wCons (wC (.int 20)) (wNil)))) (wNil))))) (wNil)))))))) (wRet (wVar 2))))
theorem walk {P : Program} {w : World} {K : PySem.W.Frag} {mg : Str → Option Value} {base : Heap} {k : Nat} (M : Mg K w mg) {g_domain_message_size : SpD} {g_domain_bits : SpD} {g_domain_rules : SpD} {g_share_expressions : SpD} {g_whole_power : SpD} {g_most_vanishing : SpD} {g_greatest_sum_count : SpD} {g_book_names : SpD} {g_book_size : SpD} {g_book_many : SpD} {g_most_wrong_weight : SpD} (c_domain_message_size : Own P w K mg base k "domain_message_size" g_domain_message_size) (c_domain_bits : Own P w K mg base k "domain_bits" g_domain_bits) (c_domain_rules : Own P w K mg base k "domain_rules" g_domain_rules) (c_share_expressions : Own P w K mg base k "share_expressions" g_share_expressions) (c_whole_power : Own P w K mg base k "whole_power" g_whole_power) (c_most_vanishing : Own P w K mg base k "most_vanishing" g_most_vanishing) (c_greatest_sum_count : Own P w K mg base k "greatest_sum_count" g_greatest_sum_count) (c_book_names : Own P w K mg base k "book_names" g_book_names) (c_book_size : Own P w K mg base k "book_size" g_book_size) (c_book_many : Own P w K mg base k "book_many" g_book_many) (c_most_wrong_weight : Own P w K mg base k "most_wrong_weight" g_most_wrong_weight) : Walk P w K mg base k N "talk_parts" (defScope st) (defBody st) (ws g_domain_message_size g_domain_bits g_domain_rules g_share_expressions g_whole_power g_most_vanishing g_greatest_sum_count g_book_names g_book_size g_book_many g_most_wrong_weight) := fun f cd A outer s H E hr =>
  s_cons (s_set (i := 2) nd_N rfl (Or.inl rfl) (d_lst (d_nil)) rfl (Or.inl rfl)) (s_cons (s_for PassesOwn.never rfl (i_val (d_glo M.g_DOMAINS rfl nd_DOMAINS)) (g_name nd_N rfl (Or.inl rfl) (Or.inl rfl)) (s_cons (s_par (i := 4) (j := 5) rfl nd_N rfl rfl (by decide) rfl rfl (d_cons (d_call c_domain_bits hr (Nat.le_refl _) rfl (d_cons (d_var (i := 3) rfl (Or.inl rfl) nd_domain nc_domain) (d_cons (d_var (i := 0) rfl (Or.inl rfl) nd_n nc_n) (d_nil) rfl) rfl) rfl nd_domain_bits) (d_cons (d_call c_domain_message_size hr (Nat.le_refl _) rfl (d_cons (d_var (i := 3) rfl (Or.inl rfl) nd_domain nc_domain) (d_nil) rfl) rfl nd_domain_message_size) (d_nil) rfl) rfl) rfl rfl) (s_cons (s_set (i := 6) nd_N rfl (Or.inl rfl) (d_add (d_callB call_len l_len rfl M.n_len b_len (d_cons (d_call c_domain_rules hr (Nat.le_refl _) rfl (d_cons (d_var (i := 3) rfl (Or.inl rfl) nd_domain nc_domain) (d_cons (d_int) (d_cons (d_int) (d_cons (d_int) (d_nil) rfl) rfl) rfl) rfl) rfl nd_domain_rules) (d_nil) rfl) rfl nn_len nd_len) (d_callB call_len l_len rfl M.n_len b_len (d_cons (d_call c_share_expressions hr (Nat.le_refl _) rfl (d_cons (d_var (i := 3) rfl (Or.inl rfl) nd_domain nc_domain) (d_nil) rfl) rfl nd_share_expressions) (d_nil) rfl) rfl nn_len nd_len)) rfl (Or.inl rfl)) (s_cons (s_expr (d_append (d_var (i := 2) rfl (Or.inl rfl) nd_found nc_found) (d_cons (d_tup (d_cons (d_tup (d_cons (d_str) (d_cons (d_var (i := 3) rfl (Or.inl rfl) nd_domain nc_domain) (d_nil) rfl) rfl)) (d_cons (d_sub (d_var (i := 6) rfl (Or.inl rfl) nd_many nc_many) (d_int)) (d_cons (d_var (i := 1) rfl (Or.inl rfl) nd_p nc_p) (d_nil) rfl) rfl) rfl)) (d_nil) rfl) rfl rfl rfl) rfl) (s_cons (s_expr (d_append (d_var (i := 2) rfl (Or.inl rfl) nd_found nc_found) (d_cons (d_tup (d_cons (d_tup (d_cons (d_str) (d_cons (d_var (i := 3) rfl (Or.inl rfl) nd_domain nc_domain) (d_nil) rfl) rfl)) (d_cons (d_call c_most_vanishing hr (Nat.le_refl _) rfl (d_cons (d_var (i := 4) rfl (Or.inl rfl) nd_bits nc_bits) (d_cons (d_var (i := 1) rfl (Or.inl rfl) nd_p nc_p) (d_nil) rfl) rfl) rfl nd_most_vanishing) (d_cons (d_call c_whole_power hr (Nat.le_refl _) rfl (d_cons (d_var (i := 1) rfl (Or.inl rfl) nd_p nc_p) (d_cons (d_var (i := 4) rfl (Or.inl rfl) nd_bits nc_bits) (d_nil) rfl) rfl) rfl nd_whole_power) (d_nil) rfl) rfl) rfl)) (d_nil) rfl) rfl rfl rfl) rfl) (s_one (s_expr (d_append (d_var (i := 2) rfl (Or.inl rfl) nd_found nc_found) (d_cons (d_tup (d_cons (d_tup (d_cons (d_str) (d_cons (d_var (i := 3) rfl (Or.inl rfl) nd_domain nc_domain) (d_nil) rfl) rfl)) (d_cons (d_call c_greatest_sum_count hr (Nat.le_refl _) rfl (d_cons (d_var (i := 4) rfl (Or.inl rfl) nd_bits nc_bits) (d_cons (d_var (i := 5) rfl (Or.inl rfl) nd_size nc_size) (d_cons (d_var (i := 1) rfl (Or.inl rfl) nd_p nc_p) (d_nil) rfl) rfl) rfl) rfl nd_greatest_sum_count) (d_cons (d_call c_whole_power hr (Nat.le_refl _) rfl (d_cons (d_var (i := 1) rfl (Or.inl rfl) nd_p nc_p) (d_cons (d_var (i := 4) rfl (Or.inl rfl) nd_bits nc_bits) (d_nil) rfl) rfl) rfl nd_whole_power) (d_nil) rfl) rfl) rfl)) (d_nil) rfl) rfl rfl rfl) rfl)))))) (fun _ => rfl)) (s_cons (s_for PassesOwn.never rfl (i_val (d_call0 c_book_names hr (Nat.le_refl _) rfl nd_book_names)) (g_name nd_N rfl (Or.inl rfl) (Or.inl rfl)) (s_cons (s_set (i := 5) nd_N rfl (Or.inl rfl) (d_call c_book_size hr (Nat.le_refl _) rfl (d_cons (d_call c_domain_bits hr (Nat.le_refl _) rfl (d_cons (d_idx (u1 hr) (d_var (i := 7) rfl (Or.inl rfl) nd_name nc_name) (d_int) (fun _ _ => rfl)) (d_cons (d_var (i := 0) rfl (Or.inl rfl) nd_n nc_n) (d_nil) rfl) rfl) rfl nd_domain_bits) (d_nil) rfl) rfl nd_book_size) rfl (Or.inl rfl)) (s_cons (s_expr (d_append (d_var (i := 2) rfl (Or.inl rfl) nd_found nc_found) (d_cons (d_tup (d_cons (d_add (d_tup (d_cons (d_str) (d_nil) rfl)) (d_var (i := 7) rfl (Or.inl rfl) nd_name nc_name)) (d_cons (d_sub (d_call c_book_many hr (Nat.le_refl _) rfl (d_cons (d_var (i := 7) rfl (Or.inl rfl) nd_name nc_name) (d_nil) rfl) rfl nd_book_many) (d_int)) (d_cons (d_var (i := 1) rfl (Or.inl rfl) nd_p nc_p) (d_nil) rfl) rfl) rfl)) (d_nil) rfl) rfl rfl rfl) rfl) (s_cons (s_expr (d_append (d_var (i := 2) rfl (Or.inl rfl) nd_found nc_found) (d_cons (d_tup (d_cons (d_add (d_tup (d_cons (d_str) (d_nil) rfl)) (d_var (i := 7) rfl (Or.inl rfl) nd_name nc_name)) (d_cons (d_add (d_var (i := 5) rfl (Or.inl rfl) nd_size nc_size) (d_int)) (d_cons (d_var (i := 1) rfl (Or.inl rfl) nd_p nc_p) (d_nil) rfl) rfl) rfl)) (d_nil) rfl) rfl rfl rfl) rfl) (s_one (s_expr (d_append (d_var (i := 2) rfl (Or.inl rfl) nd_found nc_found) (d_cons (d_tup (d_cons (d_add (d_tup (d_cons (d_str) (d_nil) rfl)) (d_var (i := 7) rfl (Or.inl rfl) nd_name nc_name)) (d_cons (d_call c_whole_power hr (Nat.le_refl _) rfl (d_cons (d_call c_most_wrong_weight hr (Nat.le_refl _) rfl (d_cons (d_var (i := 5) rfl (Or.inl rfl) nd_size nc_size) (d_cons (d_var (i := 1) rfl (Or.inl rfl) nd_p nc_p) (d_nil) rfl) rfl) rfl nd_most_wrong_weight) (d_cons (d_glo M.g_SPOTS rfl nd_SPOTS) (d_nil) rfl) rfl) rfl nd_whole_power) (d_cons (d_call c_whole_power hr (Nat.le_refl _) rfl (d_cons (d_var (i := 1) rfl (Or.inl rfl) nd_p nc_p) (d_cons (d_glo M.g_SPOTS rfl nd_SPOTS) (d_nil) rfl) rfl) rfl nd_whole_power) (d_nil) rfl) rfl) rfl)) (d_nil) rfl) rfl rfl rfl) rfl))))) (fun _ => rfl)) (s_one (s_ret (d_var (i := 2) rfl (Or.inl rfl) nd_found nc_found)))))
end F_talk_parts

namespace F_lowest_share
abbrev st : Stmt := top 64
abbrev N : List Str := ["above", "below", "one", "other"]
theorem nd_N : N.Nodup := by decide +kernel
theorem sc : FnScope N ["above", "below"] (defScope st) := ⟨rfl, rfl, rfl, by decide +kernel, rfl, by decide +kernel, by decide +kernel⟩
def ws : WS := wSeq (wPar 2 3 (wCons (wVar 0) (wCons (wVar 1) (wNil)))) (wSeq (wWhile (wBt (wBin oGt (wVar 3) (wC (.int 0)))) (wPar 2 3 (wCons (wVar 3) (wCons (wBin oMod (wVar 2) (wVar 3)) (wNil))))) (wRet (wTup (wCons (wBin oDiv (wVar 0) (wVar 2)) (wCons (wBin oDiv (wVar 1) (wVar 2)) (wNil))))))
theorem walk {P : Program} {w : World} {K : PySem.W.Frag} {mg : Str → Option Value} {base : Heap} {k : Nat} (M : Mg K w mg) : Walk P w K mg base k N "lowest_share" (defScope st) (defBody st) (ws) := fun f cd A outer s H E hr =>
  s_cons (s_par (i := 2) (j := 3) rfl nd_N rfl rfl (by decide) rfl rfl (d_cons (d_var (i := 0) rfl (Or.inl rfl) nd_above nc_above) (d_cons (d_var (i := 1) rfl (Or.inl rfl) nd_below nc_below) (d_nil) rfl) rfl) rfl rfl) (s_cons (s_while PassesOwn.never (d_cmpT op_gt l_rel (d_var (i := 3) rfl (Or.inl rfl) nd_other nc_other) (d_int) (nomark _)) (s_one (s_par (i := 2) (j := 3) rfl nd_N rfl rfl (by decide) rfl rfl (d_cons (d_var (i := 3) rfl (Or.inl rfl) nd_other nc_other) (d_cons (d_mod (d_var (i := 2) rfl (Or.inl rfl) nd_one nc_one) (d_var (i := 3) rfl (Or.inl rfl) nd_other nc_other)) (d_nil) rfl) rfl) rfl rfl))) (s_one (s_ret (d_tup (d_cons (d_div (d_var (i := 0) rfl (Or.inl rfl) nd_above nc_above) (d_var (i := 2) rfl (Or.inl rfl) nd_one nc_one)) (d_cons (d_div (d_var (i := 1) rfl (Or.inl rfl) nd_below nc_below) (d_var (i := 2) rfl (Or.inl rfl) nd_one nc_one)) (d_nil) rfl) rfl)))))
end F_lowest_share

namespace F_shares_added
abbrev st : Stmt := top 65
abbrev N : List Str := ["shares", "above", "below", "one", "other"]
theorem nd_N : N.Nodup := by decide +kernel
theorem sc : FnScope N ["shares"] (defScope st) := ⟨rfl, rfl, rfl, by decide +kernel, rfl, by decide +kernel, by decide +kernel⟩
def ws (g_lowest_share : SpD) : WS := wSeq (wAsg (wTup (wCons (wC (.int 0)) (wCons (wC (.int 1)) (wNil)))) (.tup ((.nm 1) :: (.nm 2) :: []))) (wSeq (wFor (wVal (wVar 0)) (.tup ((.nm 3) :: (.nm 4) :: [])) (wAsg (wCall g_lowest_share (wCons (wBin oAdd (wBin oMul (wVar 1) (wVar 4)) (wBin oMul (wVar 3) (wVar 2))) (wCons (wBin oMul (wVar 2) (wVar 4)) (wNil)))) (.tup ((.nm 1) :: (.nm 2) :: [])))) (wRet (wTup (wCons (wVar 1) (wCons (wVar 2) (wNil))))))
theorem walk {P : Program} {w : World} {K : PySem.W.Frag} {mg : Str → Option Value} {base : Heap} {k : Nat} (M : Mg K w mg) {g_lowest_share : SpD} (c_lowest_share : Own P w K mg base k "lowest_share" g_lowest_share) : Walk P w K mg base k N "shares_added" (defScope st) (defBody st) (ws g_lowest_share) := fun f cd A outer s H E hr =>
  s_cons (s_asg (d_tup (d_cons (d_int) (d_cons (d_int) (d_nil) rfl) rfl)) (g_tup rfl (gs_cons (g_name nd_N rfl (Or.inl rfl) (Or.inl rfl)) (gs_cons (g_name nd_N rfl (Or.inl rfl) (Or.inl rfl)) (gs_nil) rfl) rfl)) rfl rfl rfl) (s_cons (s_for PassesOwn.never rfl (i_val (d_var (i := 0) rfl (Or.inl rfl) nd_shares nc_shares)) (g_tup rfl (gs_cons (g_name nd_N rfl (Or.inl rfl) (Or.inl rfl)) (gs_cons (g_name nd_N rfl (Or.inl rfl) (Or.inl rfl)) (gs_nil) rfl) rfl)) (s_one (s_asg (d_call c_lowest_share hr (Nat.le_refl _) rfl (d_cons (d_add (d_mul (d_var (i := 1) rfl (Or.inl rfl) nd_above nc_above) (d_var (i := 4) rfl (Or.inl rfl) nd_other nc_other)) (d_mul (d_var (i := 3) rfl (Or.inl rfl) nd_one nc_one) (d_var (i := 2) rfl (Or.inl rfl) nd_below nc_below))) (d_cons (d_mul (d_var (i := 2) rfl (Or.inl rfl) nd_below nc_below) (d_var (i := 4) rfl (Or.inl rfl) nd_other nc_other)) (d_nil) rfl) rfl) rfl nd_lowest_share) (g_tup rfl (gs_cons (g_name nd_N rfl (Or.inl rfl) (Or.inl rfl)) (gs_cons (g_name nd_N rfl (Or.inl rfl) (Or.inl rfl)) (gs_nil) rfl) rfl)) rfl rfl rfl)) (fun _ => rfl)) (s_one (s_ret (d_tup (d_cons (d_var (i := 1) rfl (Or.inl rfl) nd_above nc_above) (d_cons (d_var (i := 2) rfl (Or.inl rfl) nd_below nc_below) (d_nil) rfl) rfl)))))
end F_shares_added

namespace F_lot_many
abbrev st : Stmt := top 66
abbrev N : List Str := ["lot", "n", "rows"]
theorem nd_N : N.Nodup := by decide +kernel
theorem sc : FnScope N ["lot", "n"] (defScope st) := ⟨rfl, rfl, rfl, by decide +kernel, rfl, by decide +kernel, by decide +kernel⟩
def ws : WS := wSeq (wAsg (wBin oShl (wC (.int 1)) (wVar 1)) (.nm 2)) (wRet (wBin oIdx (wDisp (("cells", wBin oAdd (wBin oMul (wC (.int 10)) (wVar 2)) (wC (.int 128))) :: ("code", wBin oAdd (wVar 2) (wC (.int 64))) :: ("times", wBin oMul (wC (.int 13)) (wVar 2)) :: [])) (wVar 0)))
theorem walk {P : Program} {w : World} {K : PySem.W.Frag} {mg : Str → Option Value} {base : Heap} {k : Nat} (M : Mg K w mg) : Walk P w K mg base k N "lot_many" (defScope st) (defBody st) (ws) := fun f cd A outer s H E hr =>
  s_cons (s_set (i := 2) nd_N rfl (Or.inl rfl) (d_shl (d_int) (d_var (i := 1) rfl (Or.inl rfl) nd_n nc_n)) rfl (Or.inl rfl)) (s_one (s_ret (d_idx (u1 hr) (d_disp (dp_cons (d_add (d_mul (d_int) (d_var (i := 2) rfl (Or.inl rfl) nd_rows nc_rows)) (d_int)) (dp_cons (d_add (d_var (i := 2) rfl (Or.inl rfl) nd_rows nc_rows) (d_glo M.g_MOST_CODE rfl nd_MOST_CODE)) (dp_cons (d_mul (d_int) (d_var (i := 2) rfl (Or.inl rfl) nd_rows nc_rows)) (dp_nil)))) rfl rfl rfl) (d_var (i := 0) rfl (Or.inl rfl) nd_lot nc_lot) (fun _ _ => rfl))))
end F_lot_many

namespace F_lot_share
abbrev st : Stmt := top 67
abbrev N : List Str := ["lot", "n", "p", "others", "blind"]
theorem nd_N : N.Nodup := by decide +kernel
theorem sc : FnScope N ["lot", "n", "p"] (defScope st) := ⟨rfl, rfl, rfl, by decide +kernel, rfl, by decide +kernel, by decide +kernel⟩
def ws (g_lot_many : SpD) (g_lowest_share : SpD) : WS := wSeq (wAsg (wBin oSub (wCall g_lot_many (wCons (wVar 0) (wCons (wVar 1) (wNil)))) (wC (.int 1))) (.nm 3)) (wSeq (wAsg (wCB bMin (wCons (wVar 2) (wCons (wBin oMul (wBin oSub (wBin oIdx (wC (.kd ["cells", "code", "times"] [(.int 4), (.int 15), (.int 1)])) (wVar 0)) (wC (.int 1))) (wVar 3)) (wNil)))) (.nm 4)) (wRet (wCall g_lowest_share (wCons (wBin oAdd (wBin oMul (wVar 4) (wVar 2)) (wBin oMul (wBin oSub (wVar 2) (wVar 4)) (wCB bMin (wCons (wVar 2) (wCons (wVar 3) (wNil)))))) (wCons (wBin oMul (wVar 2) (wVar 2)) (wNil))))))
theorem walk {P : Program} {w : World} {K : PySem.W.Frag} {mg : Str → Option Value} {base : Heap} {k : Nat} (M : Mg K w mg) {g_lot_many : SpD} {g_lowest_share : SpD} (c_lot_many : Own P w K mg base k "lot_many" g_lot_many) (c_lowest_share : Own P w K mg base k "lowest_share" g_lowest_share) : Walk P w K mg base k N "lot_share" (defScope st) (defBody st) (ws g_lot_many g_lowest_share) := fun f cd A outer s H E hr =>
  s_cons (s_set (i := 3) nd_N rfl (Or.inl rfl) (d_sub (d_call c_lot_many hr (Nat.le_refl _) rfl (d_cons (d_var (i := 0) rfl (Or.inl rfl) nd_lot nc_lot) (d_cons (d_var (i := 1) rfl (Or.inl rfl) nd_n nc_n) (d_nil) rfl) rfl) rfl nd_lot_many) (d_int)) rfl (Or.inl rfl)) (s_cons (s_set (i := 4) nd_N rfl (Or.inl rfl) (d_callB (call_minA rfl) l_min rfl M.n_min b_min (d_cons (d_var (i := 2) rfl (Or.inl rfl) nd_p nc_p) (d_cons (d_mul (d_sub (d_idx (u1 hr) (d_glo M.g_LOT_WIDTHS rfl nd_LOT_WIDTHS) (d_var (i := 0) rfl (Or.inl rfl) nd_lot nc_lot) (fun _ _ => rfl)) (d_int)) (d_var (i := 3) rfl (Or.inl rfl) nd_others nc_others)) (d_nil) rfl) rfl) rfl nn_min nd_min) rfl (Or.inl rfl)) (s_one (s_ret (d_call c_lowest_share hr (Nat.le_refl _) rfl (d_cons (d_add (d_mul (d_var (i := 4) rfl (Or.inl rfl) nd_blind nc_blind) (d_var (i := 2) rfl (Or.inl rfl) nd_p nc_p)) (d_mul (d_sub (d_var (i := 2) rfl (Or.inl rfl) nd_p nc_p) (d_var (i := 4) rfl (Or.inl rfl) nd_blind nc_blind)) (d_callB (call_minA rfl) l_min rfl M.n_min b_min (d_cons (d_var (i := 2) rfl (Or.inl rfl) nd_p nc_p) (d_cons (d_var (i := 3) rfl (Or.inl rfl) nd_others nc_others) (d_nil) rfl) rfl) rfl nn_min nd_min))) (d_cons (d_mul (d_var (i := 2) rfl (Or.inl rfl) nd_p nc_p) (d_var (i := 2) rfl (Or.inl rfl) nd_p nc_p)) (d_nil) rfl) rfl) rfl nd_lowest_share))))
end F_lot_share

namespace F_belief_parts
abbrev st : Stmt := top 68
abbrev N : List Str := ["n", "p", "found", "lot", "name", "count", "total"]
theorem nd_N : N.Nodup := by decide +kernel
theorem sc : FnScope N ["n", "p"] (defScope st) := ⟨rfl, rfl, rfl, by decide +kernel, rfl, by decide +kernel, by decide +kernel⟩
def ws (g_lot_share : SpD) (g_talk_parts : SpD) (g_lowest_share : SpD) : WS := wSeq (wAsg (wLc (wKeys ["cells", "code", "times"]) (.nm 3) (wYes) (wTup (wCons (wTup (wCons (wC (.str "lot")) (wCons (wVar 3) (wNil)))) (wCons (wCall g_lot_share (wCons (wVar 3) (wCons (wVar 0) (wCons (wVar 1) (wNil))))) (wNil)))) [3]) (.nm 2)) (wRet (wBin oAdd (wVar 2) (wLc (wVal (wCall g_talk_parts (wCons (wVar 0) (wCons (wVar 1) (wNil))))) (.tup ((.nm 4) :: (.nm 5) :: (.nm 6) :: [])) (wYes) (wTup (wCons (wVar 4) (wCons (wCall g_lowest_share (wCons (wVar 5) (wCons (wVar 6) (wNil)))) (wNil)))) [4, 5, 6])))
theorem walk {P : Program} {w : World} {K : PySem.W.Frag} {mg : Str → Option Value} {base : Heap} {k : Nat} (M : Mg K w mg) {g_lot_share : SpD} {g_talk_parts : SpD} {g_lowest_share : SpD} (c_lot_share : Own P w K mg base k "lot_share" g_lot_share) (c_talk_parts : Own P w K mg base k "talk_parts" g_talk_parts) (c_lowest_share : Own P w K mg base k "lowest_share" g_lowest_share) : Walk P w K mg base k N "belief_parts" (defScope st) (defBody st) (ws g_lot_share g_talk_parts g_lowest_share) := fun f cd A outer s H E hr =>
  s_cons (s_setLc (i := 2) (own := [("lot", 3)]) rfl nd_N rfl rfl (sw_true rfl rfl rfl rfl) (i_glo M.k_LOT_WIDTHS rfl nd_LOT_WIDTHS) rfl rfl (fun _ _ _ _ _ => g_name nd_N rfl (Or.inl rfl) (Or.inr rfl)) (fun _ _ _ _ _ => t_nil) (fun _ _ _ _ _ => d_tup (d_cons (d_tup (d_cons (d_str) (d_cons (d_var (i := 3) rfl (Or.inl rfl) nd_lot nc_lot) (d_nil) rfl) rfl)) (d_cons (d_call c_lot_share hr (Nat.le_refl _) rfl (d_cons (d_var (i := 3) rfl (Or.inl rfl) nd_lot nc_lot) (d_cons (d_var (i := 0) rfl (Or.inr (Or.inl rfl)) nd_n nc_n) (d_cons (d_var (i := 1) rfl (Or.inr (Or.inl rfl)) nd_p nc_p) (d_nil) rfl) rfl) rfl) rfl nd_lot_share) (d_nil) rfl) rfl)) (fun _ => rfl)) (s_one (s_ret (d_add (d_var (i := 2) rfl (Or.inl rfl) nd_found nc_found) (d_lc (own := [("name", 4), ("count", 5), ("total", 6)]) rfl nd_N (i_val (d_call c_talk_parts hr (Nat.le_refl _) rfl (d_cons (d_var (i := 0) rfl (Or.inr (Or.inl rfl)) nd_n nc_n) (d_cons (d_var (i := 1) rfl (Or.inr (Or.inl rfl)) nd_p nc_p) (d_nil) rfl) rfl) rfl nd_talk_parts)) rfl rfl (fun _ _ _ _ _ => g_tup rfl (gs_cons (g_name nd_N rfl (Or.inl rfl) (Or.inr rfl)) (gs_cons (g_name nd_N rfl (Or.inl rfl) (Or.inr rfl)) (gs_cons (g_name nd_N rfl (Or.inl rfl) (Or.inr rfl)) (gs_nil) rfl) rfl) rfl)) (fun _ _ _ _ _ => t_nil) (fun _ _ _ _ _ => d_tup (d_cons (d_var (i := 4) rfl (Or.inl rfl) nd_name nc_name) (d_cons (d_call c_lowest_share hr (Nat.le_refl _) rfl (d_cons (d_var (i := 5) rfl (Or.inl rfl) nd_count nc_count) (d_cons (d_var (i := 6) rfl (Or.inl rfl) nd_total nc_total) (d_nil) rfl) rfl) rfl nd_lowest_share) (d_nil) rfl) rfl)) (fun _ => rfl)))))
end F_belief_parts

namespace F_belief_share
abbrev st : Stmt := top 69
abbrev N : List Str := ["n", "p", "above", "below", "name", "share"]
theorem nd_N : N.Nodup := by decide +kernel
theorem sc : FnScope N ["n", "p"] (defScope st) := ⟨rfl, rfl, rfl, by decide +kernel, rfl, by decide +kernel, by decide +kernel⟩
def ws (g_shares_added : SpD) (g_belief_parts : SpD) : WS := wSeq (wAsg (wCall g_shares_added (wCons (wLc (wVal (wCall g_belief_parts (wCons (wVar 0) (wCons (wVar 1) (wNil))))) (.tup ((.nm 4) :: (.nm 5) :: [])) (wYes) (wVar 5) [4, 5]) (wNil))) (.tup ((.nm 2) :: (.nm 3) :: []))) (wRet (wIf (wBt (wBin oLt (wVar 2) (wVar 3))) (wTup (wCons (wVar 2) (wCons (wVar 3) (wNil)))) (wTup (wCons (wC (.int 1)) (wCons (wC (.int 1)) (wNil))))))
theorem walk {P : Program} {w : World} {K : PySem.W.Frag} {mg : Str → Option Value} {base : Heap} {k : Nat} (M : Mg K w mg) {g_shares_added : SpD} {g_belief_parts : SpD} (c_shares_added : Own P w K mg base k "shares_added" g_shares_added) (c_belief_parts : Own P w K mg base k "belief_parts" g_belief_parts) : Walk P w K mg base k N "belief_share" (defScope st) (defBody st) (ws g_shares_added g_belief_parts) := fun f cd A outer s H E hr =>
  s_cons (s_asg (d_call c_shares_added hr (Nat.le_refl _) rfl (d_cons (d_lc (own := [("name", 4), ("share", 5)]) rfl nd_N (i_val (d_call c_belief_parts hr (Nat.le_refl _) rfl (d_cons (d_var (i := 0) rfl (Or.inl rfl) nd_n nc_n) (d_cons (d_var (i := 1) rfl (Or.inl rfl) nd_p nc_p) (d_nil) rfl) rfl) rfl nd_belief_parts)) rfl rfl (fun _ _ _ _ _ => g_tup rfl (gs_cons (g_name nd_N rfl (Or.inl rfl) (Or.inr rfl)) (gs_cons (g_name nd_N rfl (Or.inl rfl) (Or.inr rfl)) (gs_nil) rfl) rfl)) (fun _ _ _ _ _ => t_nil) (fun _ _ _ _ _ => d_var (i := 5) rfl (Or.inl rfl) nd_share nc_share) (fun _ => rfl)) (d_nil) rfl) rfl nd_shares_added) (g_tup rfl (gs_cons (g_name nd_N rfl (Or.inl rfl) (Or.inl rfl)) (gs_cons (g_name nd_N rfl (Or.inl rfl) (Or.inl rfl)) (gs_nil) rfl) rfl)) rfl rfl rfl) (s_one (s_ret (d_if (d_cmpT op_lt l_rel (d_var (i := 2) rfl (Or.inl rfl) nd_above nc_above) (d_var (i := 3) rfl (Or.inl rfl) nd_below nc_below) (nomark _)) (d_tup (d_cons (d_var (i := 2) rfl (Or.inl rfl) nd_above nc_above) (d_cons (d_var (i := 3) rfl (Or.inl rfl) nd_below nc_below) (d_nil) rfl) rfl)) (d_tup (d_cons (d_int) (d_cons (d_int) (d_nil) rfl) rfl)))))
end F_belief_share

namespace F__law_state
abbrev st : Stmt := top 71
abbrev N : List Str := ["script", "seed", "cell"]
theorem nd_N : N.Nodup := by decide +kernel
theorem sc : FnScope N ["script"] (defScope st) := ⟨rfl, rfl, rfl, by decide +kernel, rfl, by decide +kernel, by decide +kernel⟩
def ws : WS := wSeq (wAsg (wC (.int 7)) (.nm 1)) (wSeq (wFor (wVal (wVar 0)) (.nm 2) (wAsg (wBin oMod (wCB bInt (wCons (wBin oAdd (wBin oMul (wVar 1) (wC (.int 31))) (wVar 2)) (wNil))) (wC (.int 1000003))) (.nm 1))) (wRet (wLst (wCons (wLc (wVal (wVar 0)) (.nm 2) (wYes) (wCB bAbs (wCons (wVar 2) (wNil))) [2]) (wCons (wBin oAdd (wVar 1) (wC (.int 1))) (wNil))))))
theorem walk {P : Program} {w : World} {K : PySem.W.Frag} {mg : Str → Option Value} {base : Heap} {k : Nat} (M : Mg K w mg) : Walk P w K mg base k N "_law_state" (defScope st) (defBody st) (ws) := fun f cd A outer s H E hr =>
  s_cons (s_set (i := 1) nd_N rfl (Or.inl rfl) (d_int) rfl (Or.inl rfl)) (s_cons (s_for PassesOwn.never rfl (i_val (d_var (i := 0) rfl (Or.inl rfl) nd_script nc_script)) (g_name nd_N rfl (Or.inl rfl) (Or.inl rfl)) (s_one (s_set (i := 1) nd_N rfl (Or.inl rfl) (d_mod (d_callT call_int1 l_int1 rfl M.n_int b_int (d_cons (d_add (d_mul (d_var (i := 1) rfl (Or.inl rfl) nd_seed nc_seed) (d_int)) (d_var (i := 2) rfl (Or.inl rfl) nd_cell nc_cell)) (d_nil) rfl) rfl nn_int nd_int) (d_int)) rfl (Or.inl rfl))) (fun _ => rfl)) (s_one (s_ret (d_lst (d_cons (d_lc (own := [("cell", 2)]) rfl nd_N (i_val (d_var (i := 0) rfl (Or.inl rfl) nd_script nc_script)) rfl rfl (fun _ _ _ _ _ => g_name nd_N rfl (Or.inl rfl) (Or.inr rfl)) (fun _ _ _ _ _ => t_nil) (fun _ _ _ _ _ => d_callB call_abs l_abs rfl M.n_abs b_abs (d_cons (d_var (i := 2) rfl (Or.inl rfl) nd_cell nc_cell) (d_nil) rfl) rfl nn_abs nd_abs) (fun _ => rfl)) (d_cons (d_add (d_var (i := 1) rfl (Or.inl rfl) nd_seed nc_seed) (d_int)) (d_nil) rfl) rfl)))))
end F__law_state

namespace F__law_draw
abbrev st : Stmt := top 72
abbrev N : List Str := ["state", "many", "cells", "value", "mixed"]
theorem nd_N : N.Nodup := by decide +kernel
theorem sc : FnScope N ["state", "many"] (defScope st) := ⟨rfl, rfl, rfl, by decide +kernel, rfl, by decide +kernel, by decide +kernel⟩
def ws : WS := wSeq (wAsg (wBin oIdx (wVar 0) (wC (.int 0))) (.nm 2)) (wSeq (wWhile (wAndT (wBt (wBin oGt (wCB bLen (wCons (wVar 2) (wNil))) (wC (.int 0)))) (wBt (wBin oEq (wBin oIdx (wVar 2) (wC (.int 0))) (wC (.int 0))))) (wDrop (wM gPopAt (wVar 2) (wCons (wC (.int 0)) (wNil))))) (wSeq (wIfS (wBt (wBin oGt (wCB bLen (wCons (wVar 2) (wNil))) (wC (.int 0)))) (wSeq (wAsg (wBin oIdx (wVar 2) (wC (.int 0))) (.nm 3)) (wSeq (wPut (wBin oDiv (wVar 3) (wVar 1)) (wVar 2) (wC (.int 0))) (wRet (wBin oMod (wCB bInt (wCons (wVar 3) (wNil))) (wVar 1))))) (wNext)) (wSeq (wAsg (wBin oMod (wCB bInt (wCons (wBin oAdd (wBin oMul (wBin oIdx (wVar 0) (wC (.int 1))) (wC (.int 48271))) (wC (.int 12345))) (wNil))) (wC (.int 2147483647))) (.nm 4)) (wSeq (wPut (wVar 4) (wVar 0) (wC (.int 1))) (wRet (wBin oMod (wCB bInt (wCons (wBin oDiv (wVar 4) (wC (.int 64))) (wNil))) (wVar 1)))))))
theorem walk {P : Program} {w : World} {K : PySem.W.Frag} {mg : Str → Option Value} {base : Heap} {k : Nat} (M : Mg K w mg) : Walk P w K mg base k N "_law_draw" (defScope st) (defBody st) (ws) := fun f cd A outer s H E hr =>
  s_cons (s_set (i := 2) nd_N rfl (Or.inl rfl) (d_idx (u1 hr) (d_var (i := 0) rfl (Or.inl rfl) nd_state nc_state) (d_int) (fun _ _ => rfl)) rfl (Or.inl rfl)) (s_cons (s_while PassesOwn.never (PW.pt (d_andT (d_cmpT op_gt l_rel (d_callB call_len l_len rfl M.n_len b_len (d_cons (d_var (i := 2) rfl (Or.inl rfl) nd_cells nc_cells) (d_nil) rfl) rfl nn_len nd_len) (d_int) (nomark _)) (pw_and1 (d_cmpT (op_eqA hr.units) l_eq (d_idx (u1 hr) (d_var (i := 2) rfl (Or.inl rfl) nd_cells nc_cells) (d_int) (fun _ _ => rfl)) (d_int) (nomark _))))) (s_one (s_expr (d_popAt (d_var (i := 2) rfl (Or.inl rfl) nd_cells nc_cells) (d_cons (d_int) (d_nil) rfl) rfl rfl rfl) rfl))) (s_cons (s_if (d_cmpT op_gt l_rel (d_callB call_len l_len rfl M.n_len b_len (d_cons (d_var (i := 2) rfl (Or.inl rfl) nd_cells nc_cells) (d_nil) rfl) rfl nn_len nd_len) (d_int) (nomark _)) (s_cons (s_set (i := 3) nd_N rfl (Or.inl rfl) (d_idx (u1 hr) (d_var (i := 2) rfl (Or.inl rfl) nd_cells nc_cells) (d_int) (fun _ _ => rfl)) rfl (Or.inl rfl)) (s_cons (s_put (d_div (d_var (i := 3) rfl (Or.inl rfl) nd_value nc_value) (d_var (i := 1) rfl (Or.inl rfl) nd_many nc_many)) (d_var (i := 2) rfl (Or.inl rfl) nd_cells nc_cells) (d_int) (fun _ => rfl) rfl rfl) (s_one (s_ret (d_mod (d_callT call_int1 l_int1 rfl M.n_int b_int (d_cons (d_var (i := 3) rfl (Or.inl rfl) nd_value nc_value) (d_nil) rfl) rfl nn_int nd_int) (d_var (i := 1) rfl (Or.inl rfl) nd_many nc_many)))))) (s_nil)) (s_cons (s_set (i := 4) nd_N rfl (Or.inl rfl) (d_mod (d_callT call_int1 l_int1 rfl M.n_int b_int (d_cons (d_add (d_mul (d_idx (u1 hr) (d_var (i := 0) rfl (Or.inl rfl) nd_state nc_state) (d_int) (fun _ _ => rfl)) (d_int)) (d_int)) (d_nil) rfl) rfl nn_int nd_int) (d_int)) rfl (Or.inl rfl)) (s_cons (s_put (d_var (i := 4) rfl (Or.inl rfl) nd_mixed nc_mixed) (d_var (i := 0) rfl (Or.inl rfl) nd_state nc_state) (d_int) (fun _ => rfl) rfl rfl) (s_one (s_ret (d_mod (d_callT call_int1 l_int1 rfl M.n_int b_int (d_cons (d_div (d_var (i := 4) rfl (Or.inl rfl) nd_mixed nc_mixed) (d_int)) (d_nil) rfl) rfl nn_int nd_int) (d_var (i := 1) rfl (Or.inl rfl) nd_many nc_many))))))))
end F__law_draw

namespace F__law_same
abbrev st : Stmt := top 73
abbrev N : List Str := ["told", "due", "kinds", "k"]
theorem nd_N : N.Nodup := by decide +kernel
theorem sc : FnScope N ["told", "due"] (defScope st) := ⟨rfl, rfl, rfl, by decide +kernel, rfl, by decide +kernel, by decide +kernel⟩
def ws (g__law_same : SpD) : WS := wSeq (wIfS (wTru (wIsi [.lst, .tup] (wVar 1))) (wSeq (wAsg (wIf (wTru (wIsi [.lst] (wVar 1))) (wIsi [.lst] (wVar 0)) (wIsi [.tup] (wVar 0))) (.nm 2)) (wRet (wAndV (wVar 2) (wAndV (wBin oEq (wCB bLen (wCons (wVar 0) (wNil))) (wCB bLen (wCons (wVar 1) (wNil)))) (wCB bAll (wCons (wLc (wRng1 (wCB bLen (wCons (wVar 1) (wNil)))) (.nm 3) (wYes) (wCall g__law_same (wCons (wBin oIdx (wVar 0) (wVar 3)) (wCons (wBin oIdx (wVar 1) (wVar 3)) (wNil)))) [3]) (wNil))))))) (wNext)) (wSeq (wIfS (wOrT (wTru (wIsi [.bl] (wVar 1))) (wTru (wIsi [.bl] (wVar 0)))) (wRet (wAndV (wIsi [.bl] (wVar 1)) (wAndV (wIsi [.bl] (wVar 0)) (wBin oEq (wVar 0) (wVar 1))))) (wNext)) (wRet (wIf (wBt (wBin oIsN (wVar 1) (wC .non))) (wBin oIsN (wVar 0) (wC .non)) (wAndV (wIsi [.int, .str] (wVar 0)) (wBin oEq (wVar 0) (wVar 1))))))
theorem walk {P : Program} {w : World} {K : PySem.W.Frag} {mg : Str → Option Value} {base : Heap} {k : Nat} (M : Mg K w mg) {g__law_same : SpD} (c__law_same : Own P w K mg base k "_law_same" g__law_same) : Walk P w K mg base k N "_law_same" (defScope st) (defBody st) (ws g__law_same) := fun f cd A outer s H E hr =>
  s_cons (s_if (d_tru (d_isiT rfl M.n_isinstance (d_var (i := 1) rfl (Or.inr (Or.inl rfl)) nd_due nc_due) rfl (.cons (d_ty rfl M.n_list b_list nn_list nd_list (by decide)) (.cons (d_ty rfl M.n_tuple b_tuple nn_tuple nd_tuple (by decide)) (.nil))) (by decide)) (fun _ => rfl)) (s_cons (s_set (i := 2) nd_N rfl (Or.inl rfl) (d_if (d_tru (d_isi rfl M.n_isinstance (d_var (i := 1) rfl (Or.inr (Or.inl rfl)) nd_due nc_due) rfl (d_ty rfl M.n_list b_list nn_list nd_list (by decide))) (fun _ => rfl)) (d_isi rfl M.n_isinstance (d_var (i := 0) rfl (Or.inr (Or.inl rfl)) nd_told nc_told) rfl (d_ty rfl M.n_list b_list nn_list nd_list (by decide))) (d_isi rfl M.n_isinstance (d_var (i := 0) rfl (Or.inr (Or.inl rfl)) nd_told nc_told) rfl (d_ty rfl M.n_tuple b_tuple nn_tuple nd_tuple (by decide)))) rfl (Or.inl rfl)) (s_one (s_ret (d_andV (d_var (i := 2) rfl (Or.inl rfl) nd_kinds nc_kinds) (d_andV (d_cmp (op_eqA hr.units) l_eq (d_callB call_len l_len rfl M.n_len b_len (d_cons (d_var (i := 0) rfl (Or.inr (Or.inl rfl)) nd_told nc_told) (d_nil) rfl) rfl nn_len nd_len) (d_callB call_len l_len rfl M.n_len b_len (d_cons (d_var (i := 1) rfl (Or.inr (Or.inl rfl)) nd_due nc_due) (d_nil) rfl) rfl nn_len nd_len) (nomark _)) (pe_one (d_callB (cr_all rfl) l_all rfl M.n_all b_all (d_cons (d_lc (own := [("k", 3)]) rfl nd_N (i_range1 rfl M.n_range (d_callB call_len l_len rfl M.n_len b_len (d_cons (d_var (i := 1) rfl (Or.inr (Or.inl rfl)) nd_due nc_due) (d_nil) rfl) rfl nn_len nd_len) rfl) rfl rfl (fun _ _ _ _ _ => g_name nd_N rfl (Or.inl rfl) (Or.inr rfl)) (fun _ _ _ _ _ => t_nil) (fun _ _ _ _ _ => d_call c__law_same hr (Nat.le_refl _) rfl (d_cons (d_idx (u1 hr) (d_var (i := 0) rfl (Or.inr (Or.inl rfl)) nd_told nc_told) (d_var (i := 3) rfl (Or.inl rfl) nd_k nc_k) (fun _ _ => rfl)) (d_cons (d_idx (u1 hr) (d_var (i := 1) rfl (Or.inr (Or.inl rfl)) nd_due nc_due) (d_var (i := 3) rfl (Or.inl rfl) nd_k nc_k) (fun _ _ => rfl)) (d_nil) rfl) rfl) rfl nd__law_same) (fun _ => rfl)) (d_nil) rfl) rfl nn_all nd_all))))))) (s_nil)) (s_cons (s_if (PW.pt (d_orT (d_tru (d_isi rfl M.n_isinstance (d_var (i := 1) rfl (Or.inr (Or.inl rfl)) nd_due nc_due) rfl (d_ty rfl M.n_bool b_bool nn_bool nd_bool (by decide))) (fun _ => rfl)) (pw_or1 (d_tru (d_isi rfl M.n_isinstance (d_var (i := 0) rfl (Or.inr (Or.inl rfl)) nd_told nc_told) rfl (d_ty rfl M.n_bool b_bool nn_bool nd_bool (by decide))) (fun _ => rfl))))) (s_one (s_ret (d_andV (d_isi rfl M.n_isinstance (d_var (i := 1) rfl (Or.inr (Or.inl rfl)) nd_due nc_due) rfl (d_ty rfl M.n_bool b_bool nn_bool nd_bool (by decide))) (d_andV (d_isi rfl M.n_isinstance (d_var (i := 0) rfl (Or.inr (Or.inl rfl)) nd_told nc_told) rfl (d_ty rfl M.n_bool b_bool nn_bool nd_bool (by decide))) (pe_one (d_cmp (op_eqA hr.units) l_eq (d_var (i := 0) rfl (Or.inr (Or.inl rfl)) nd_told nc_told) (d_var (i := 1) rfl (Or.inr (Or.inl rfl)) nd_due nc_due) (nomark _))))))) (s_nil)) (s_one (s_ret (d_if (d_cmpT op_isN l_isN (d_var (i := 1) rfl (Or.inr (Or.inl rfl)) nd_due nc_due) (d_non) (nomark _)) (d_cmp op_isN l_isN (d_var (i := 0) rfl (Or.inr (Or.inl rfl)) nd_told nc_told) (d_non) (nomark _)) (d_andV (d_isiT rfl M.n_isinstance (d_var (i := 0) rfl (Or.inr (Or.inl rfl)) nd_told nc_told) rfl (.cons (d_ty rfl M.n_int b_int nn_int nd_int (by decide)) (.cons (d_ty rfl M.n_str b_str nn_str nd_str (by decide)) (.nil))) (by decide)) (pe_one (d_cmp (op_eqA hr.units) l_eq (d_var (i := 0) rfl (Or.inr (Or.inl rfl)) nd_told nc_told) (d_var (i := 1) rfl (Or.inr (Or.inl rfl)) nd_due nc_due) (nomark _))))))))
end F__law_same

namespace F__law_power
abbrev st : Stmt := top 74
abbrev N : List Str := ["number", "many", "found", "k"]
theorem nd_N : N.Nodup := by decide +kernel
theorem sc : FnScope N ["number", "many"] (defScope st) := ⟨rfl, rfl, rfl, by decide +kernel, rfl, by decide +kernel, by decide +kernel⟩
def ws : WS := wSeq (wAsg (wC (.int 1)) (.nm 2)) (wSeq (wFor (wRng1 (wVar 1)) (.nm 3) (wAsg (wBin oMul (wVar 2) (wVar 0)) (.nm 2))) (wRet (wVar 2)))
theorem walk {P : Program} {w : World} {K : PySem.W.Frag} {mg : Str → Option Value} {base : Heap} {k : Nat} (M : Mg K w mg) : Walk P w K mg base k N "_law_power" (defScope st) (defBody st) (ws) := fun f cd A outer s H E hr =>
  s_cons (s_set (i := 2) nd_N rfl (Or.inl rfl) (d_int) rfl (Or.inl rfl)) (s_cons (s_for PassesOwn.never rfl (i_range1 rfl M.n_range (d_var (i := 1) rfl (Or.inl rfl) nd_many nc_many) rfl) (g_name nd_N rfl (Or.inl rfl) (Or.inl rfl)) (s_one (s_set (i := 2) nd_N rfl (Or.inl rfl) (d_mul (d_var (i := 2) rfl (Or.inl rfl) nd_found nc_found) (d_var (i := 0) rfl (Or.inl rfl) nd_number nc_number)) rfl (Or.inl rfl))) (fun _ => rfl)) (s_one (s_ret (d_var (i := 2) rfl (Or.inl rfl) nd_found nc_found))))
end F__law_power

namespace F__law_domains
abbrev st : Stmt := top 75
abbrev N : List Str := ["n", "rows"]
theorem nd_N : N.Nodup := by decide +kernel
theorem sc : FnScope N ["n"] (defScope st) := ⟨rfl, rfl, rfl, by decide +kernel, rfl, by decide +kernel, by decide +kernel⟩
def ws : WS := wSeq (wAsg (wLst (wCons (wTup (wCons (wC (.str "rows")) (wCons (wVar 0) (wCons (wC (.int 23)) (wCons (wC (.int 3)) (wCons (wC (.int 5)) (wCons (wC (.int 30)) (wCons (wC (.int 16)) (wNil))))))))) (wCons (wTup (wCons (wC (.str "cells")) (wCons (wC (.int 6)) (wCons (wC (.int 3)) (wCons (wC (.int 1)) (wCons (wC (.int 4)) (wCons (wC (.int 2)) (wCons (wC (.int 2)) (wNil))))))))) (wNil)))) (.nm 1)) (wRet (wBin oAdd (wVar 1) (wLst (wCons (wTup (wCons (wC (.str "code")) (wCons (wC (.int 6)) (wCons (wC (.int 1)) (wCons (wC (.int 1)) (wCons (wC (.int 4)) (wCons (wC (.int 1)) (wCons (wC (.int 1)) (wNil))))))))) (wCons (wTup (wCons (wC (.str "times")) (wCons (wBin oAdd (wVar 0) (wC (.int 3))) (wCons (wC (.int 1)) (wCons (wC (.int 1)) (wCons (wC (.int 4)) (wCons (wC (.int 1)) (wCons (wC (.int 1)) (wNil))))))))) (wNil))))))
theorem walk {P : Program} {w : World} {K : PySem.W.Frag} {mg : Str → Option Value} {base : Heap} {k : Nat} (M : Mg K w mg) : Walk P w K mg base k N "_law_domains" (defScope st) (defBody st) (ws) := fun f cd A outer s H E hr =>
  s_cons (s_set (i := 1) nd_N rfl (Or.inl rfl) (d_lst (d_cons (d_tup (d_cons (d_str) (d_cons (d_var (i := 0) rfl (Or.inl rfl) nd_n nc_n) (d_cons (d_int) (d_cons (d_int) (d_cons (d_int) (d_cons (d_int) (d_cons (d_int) (d_nil) rfl) rfl) rfl) rfl) rfl) rfl) rfl)) (d_cons (d_tup (d_cons (d_str) (d_cons (d_int) (d_cons (d_int) (d_cons (d_int) (d_cons (d_int) (d_cons (d_int) (d_cons (d_int) (d_nil) rfl) rfl) rfl) rfl) rfl) rfl) rfl)) (d_nil) rfl) rfl)) rfl (Or.inl rfl)) (s_one (s_ret (d_add (d_var (i := 1) rfl (Or.inl rfl) nd_rows nc_rows) (d_lst (d_cons (d_tup (d_cons (d_str) (d_cons (d_int) (d_cons (d_int) (d_cons (d_int) (d_cons (d_int) (d_cons (d_int) (d_cons (d_int) (d_nil) rfl) rfl) rfl) rfl) rfl) rfl) rfl)) (d_cons (d_tup (d_cons (d_str) (d_cons (d_add (d_var (i := 0) rfl (Or.inl rfl) nd_n nc_n) (d_int)) (d_cons (d_int) (d_cons (d_int) (d_cons (d_int) (d_cons (d_int) (d_cons (d_int) (d_nil) rfl) rfl) rfl) rfl) rfl) rfl) rfl)) (d_nil) rfl) rfl)))))
end F__law_domains

namespace F__law_size
abbrev st : Stmt := top 76
abbrev N : List Str := ["bits", "high"]
theorem nd_N : N.Nodup := by decide +kernel
theorem sc : FnScope N ["bits"] (defScope st) := ⟨rfl, rfl, rfl, by decide +kernel, rfl, by decide +kernel, by decide +kernel⟩
def ws : WS := wSeq (wAsg (wCB bMax (wCons (wC (.int 0)) (wCons (wBin oSub (wBin oDiv (wVar 0) (wC (.int 2))) (wC (.int 3))) (wNil)))) (.nm 1)) (wRet (wTup (wCons (wBin oShl (wC (.int 1)) (wVar 1)) (wCons (wBin oShl (wC (.int 1)) (wBin oSub (wVar 0) (wVar 1))) (wNil)))))
theorem walk {P : Program} {w : World} {K : PySem.W.Frag} {mg : Str → Option Value} {base : Heap} {k : Nat} (M : Mg K w mg) : Walk P w K mg base k N "_law_size" (defScope st) (defBody st) (ws) := fun f cd A outer s H E hr =>
  s_cons (s_set (i := 1) nd_N rfl (Or.inl rfl) (d_callB (call_maxA rfl) l_max rfl M.n_max b_max (d_cons (d_int) (d_cons (d_sub (d_div (d_var (i := 0) rfl (Or.inl rfl) nd_bits nc_bits) (d_int)) (d_int)) (d_nil) rfl) rfl) rfl nn_max nd_max) rfl (Or.inl rfl)) (s_one (s_ret (d_tup (d_cons (d_shl (d_int) (d_var (i := 1) rfl (Or.inl rfl) nd_high nc_high)) (d_cons (d_shl (d_int) (d_sub (d_var (i := 0) rfl (Or.inl rfl) nd_bits nc_bits) (d_var (i := 1) rfl (Or.inl rfl) nd_high nc_high))) (d_nil) rfl) rfl))))
end F__law_size

namespace F__law_spots
abbrev st : Stmt := top 77
abbrev N : List Str := ["size", "p", "points", "weights", "spot"]
theorem nd_N : N.Nodup := by decide +kernel
theorem sc : FnScope N ["size", "p"] (defScope st) := ⟨rfl, rfl, rfl, by decide +kernel, rfl, by decide +kernel, by decide +kernel⟩
def ws : WS := wSeq (wAsg (wBin oMul (wC (.int 4)) (wVar 0)) (.nm 2)) (wSeq (wAsg (wCB bSorted (wCons (wLc (wRng1 (wVar 2)) (.nm 4) (wYes) (wBin oAdd (wBin oDiv (wVar 1) (wVar 2)) (wIf (wBt (wBin oLt (wVar 4) (wBin oSub (wVar 1) (wBin oMul (wBin oDiv (wVar 1) (wVar 2)) (wVar 2))))) (wC (.int 1)) (wC (.int 0)))) [4]) (wNil))) (.nm 3)) (wRet (wCB bSum (wCons (wSl (wVar 3) (wPart (wBin oAdd (wVar 0) (wC (.int 1)))) (wNoPart)) (wNil)))))
theorem walk {P : Program} {w : World} {K : PySem.W.Frag} {mg : Str → Option Value} {base : Heap} {k : Nat} (M : Mg K w mg) : Walk P w K mg base k N "_law_spots" (defScope st) (defBody st) (ws) := fun f cd A outer s H E hr =>
  s_cons (s_set (i := 2) nd_N rfl (Or.inr rfl) (d_mul (d_int) (d_var (i := 0) rfl (Or.inl rfl) nd_size nc_size)) rfl (Or.inl rfl)) (s_cons (s_set (i := 3) nd_N rfl (Or.inl rfl) (d_callB cr_sortedI l_sorted rfl M.n_sorted b_sorted (d_cons (d_lc (own := [("spot", 4)]) rfl nd_N (i_range1 rfl M.n_range (d_var (i := 2) rfl (Or.inr (Or.inl rfl)) nd_points nc_points) rfl) rfl rfl (fun _ _ _ _ _ => g_name nd_N rfl (Or.inl rfl) (Or.inr rfl)) (fun _ _ _ _ _ => t_nil) (fun _ _ _ _ _ => d_add (d_div (d_var (i := 1) rfl (Or.inr (Or.inl rfl)) nd_p nc_p) (d_var (i := 2) rfl (Or.inr (Or.inl rfl)) nd_points nc_points)) (d_if (d_cmpT op_lt l_rel (d_var (i := 4) rfl (Or.inl rfl) nd_spot nc_spot) (d_sub (d_var (i := 1) rfl (Or.inr (Or.inl rfl)) nd_p nc_p) (d_mul (d_div (d_var (i := 1) rfl (Or.inr (Or.inl rfl)) nd_p nc_p) (d_var (i := 2) rfl (Or.inr (Or.inl rfl)) nd_points nc_points)) (d_var (i := 2) rfl (Or.inr (Or.inl rfl)) nd_points nc_points))) (nomark _)) (d_int) (d_int))) (fun _ => rfl)) (d_nil) rfl) rfl nn_sorted nd_sorted) rfl (Or.inl rfl)) (s_one (s_ret (d_callB (cr_sum rfl) l_sum rfl M.n_sum b_sum (d_cons (d_sl (d_var (i := 3) rfl (Or.inl rfl) nd_weights nc_weights) (d_part (d_add (d_var (i := 0) rfl (Or.inl rfl) nd_size nc_size) (d_int))) (d_noPart)) (d_nil) rfl) rfl nn_sum nd_sum))))
end F__law_spots

namespace F_law
abbrev st : Stmt := top 78
abbrev N : List Str := ["script", "state", "turn", "n", "p", "due", "reads", "domain", "bits", "rules", "sums", "size", "first", "second", "part", "row", "name", "many", "high", "path", "told", "share", "count", "total"]
theorem nd_N : N.Nodup := by decide +kernel
theorem sc : FnScope N ["script"] (defScope st) := ⟨rfl, rfl, rfl, by decide +kernel, rfl, by decide +kernel, by decide +kernel⟩
def ws (g__law_state : SpD) (g__law_draw : SpD) (g__law_domains : SpD) (g__law_power : SpD) (g_domain_reads : SpD) (g__law_size : SpD) (g__law_spots : SpD) (g_book_reads : SpD) (g__law_same : SpD) (g_talk_parts : SpD) (g_talk_reads : SpD) (g_run_numbers : SpD) (g_belief_parts : SpD) (g_lowest_share : SpD) (g_shares_added : SpD) (g_belief_share : SpD) : WS := wSeq (wAsg (wCall g__law_state (wCons (wVar 0) (wNil))) (.nm 1)) (wSeq (wFor (wRng1 (wC (.int 2))) (.nm 2) (wSeq (wPar 3 4 (wCons (wBin oAdd (wC (.int 1)) (wCall g__law_draw (wCons (wVar 1) (wCons (wC (.int 8)) (wNil))))) (wCons (wBin oIdx (wTup (wCons (wC (.int 1048583)) (wCons (wC (.int 2147483647)) (wCons (wC (.int 2147483629)) (wNil))))) (wCall g__law_draw (wCons (wVar 1) (wCons (wC (.int 3)) (wNil))))) (wNil)))) (wSeq (wPar 5 6 (wCons (wLst (wNil)) (wCons (wC (.int 12)) (wNil)))) (wSeq (wFor (wVal (wCall g__law_domains (wCons (wVar 3) (wNil)))) (.tup ((.nm 7) :: (.nm 8) :: (.nm 9) :: (.nm 10) :: (.nm 11) :: (.nm 12) :: (.nm 13) :: [])) (wSeq (wDrop (wM gAppend (wVar 5) (wCons (wTup (wCons (wTup (wCons (wC (.str "alpha")) (wCons (wVar 7) (wNil)))) (wCons (wBin oSub (wBin oAdd (wVar 9) (wVar 10)) (wC (.int 1))) (wCons (wVar 4) (wNil))))) (wNil)))) (wSeq (wDrop (wM gAppend (wVar 5) (wCons (wTup (wCons (wTup (wCons (wC (.str "zero")) (wCons (wVar 7) (wNil)))) (wCons (wBin oSub (wCall g__law_power (wCons (wVar 4) (wCons (wVar 8) (wNil)))) (wCall g__law_power (wCons (wBin oSub (wVar 4) (wC (.int 1))) (wCons (wVar 8) (wNil))))) (wCons (wCall g__law_power (wCons (wVar 4) (wCons (wVar 8) (wNil)))) (wNil))))) (wNil)))) (wSeq (wDrop (wM gAppend (wVar 5) (wCons (wTup (wCons (wTup (wCons (wC (.str "rounds")) (wCons (wVar 7) (wNil)))) (wCons (wBin oSub (wCall g__law_power (wCons (wVar 4) (wCons (wVar 8) (wNil)))) (wCall g__law_power (wCons (wBin oAdd (wBin oSub (wVar 4) (wVar 11)) (wC (.int 1))) (wCons (wVar 8) (wNil))))) (wCons (wCall g__law_power (wCons (wVar 4) (wCons (wVar 8) (wNil)))) (wNil))))) (wNil)))) (wSeq (wIfS (wBt (wBin oNe (wCall g_domain_reads (wCons (wVar 7) (wCons (wVar 3) (wNil)))) (wBin oAdd (wBin oAdd (wBin oMul (wVar 8) (wVar 11)) (wVar 12)) (wVar 13)))) (wRet (wC (.bl false))) (wNext)) (wAsg (wBin oAdd (wBin oAdd (wBin oAdd (wVar 6) (wBin oMul (wVar 8) (wVar 11))) (wVar 12)) (wVar 13)) (.nm 6))))))) (wSeq (wFor (wVal (wTup (wCons (wC (.int 5)) (wCons (wC (.int 6)) (wNil))))) (.nm 14) (wFor (wVal (wCall g__law_domains (wCons (wVar 3) (wNil)))) (.nm 15) (wSeq (wPar 16 17 (wCons (wTup (wCons (wBin oIdx (wVar 15) (wC (.int 0))) (wCons (wBin oIdx (wTup (wCons (wC (.str "first")) (wCons (wC (.str "second")) (wNil)))) (wBin oSub (wVar 14) (wC (.int 5)))) (wNil)))) (wCons (wBin oIdx (wVar 15) (wVar 14)) (wNil)))) (wSeq (wAsg (wCall g__law_size (wCons (wBin oIdx (wVar 15) (wC (.int 1))) (wNil))) (.tup ((.nm 18) :: (.nm 11) :: []))) (wSeq (wDrop (wM gAppend (wVar 5) (wCons (wTup (wCons (wBin oAdd (wTup (wCons (wC (.str "eta")) (wNil))) (wVar 16)) (wCons (wBin oSub (wVar 17) (wC (.int 1))) (wCons (wVar 4) (wNil))))) (wNil)))) (wSeq (wDrop (wM gAppend (wVar 5) (wCons (wTup (wCons (wBin oAdd (wTup (wCons (wC (.str "far")) (wNil))) (wVar 16)) (wCons (wBin oAdd (wVar 11) (wC (.int 1))) (wCons (wVar 4) (wNil))))) (wNil)))) (wSeq (wDrop (wM gAppend (wVar 5) (wCons (wTup (wCons (wBin oAdd (wTup (wCons (wC (.str "spots")) (wNil))) (wVar 16)) (wCons (wCall g__law_power (wCons (wCall g__law_spots (wCons (wVar 11) (wCons (wVar 4) (wNil)))) (wCons (wC (.int 20)) (wNil)))) (wCons (wCall g__law_power (wCons (wVar 4) (wCons (wC (.int 20)) (wNil)))) (wNil))))) (wNil)))) (wSeq (wAsg (wBin oSub (wBits (wBin oMul (wC (.int 4)) (wVar 11))) (wC (.int 1))) (.nm 19)) (wSeq (wIfS (wBt (wBin oNe (wCall g_book_reads (wCons (wVar 16) (wCons (wVar 3) (wNil)))) (wBin oAdd (wBin oMul (wC (.int 2)) (wVar 11)) (wBin oMul (wC (.int 20)) (wBin oAdd (wBin oMul (wVar 18) (wVar 17)) (wVar 19)))))) (wRet (wC (.bl false))) (wNext)) (wAsg (wBin oAdd (wBin oAdd (wVar 6) (wBin oMul (wC (.int 2)) (wVar 11))) (wBin oMul (wC (.int 20)) (wBin oAdd (wBin oMul (wVar 18) (wVar 17)) (wVar 19)))) (.nm 6))))))))))) (wSeq (wIfS (wOrT (wNotT (wTru (wCall g__law_same (wCons (wCall g_talk_parts (wCons (wVar 3) (wCons (wVar 4) (wNil)))) (wCons (wVar 5) (wNil)))))) (wOrT (wBt (wBin oNe (wCall g_talk_reads (wCons (wVar 3) (wNil))) (wVar 6))) (wBt (wBin oNe (wCall g_run_numbers (wCons (wVar 3) (wNil))) (wBin oAdd (wBin oMul (wC (.int 30)) (wBin oShl (wC (.int 1)) (wVar 3))) (wC (.int 192))))))) (wRet (wC (.bl false))) (wNext)) (wSeq (wAsg (wCall g_belief_parts (wCons (wVar 3) (wCons (wVar 4) (wNil)))) (.nm 20)) (wSeq (wIfS (wOrT (wNotT (wTru (wCall g__law_same (wCons (wSl (wVar 20) (wPart (wC (.int 3))) (wNoPart)) (wCons (wLc (wVal (wVar 5)) (.tup ((.nm 16) :: (.nm 22) :: (.nm 23) :: [])) (wYes) (wTup (wCons (wVar 16) (wCons (wCall g_lowest_share (wCons (wVar 22) (wCons (wVar 23) (wNil)))) (wNil)))) [16, 22, 23]) (wNil)))))) (wBt (wBin oNe (wLc (wVal (wSl (wVar 20) (wNoPart) (wPart (wC (.int 3))))) (.tup ((.nm 16) :: (.nm 21) :: [])) (wYes) (wVar 16) [16, 21]) (wLst (wCons (wTup (wCons (wC (.str "lot")) (wCons (wC (.str "cells")) (wNil)))) (wCons (wTup (wCons (wC (.str "lot")) (wCons (wC (.str "code")) (wNil)))) (wCons (wTup (wCons (wC (.str "lot")) (wCons (wC (.str "times")) (wNil)))) (wNil)))))))) (wRet (wC (.bl false))) (wNext)) (wIfS (wNotT (wTru (wCall g__law_same (wCons (wCall g_belief_share (wCons (wVar 3) (wCons (wVar 4) (wNil)))) (wCons (wCall g_shares_added (wCons (wLc (wVal (wVar 20)) (.tup ((.nm 16) :: (.nm 21) :: [])) (wYes) (wVar 21) [16, 21]) (wNil))) (wNil)))))) (wRet (wC (.bl false))) (wNext)))))))))) (wRet (wC (.bl true))))
theorem walk {P : Program} {w : World} {K : PySem.W.Frag} {mg : Str → Option Value} {base : Heap} {k : Nat} (M : Mg K w mg) {g__law_state : SpD} {g__law_draw : SpD} {g__law_domains : SpD} {g__law_power : SpD} {g_domain_reads : SpD} {g__law_size : SpD} {g__law_spots : SpD} {g_book_reads : SpD} {g__law_same : SpD} {g_talk_parts : SpD} {g_talk_reads : SpD} {g_run_numbers : SpD} {g_belief_parts : SpD} {g_lowest_share : SpD} {g_shares_added : SpD} {g_belief_share : SpD} (c__law_state : Own P w K mg base k "_law_state" g__law_state) (c__law_draw : Own P w K mg base k "_law_draw" g__law_draw) (c__law_domains : Own P w K mg base k "_law_domains" g__law_domains) (c__law_power : Own P w K mg base k "_law_power" g__law_power) (c_domain_reads : Own P w K mg base k "domain_reads" g_domain_reads) (c__law_size : Own P w K mg base k "_law_size" g__law_size) (c__law_spots : Own P w K mg base k "_law_spots" g__law_spots) (c_book_reads : Own P w K mg base k "book_reads" g_book_reads) (c__law_same : Own P w K mg base k "_law_same" g__law_same) (c_talk_parts : Own P w K mg base k "talk_parts" g_talk_parts) (c_talk_reads : Own P w K mg base k "talk_reads" g_talk_reads) (c_run_numbers : Own P w K mg base k "run_numbers" g_run_numbers) (c_belief_parts : Own P w K mg base k "belief_parts" g_belief_parts) (c_lowest_share : Own P w K mg base k "lowest_share" g_lowest_share) (c_shares_added : Own P w K mg base k "shares_added" g_shares_added) (c_belief_share : Own P w K mg base k "belief_share" g_belief_share) : Walk P w K mg base k N "law" (defScope st) (defBody st) (ws g__law_state g__law_draw g__law_domains g__law_power g_domain_reads g__law_size g__law_spots g_book_reads g__law_same g_talk_parts g_talk_reads g_run_numbers g_belief_parts g_lowest_share g_shares_added g_belief_share) := fun f cd A outer s H E hr =>
  s_cons (s_set (i := 1) nd_N rfl (Or.inl rfl) (d_call c__law_state hr (Nat.le_refl _) rfl (d_cons (d_var (i := 0) rfl (Or.inl rfl) nd_script nc_script) (d_nil) rfl) rfl nd__law_state) rfl (Or.inl rfl)) (s_cons (s_for PassesOwn.never rfl (i_range1 rfl M.n_range (d_int) rfl) (g_name nd_N rfl (Or.inl rfl) (Or.inl rfl)) (s_cons (s_par (i := 3) (j := 4) rfl nd_N rfl rfl (by decide) rfl rfl (d_cons (d_add (d_int) (d_call c__law_draw hr (Nat.le_refl _) rfl (d_cons (d_var (i := 1) rfl (Or.inl rfl) nd_state nc_state) (d_cons (d_int) (d_nil) rfl) rfl) rfl nd__law_draw)) (d_cons (d_idx (u1 hr) (d_tup (d_cons (d_int) (d_cons (d_int) (d_cons (d_int) (d_nil) rfl) rfl) rfl)) (d_call c__law_draw hr (Nat.le_refl _) rfl (d_cons (d_var (i := 1) rfl (Or.inl rfl) nd_state nc_state) (d_cons (d_int) (d_nil) rfl) rfl) rfl nd__law_draw) (fun _ _ => rfl)) (d_nil) rfl) rfl) rfl rfl) (s_cons (s_par (i := 5) (j := 6) rfl nd_N rfl rfl (by decide) rfl rfl (d_cons (d_lst (d_nil)) (d_cons (d_int) (d_nil) rfl) rfl) rfl rfl) (s_cons (s_for PassesOwn.never rfl (i_val (d_call c__law_domains hr (Nat.le_refl _) rfl (d_cons (d_var (i := 3) rfl (Or.inl rfl) nd_n nc_n) (d_nil) rfl) rfl nd__law_domains)) (g_tup rfl (gs_cons (g_name nd_N rfl (Or.inl rfl) (Or.inl rfl)) (gs_cons (g_name nd_N rfl (Or.inl rfl) (Or.inl rfl)) (gs_cons (g_name nd_N rfl (Or.inl rfl) (Or.inl rfl)) (gs_cons (g_name nd_N rfl (Or.inl rfl) (Or.inl rfl)) (gs_cons (g_name nd_N rfl (Or.inl rfl) (Or.inl rfl)) (gs_cons (g_name nd_N rfl (Or.inl rfl) (Or.inl rfl)) (gs_cons (g_name nd_N rfl (Or.inl rfl) (Or.inl rfl)) (gs_nil) rfl) rfl) rfl) rfl) rfl) rfl) rfl)) (s_cons (s_expr (d_append (d_var (i := 5) rfl (Or.inl rfl) nd_due nc_due) (d_cons (d_tup (d_cons (d_tup (d_cons (d_str) (d_cons (d_var (i := 7) rfl (Or.inl rfl) nd_domain nc_domain) (d_nil) rfl) rfl)) (d_cons (d_sub (d_add (d_var (i := 9) rfl (Or.inl rfl) nd_rules nc_rules) (d_var (i := 10) rfl (Or.inl rfl) nd_sums nc_sums)) (d_int)) (d_cons (d_var (i := 4) rfl (Or.inl rfl) nd_p nc_p) (d_nil) rfl) rfl) rfl)) (d_nil) rfl) rfl rfl rfl) rfl) (s_cons (s_expr (d_append (d_var (i := 5) rfl (Or.inl rfl) nd_due nc_due) (d_cons (d_tup (d_cons (d_tup (d_cons (d_str) (d_cons (d_var (i := 7) rfl (Or.inl rfl) nd_domain nc_domain) (d_nil) rfl) rfl)) (d_cons (d_sub (d_call c__law_power hr (Nat.le_refl _) rfl (d_cons (d_var (i := 4) rfl (Or.inl rfl) nd_p nc_p) (d_cons (d_var (i := 8) rfl (Or.inl rfl) nd_bits nc_bits) (d_nil) rfl) rfl) rfl nd__law_power) (d_call c__law_power hr (Nat.le_refl _) rfl (d_cons (d_sub (d_var (i := 4) rfl (Or.inl rfl) nd_p nc_p) (d_int)) (d_cons (d_var (i := 8) rfl (Or.inl rfl) nd_bits nc_bits) (d_nil) rfl) rfl) rfl nd__law_power)) (d_cons (d_call c__law_power hr (Nat.le_refl _) rfl (d_cons (d_var (i := 4) rfl (Or.inl rfl) nd_p nc_p) (d_cons (d_var (i := 8) rfl (Or.inl rfl) nd_bits nc_bits) (d_nil) rfl) rfl) rfl nd__law_power) (d_nil) rfl) rfl) rfl)) (d_nil) rfl) rfl rfl rfl) rfl) (s_cons (s_expr (d_append (d_var (i := 5) rfl (Or.inl rfl) nd_due nc_due) (d_cons (d_tup (d_cons (d_tup (d_cons (d_str) (d_cons (d_var (i := 7) rfl (Or.inl rfl) nd_domain nc_domain) (d_nil) rfl) rfl)) (d_cons (d_sub (d_call c__law_power hr (Nat.le_refl _) rfl (d_cons (d_var (i := 4) rfl (Or.inl rfl) nd_p nc_p) (d_cons (d_var (i := 8) rfl (Or.inl rfl) nd_bits nc_bits) (d_nil) rfl) rfl) rfl nd__law_power) (d_call c__law_power hr (Nat.le_refl _) rfl (d_cons (d_add (d_sub (d_var (i := 4) rfl (Or.inl rfl) nd_p nc_p) (d_var (i := 11) rfl (Or.inl rfl) nd_size nc_size)) (d_int)) (d_cons (d_var (i := 8) rfl (Or.inl rfl) nd_bits nc_bits) (d_nil) rfl) rfl) rfl nd__law_power)) (d_cons (d_call c__law_power hr (Nat.le_refl _) rfl (d_cons (d_var (i := 4) rfl (Or.inl rfl) nd_p nc_p) (d_cons (d_var (i := 8) rfl (Or.inl rfl) nd_bits nc_bits) (d_nil) rfl) rfl) rfl nd__law_power) (d_nil) rfl) rfl) rfl)) (d_nil) rfl) rfl rfl rfl) rfl) (s_cons (s_if (d_cmpT (op_neA hr.units) l_ne (d_call c_domain_reads hr (Nat.le_refl _) rfl (d_cons (d_var (i := 7) rfl (Or.inl rfl) nd_domain nc_domain) (d_cons (d_var (i := 3) rfl (Or.inl rfl) nd_n nc_n) (d_nil) rfl) rfl) rfl nd_domain_reads) (d_add (d_add (d_mul (d_var (i := 8) rfl (Or.inl rfl) nd_bits nc_bits) (d_var (i := 11) rfl (Or.inl rfl) nd_size nc_size)) (d_var (i := 12) rfl (Or.inl rfl) nd_first nc_first)) (d_var (i := 13) rfl (Or.inl rfl) nd_second nc_second)) (nomark _)) (s_one (s_ret (d_bl))) (s_nil)) (s_one (s_set (i := 6) nd_N rfl (Or.inl rfl) (d_add (d_add (d_add (d_var (i := 6) rfl (Or.inl rfl) nd_reads nc_reads) (d_mul (d_var (i := 8) rfl (Or.inl rfl) nd_bits nc_bits) (d_var (i := 11) rfl (Or.inl rfl) nd_size nc_size))) (d_var (i := 12) rfl (Or.inl rfl) nd_first nc_first)) (d_var (i := 13) rfl (Or.inl rfl) nd_second nc_second)) rfl (Or.inl rfl))))))) (fun _ => rfl)) (s_cons (s_for PassesOwn.never rfl (i_val (d_tup (d_cons (d_int) (d_cons (d_int) (d_nil) rfl) rfl))) (g_name nd_N rfl (Or.inl rfl) (Or.inl rfl)) (s_one (s_for PassesOwn.never rfl (i_val (d_call c__law_domains hr (Nat.le_refl _) rfl (d_cons (d_var (i := 3) rfl (Or.inl rfl) nd_n nc_n) (d_nil) rfl) rfl nd__law_domains)) (g_name nd_N rfl (Or.inl rfl) (Or.inl rfl)) (s_cons (s_par (i := 16) (j := 17) rfl nd_N rfl rfl (by decide) rfl rfl (d_cons (d_tup (d_cons (d_idx (u1 hr) (d_var (i := 15) rfl (Or.inl rfl) nd_row nc_row) (d_int) (fun _ _ => rfl)) (d_cons (d_idx (u1 hr) (d_tup (d_cons (d_str) (d_cons (d_str) (d_nil) rfl) rfl)) (d_sub (d_var (i := 14) rfl (Or.inl rfl) nd_part nc_part) (d_int)) (fun _ _ => rfl)) (d_nil) rfl) rfl)) (d_cons (d_idx (u1 hr) (d_var (i := 15) rfl (Or.inl rfl) nd_row nc_row) (d_var (i := 14) rfl (Or.inl rfl) nd_part nc_part) (fun _ _ => rfl)) (d_nil) rfl) rfl) rfl rfl) (s_cons (s_asg (d_call c__law_size hr (Nat.le_refl _) rfl (d_cons (d_idx (u1 hr) (d_var (i := 15) rfl (Or.inl rfl) nd_row nc_row) (d_int) (fun _ _ => rfl)) (d_nil) rfl) rfl nd__law_size) (g_tup rfl (gs_cons (g_name nd_N rfl (Or.inl rfl) (Or.inl rfl)) (gs_cons (g_name nd_N rfl (Or.inl rfl) (Or.inl rfl)) (gs_nil) rfl) rfl)) rfl rfl rfl) (s_cons (s_expr (d_append (d_var (i := 5) rfl (Or.inl rfl) nd_due nc_due) (d_cons (d_tup (d_cons (d_add (d_tup (d_cons (d_str) (d_nil) rfl)) (d_var (i := 16) rfl (Or.inl rfl) nd_name nc_name)) (d_cons (d_sub (d_var (i := 17) rfl (Or.inl rfl) nd_many nc_many) (d_int)) (d_cons (d_var (i := 4) rfl (Or.inl rfl) nd_p nc_p) (d_nil) rfl) rfl) rfl)) (d_nil) rfl) rfl rfl rfl) rfl) (s_cons (s_expr (d_append (d_var (i := 5) rfl (Or.inl rfl) nd_due nc_due) (d_cons (d_tup (d_cons (d_add (d_tup (d_cons (d_str) (d_nil) rfl)) (d_var (i := 16) rfl (Or.inl rfl) nd_name nc_name)) (d_cons (d_add (d_var (i := 11) rfl (Or.inl rfl) nd_size nc_size) (d_int)) (d_cons (d_var (i := 4) rfl (Or.inl rfl) nd_p nc_p) (d_nil) rfl) rfl) rfl)) (d_nil) rfl) rfl rfl rfl) rfl) (s_cons (s_expr (d_append (d_var (i := 5) rfl (Or.inl rfl) nd_due nc_due) (d_cons (d_tup (d_cons (d_add (d_tup (d_cons (d_str) (d_nil) rfl)) (d_var (i := 16) rfl (Or.inl rfl) nd_name nc_name)) (d_cons (d_call c__law_power hr (Nat.le_refl _) rfl (d_cons (d_call c__law_spots hr (Nat.le_refl _) rfl (d_cons (d_var (i := 11) rfl (Or.inl rfl) nd_size nc_size) (d_cons (d_var (i := 4) rfl (Or.inl rfl) nd_p nc_p) (d_nil) rfl) rfl) rfl nd__law_spots) (d_cons (d_int) (d_nil) rfl) rfl) rfl nd__law_power) (d_cons (d_call c__law_power hr (Nat.le_refl _) rfl (d_cons (d_var (i := 4) rfl (Or.inl rfl) nd_p nc_p) (d_cons (d_int) (d_nil) rfl) rfl) rfl nd__law_power) (d_nil) rfl) rfl) rfl)) (d_nil) rfl) rfl rfl rfl) rfl) (s_cons (s_set (i := 19) nd_N rfl (Or.inl rfl) (d_sub (d_bits (d_mul (d_int) (d_var (i := 11) rfl (Or.inl rfl) nd_size nc_size)) rfl rfl) (d_int)) rfl (Or.inl rfl)) (s_cons (s_if (d_cmpT (op_neA hr.units) l_ne (d_call c_book_reads hr (Nat.le_refl _) rfl (d_cons (d_var (i := 16) rfl (Or.inl rfl) nd_name nc_name) (d_cons (d_var (i := 3) rfl (Or.inl rfl) nd_n nc_n) (d_nil) rfl) rfl) rfl nd_book_reads) (d_add (d_mul (d_int) (d_var (i := 11) rfl (Or.inl rfl) nd_size nc_size)) (d_mul (d_int) (d_add (d_mul (d_var (i := 18) rfl (Or.inl rfl) nd_high nc_high) (d_var (i := 17) rfl (Or.inl rfl) nd_many nc_many)) (d_var (i := 19) rfl (Or.inl rfl) nd_path nc_path)))) (nomark _)) (s_one (s_ret (d_bl))) (s_nil)) (s_one (s_set (i := 6) nd_N rfl (Or.inl rfl) (d_add (d_add (d_var (i := 6) rfl (Or.inl rfl) nd_reads nc_reads) (d_mul (d_int) (d_var (i := 11) rfl (Or.inl rfl) nd_size nc_size))) (d_mul (d_int) (d_add (d_mul (d_var (i := 18) rfl (Or.inl rfl) nd_high nc_high) (d_var (i := 17) rfl (Or.inl rfl) nd_many nc_many)) (d_var (i := 19) rfl (Or.inl rfl) nd_path nc_path)))) rfl (Or.inl rfl)))))))))) (fun _ => rfl))) (fun _ => rfl)) (s_cons (s_if (PW.pt (d_orT (d_notT (d_tru (d_call c__law_same hr (Nat.le_refl _) rfl (d_cons (d_call c_talk_parts hr (Nat.le_refl _) rfl (d_cons (d_var (i := 3) rfl (Or.inl rfl) nd_n nc_n) (d_cons (d_var (i := 4) rfl (Or.inl rfl) nd_p nc_p) (d_nil) rfl) rfl) rfl nd_talk_parts) (d_cons (d_var (i := 5) rfl (Or.inl rfl) nd_due nc_due) (d_nil) rfl) rfl) rfl nd__law_same) (fun _ => rfl))) (d_orT (d_cmpT (op_neA hr.units) l_ne (d_call c_talk_reads hr (Nat.le_refl _) rfl (d_cons (d_var (i := 3) rfl (Or.inl rfl) nd_n nc_n) (d_nil) rfl) rfl nd_talk_reads) (d_var (i := 6) rfl (Or.inl rfl) nd_reads nc_reads) (nomark _)) (pw_or1 (d_cmpT (op_neA hr.units) l_ne (d_call c_run_numbers hr (Nat.le_refl _) rfl (d_cons (d_var (i := 3) rfl (Or.inl rfl) nd_n nc_n) (d_nil) rfl) rfl nd_run_numbers) (d_add (d_mul (d_int) (d_shl (d_int) (d_var (i := 3) rfl (Or.inl rfl) nd_n nc_n))) (d_int)) (nomark _)))))) (s_one (s_ret (d_bl))) (s_nil)) (s_cons (s_set (i := 20) nd_N rfl (Or.inl rfl) (d_call c_belief_parts hr (Nat.le_refl _) rfl (d_cons (d_var (i := 3) rfl (Or.inl rfl) nd_n nc_n) (d_cons (d_var (i := 4) rfl (Or.inl rfl) nd_p nc_p) (d_nil) rfl) rfl) rfl nd_belief_parts) rfl (Or.inl rfl)) (s_cons (s_if (PW.pt (d_orT (d_notT (d_tru (d_call c__law_same hr (Nat.le_refl _) rfl (d_cons (d_sl (d_var (i := 20) rfl (Or.inl rfl) nd_told nc_told) (d_part (d_int)) (d_noPart)) (d_cons (d_lc (own := [("name", 16), ("count", 22), ("total", 23)]) rfl nd_N (i_val (d_var (i := 5) rfl (Or.inl rfl) nd_due nc_due)) rfl rfl (fun _ _ _ _ _ => g_tup rfl (gs_cons (g_name nd_N rfl (Or.inl rfl) (Or.inr rfl)) (gs_cons (g_name nd_N rfl (Or.inl rfl) (Or.inr rfl)) (gs_cons (g_name nd_N rfl (Or.inl rfl) (Or.inr rfl)) (gs_nil) rfl) rfl) rfl)) (fun _ _ _ _ _ => t_nil) (fun _ _ _ _ _ => d_tup (d_cons (d_var (i := 16) rfl (Or.inl rfl) nd_name nc_name) (d_cons (d_call c_lowest_share hr (Nat.le_refl _) rfl (d_cons (d_var (i := 22) rfl (Or.inl rfl) nd_count nc_count) (d_cons (d_var (i := 23) rfl (Or.inl rfl) nd_total nc_total) (d_nil) rfl) rfl) rfl nd_lowest_share) (d_nil) rfl) rfl)) (fun _ => rfl)) (d_nil) rfl) rfl) rfl nd__law_same) (fun _ => rfl))) (pw_or1 (d_cmpT (op_neA hr.units) l_ne (d_lc (own := [("name", 16), ("share", 21)]) rfl nd_N (i_val (d_sl (d_var (i := 20) rfl (Or.inl rfl) nd_told nc_told) (d_noPart) (d_part (d_int)))) rfl rfl (fun _ _ _ _ _ => g_tup rfl (gs_cons (g_name nd_N rfl (Or.inl rfl) (Or.inr rfl)) (gs_cons (g_name nd_N rfl (Or.inl rfl) (Or.inr rfl)) (gs_nil) rfl) rfl)) (fun _ _ _ _ _ => t_nil) (fun _ _ _ _ _ => d_var (i := 16) rfl (Or.inl rfl) nd_name nc_name) (fun _ => rfl)) (d_lst (d_cons (d_tup (d_cons (d_str) (d_cons (d_str) (d_nil) rfl) rfl)) (d_cons (d_tup (d_cons (d_str) (d_cons (d_str) (d_nil) rfl) rfl)) (d_cons (d_tup (d_cons (d_str) (d_cons (d_str) (d_nil) rfl) rfl)) (d_nil) rfl) rfl) rfl)) (nomark _))))) (s_one (s_ret (d_bl))) (s_nil)) (s_one (s_if (d_notT (d_tru (d_call c__law_same hr (Nat.le_refl _) rfl (d_cons (d_call c_belief_share hr (Nat.le_refl _) rfl (d_cons (d_var (i := 3) rfl (Or.inl rfl) nd_n nc_n) (d_cons (d_var (i := 4) rfl (Or.inl rfl) nd_p nc_p) (d_nil) rfl) rfl) rfl nd_belief_share) (d_cons (d_call c_shares_added hr (Nat.le_refl _) rfl (d_cons (d_lc (own := [("name", 16), ("share", 21)]) rfl nd_N (i_val (d_var (i := 20) rfl (Or.inl rfl) nd_told nc_told)) rfl rfl (fun _ _ _ _ _ => g_tup rfl (gs_cons (g_name nd_N rfl (Or.inl rfl) (Or.inr rfl)) (gs_cons (g_name nd_N rfl (Or.inl rfl) (Or.inr rfl)) (gs_nil) rfl) rfl)) (fun _ _ _ _ _ => t_nil) (fun _ _ _ _ _ => d_var (i := 21) rfl (Or.inl rfl) nd_share nc_share) (fun _ => rfl)) (d_nil) rfl) rfl nd_shares_added) (d_nil) rfl) rfl) rfl nd__law_same) (fun _ => rfl))) (s_one (s_ret (d_bl))) (s_nil)))))))))) (fun _ => rfl)) (s_one (s_ret (d_bl))))
end F_law
end K83

namespace K83
open PySem PySem.Spec PyProof.Rows L2 PD

theorem ret_here {Q : KD} {d : D} {S : Sto} (q : Q d S) : (ends Q).rt d S := ⟨S, Ext.refl S, q⟩
theorem ret_ext {Q : KD} {d : D} {S S1 : Sto} (e : Ext S S1) (q : Q d S) : (ends Q).rt d S1 := ⟨S, e, q⟩
abbrev VC (sp : SpD) (ws : WS) (N : List Str) (n : Nat) : Prop := ∀ ds S Q, sp ds S Q → ds.length = n ∧ ws (ends Q) (startD N ds) S

def okEx : Nat → D → Bool
  | 0, _ => false
  | j + 1, .tup (.str t :: rest) => if t = "col" ∨ t = "num" then true else match rest with | [a, b] => okEx j a && okEx j b | _ => false
  | _, _ => false
def degD : Nat → D → Int
  | 0, _ => 0
  | j + 1, .tup (.str t :: rest) => if t = "col" then 1 else if t = "num" then 0 else match rest with | [a, b] => if t = "mul" then degD j a + degD j b else (if degD j b > degD j a then degD j b else degD j a) | _ => 0
  | _, _ => 0
def spDeg (j : Nat) : SpD := fun ds S Q => ∃ d, ds = [d] ∧ okEx j d = true ∧ Q (.int (degD j d)) S
theorem vc_deg (j : Nat) : VC (spDeg (j + 1)) (F_expression_degree.ws (spDeg j)) F_expression_degree.N 1 := by
  rintro ds S Q ⟨d, rfl, ho, q⟩
  refine ⟨rfl, ?_⟩
  unfold okEx at ho
  split at ho
  · rename_i h0; cases h0
  · rename_i j' t rest h0
    cases h0
    unfold degD at q
    unfold F_expression_degree.ws; simp (decide := true) only [wSeq, wNext, wRet, wRetN, wAsg, wPar, wPar3, wIfS, wIf, wBt, tru, wAndT, wOrT, wNotT, wAndV, wOrV, wNotV, wBin, wUn, uNeg, wCall, wCB, wM, gAppend, gPopAt, gPop, wVar, wC, wNil, wCons, wTup, wLst, wDrop, wPut, wBits, wDisp, wPairs, wYes, wCont, wBreak, wFor, wLc, wLc2, wVal, valK, wRng1, wRng2, wKeys, wIsi, tyD, wSl, wNoPart, wPart, startD, asg, asgs, asgK, oAdd, oSub, oMul, oDiv, oMod, oShl, oShr, oInt, oInt0, oRel, oLt, oLe, oGt, oGe, oIn, oIdx, bLen, bInt, bAbs, bMax, bMin, bSum, bAll, bAny, bSorted, bTuple, intsOf, blsOf, List.map_cons, List.map_nil, List.cons_append, List.nil_append, List.length_cons, List.length_nil, List.getElem?_cons_zero, List.getElem?_cons_succ, List.set_cons_zero, List.set_cons_succ, List.replicate_succ, List.replicate_zero, Nat.reduceSub, Nat.reduceAdd, Nat.zero_add, wipeD, put_same, atI_0, atI_1, atI_2, atI_3, atI_4, oEq_str, oEq_int, oEq_bl, flat_int, flat_str, inD_nil, inD_cons, eqF_str, eqF_int, List.all_cons, List.all_nil, Bool.and_true, Bool.true_and, Bool.or_false, decide_eq_true_eq, PD.wTru, true_and, and_true]
    by_cases h1 : t = "col"
    · subst h1
      simp only [beq_self_eq_true, Bool.true_or, if_true] at q ⊢
      exact ret_here q
    · by_cases h2 : t = "num"
      · subst h2
        simp (decide := true) only [beq_self_eq_true, Bool.or_true, if_true, if_false] at q ⊢
        exact ret_here q
      · have e1 : (("col" : Str) == t) = false := by simpa using fun e => h1 e.symm
        have e2 : (("num" : Str) == t) = false := by simpa using fun e => h2 e.symm
        simp only [h1, h2, if_false, or_false] at q ho
        simp only [e1, e2, Bool.or_false, Bool.false_eq_true, if_false]
        split at ho
        · rename_i a b
          rw [Bool.and_eq_true] at ho
          simp only [wSeq, wNext, wRet, wRetN, wAsg, wPar, wPar3, wIfS, wIf, wBt, tru, wAndT, wOrT, wNotT, wAndV, wOrV, wNotV, wBin, wUn, uNeg, wCall, wCB, wM, gAppend, gPopAt, gPop, wVar, wC, wNil, wCons, wTup, wLst, wDrop, wPut, wBits, wDisp, wPairs, wYes, wCont, wBreak, wFor, wLc, wLc2, wVal, valK, wRng1, wRng2, wKeys, wIsi, tyD, wSl, wNoPart, wPart, startD, asg, asgs, asgK, oAdd, oSub, oMul, oDiv, oMod, oShl, oShr, oInt, oInt0, oRel, oLt, oLe, oGt, oGe, oIn, oIdx, bLen, bInt, bAbs, bMax, bMin, bSum, bAll, bAny, bSorted, bTuple, intsOf, blsOf, List.map_cons, List.map_nil, List.cons_append, List.nil_append, List.length_cons, List.length_nil, List.getElem?_cons_zero, List.getElem?_cons_succ, List.set_cons_zero, List.set_cons_succ, List.replicate_succ, List.replicate_zero, Nat.reduceSub, Nat.reduceAdd, Nat.zero_add, wipeD, put_same, atI_0, atI_1, atI_2, atI_3, atI_4, oEq_str, oEq_int, oEq_bl, flat_int, flat_str, inD_nil, inD_cons, eqF_str, eqF_int, List.all_cons, List.all_nil, Bool.and_true, Bool.true_and, Bool.or_false, decide_eq_true_eq, PD.wTru, true_and, and_true]
          refine ⟨a, rfl, ho.1, b, rfl, ho.2, ?_⟩
          by_cases h3 : t = "mul"
          · simp only [h3, if_true] at q ⊢
            exact ret_here q
          · simp only [h3, if_false] at q ⊢
            exact ret_here q
        · cases ho
  · cases ho

/-! ### parts of rules -/
def colE (k : Int) : D := .tup [.str "col", .int k]
def numE (k : Int) : D := .tup [.str "num", .int k]
def gapE (a b : D) : D := .tup [.str "sub", a, b]
def mulE (a b : D) : D := .tup [.str "mul", a, b]
def addE (a b : D) : D := .tup [.str "add", a, b]
def sumE (xs : List D) : D := xs.foldl addE (numE 0)
theorem sumE_snoc (xs : List D) (d : D) : sumE (xs ++ [d]) = addE (sumE xs) d := by simp [sumE, List.foldl_append]
def sp_column_part : SpD := fun ds S Q => match ds with | [.int k] => Q (colE k) S | _ => False
def sp_number_part : SpD := fun ds S Q => match ds with | [.int k] => Q (numE k) S | _ => False
def sp_gap_part : SpD := fun ds S Q => match ds with | [a, b] => Q (gapE a b) S | _ => False
def sp_product_part : SpD := fun ds S Q => match ds with | [a, b] => Q (mulE a b) S | _ => False
def sp_expression_sum : SpD := fun ds S Q => ∃ a xs, ds = [.ref a] ∧ S a = some (.lst xs) ∧ Q (sumE xs) S
theorem vc_column_part : VC sp_column_part (F_column_part.ws) F_column_part.N 1 := by
  intro ds S Q q
  unfold sp_column_part at q
  split at q
  case h_2 => exact q.elim
  refine ⟨rfl, ?_⟩
  unfold F_column_part.ws; simp (decide := true) only [wSeq, wNext, wRet, wRetN, wAsg, wPar, wPar3, wIfS, wIf, wBt, tru, wAndT, wOrT, wNotT, wAndV, wOrV, wNotV, wBin, wUn, uNeg, wCall, wCB, wM, gAppend, gPopAt, gPop, wVar, wC, wNil, wCons, wTup, wLst, wDrop, wPut, wBits, wDisp, wPairs, wYes, wCont, wBreak, wFor, wLc, wLc2, wVal, valK, wRng1, wRng2, wKeys, wIsi, tyD, wSl, wNoPart, wPart, startD, asg, asgs, asgK, oAdd, oSub, oMul, oDiv, oMod, oShl, oShr, oInt, oInt0, oRel, oLt, oLe, oGt, oGe, oIn, oIdx, bLen, bInt, bAbs, bMax, bMin, bSum, bAll, bAny, bSorted, bTuple, intsOf, blsOf, List.map_cons, List.map_nil, List.cons_append, List.nil_append, List.length_cons, List.length_nil, List.getElem?_cons_zero, List.getElem?_cons_succ, List.set_cons_zero, List.set_cons_succ, List.replicate_succ, List.replicate_zero, Nat.reduceSub, Nat.reduceAdd, Nat.zero_add, wipeD, put_same, atI_0, atI_1, atI_2, atI_3, atI_4, oEq_str, oEq_int, oEq_bl, flat_int, flat_str, inD_nil, inD_cons, eqF_str, eqF_int, List.all_cons, List.all_nil, Bool.and_true, Bool.true_and, Bool.or_false, decide_eq_true_eq, PD.wTru, sp_column_part, sp_number_part, sp_gap_part, sp_product_part, true_and, and_true]
  exact ret_here q
theorem vc_number_part : VC sp_number_part (F_number_part.ws) F_number_part.N 1 := by
  intro ds S Q q
  unfold sp_number_part at q
  split at q
  case h_2 => exact q.elim
  refine ⟨rfl, ?_⟩
  unfold F_number_part.ws; simp (decide := true) only [wSeq, wNext, wRet, wRetN, wAsg, wPar, wPar3, wIfS, wIf, wBt, tru, wAndT, wOrT, wNotT, wAndV, wOrV, wNotV, wBin, wUn, uNeg, wCall, wCB, wM, gAppend, gPopAt, gPop, wVar, wC, wNil, wCons, wTup, wLst, wDrop, wPut, wBits, wDisp, wPairs, wYes, wCont, wBreak, wFor, wLc, wLc2, wVal, valK, wRng1, wRng2, wKeys, wIsi, tyD, wSl, wNoPart, wPart, startD, asg, asgs, asgK, oAdd, oSub, oMul, oDiv, oMod, oShl, oShr, oInt, oInt0, oRel, oLt, oLe, oGt, oGe, oIn, oIdx, bLen, bInt, bAbs, bMax, bMin, bSum, bAll, bAny, bSorted, bTuple, intsOf, blsOf, List.map_cons, List.map_nil, List.cons_append, List.nil_append, List.length_cons, List.length_nil, List.getElem?_cons_zero, List.getElem?_cons_succ, List.set_cons_zero, List.set_cons_succ, List.replicate_succ, List.replicate_zero, Nat.reduceSub, Nat.reduceAdd, Nat.zero_add, wipeD, put_same, atI_0, atI_1, atI_2, atI_3, atI_4, oEq_str, oEq_int, oEq_bl, flat_int, flat_str, inD_nil, inD_cons, eqF_str, eqF_int, List.all_cons, List.all_nil, Bool.and_true, Bool.true_and, Bool.or_false, decide_eq_true_eq, PD.wTru, sp_column_part, sp_number_part, sp_gap_part, sp_product_part, true_and, and_true]
  exact ret_here q
theorem three_line : (3 : Nat) ≤ sizeLine := by decide
theorem vc_gap_part : VC sp_gap_part (F_gap_part.ws) F_gap_part.N 2 := by
  intro ds S Q q
  unfold sp_gap_part at q
  split at q
  case h_2 => exact q.elim
  refine ⟨rfl, ?_⟩
  unfold F_gap_part.ws; simp (decide := true) only [wSeq, wNext, wRet, wRetN, wAsg, wPar, wPar3, wIfS, wIf, wBt, tru, wAndT, wOrT, wNotT, wAndV, wOrV, wNotV, wBin, wUn, uNeg, wCall, wCB, wM, gAppend, gPopAt, gPop, wVar, wC, wNil, wCons, wTup, wLst, wDrop, wPut, wBits, wDisp, wPairs, wYes, wCont, wBreak, wFor, wLc, wLc2, wVal, valK, wRng1, wRng2, wKeys, wIsi, tyD, wSl, wNoPart, wPart, startD, asg, asgs, asgK, oAdd, oSub, oMul, oDiv, oMod, oShl, oShr, oInt, oInt0, oRel, oLt, oLe, oGt, oGe, oIn, oIdx, bLen, bInt, bAbs, bMax, bMin, bSum, bAll, bAny, bSorted, bTuple, intsOf, blsOf, List.map_cons, List.map_nil, List.cons_append, List.nil_append, List.length_cons, List.length_nil, List.getElem?_cons_zero, List.getElem?_cons_succ, List.set_cons_zero, List.set_cons_succ, List.replicate_succ, List.replicate_zero, Nat.reduceSub, Nat.reduceAdd, Nat.zero_add, wipeD, put_same, atI_0, atI_1, atI_2, atI_3, atI_4, oEq_str, oEq_int, oEq_bl, flat_int, flat_str, inD_nil, inD_cons, eqF_str, eqF_int, List.all_cons, List.all_nil, Bool.and_true, Bool.true_and, Bool.or_false, decide_eq_true_eq, PD.wTru, sp_column_part, sp_number_part, sp_gap_part, sp_product_part, true_and, and_true]
  exact ret_here q
theorem vc_product_part : VC sp_product_part (F_product_part.ws) F_product_part.N 2 := by
  intro ds S Q q
  unfold sp_product_part at q
  split at q
  case h_2 => exact q.elim
  refine ⟨rfl, ?_⟩
  unfold F_product_part.ws; simp (decide := true) only [wSeq, wNext, wRet, wRetN, wAsg, wPar, wPar3, wIfS, wIf, wBt, tru, wAndT, wOrT, wNotT, wAndV, wOrV, wNotV, wBin, wUn, uNeg, wCall, wCB, wM, gAppend, gPopAt, gPop, wVar, wC, wNil, wCons, wTup, wLst, wDrop, wPut, wBits, wDisp, wPairs, wYes, wCont, wBreak, wFor, wLc, wLc2, wVal, valK, wRng1, wRng2, wKeys, wIsi, tyD, wSl, wNoPart, wPart, startD, asg, asgs, asgK, oAdd, oSub, oMul, oDiv, oMod, oShl, oShr, oInt, oInt0, oRel, oLt, oLe, oGt, oGe, oIn, oIdx, bLen, bInt, bAbs, bMax, bMin, bSum, bAll, bAny, bSorted, bTuple, intsOf, blsOf, List.map_cons, List.map_nil, List.cons_append, List.nil_append, List.length_cons, List.length_nil, List.getElem?_cons_zero, List.getElem?_cons_succ, List.set_cons_zero, List.set_cons_succ, List.replicate_succ, List.replicate_zero, Nat.reduceSub, Nat.reduceAdd, Nat.zero_add, wipeD, put_same, atI_0, atI_1, atI_2, atI_3, atI_4, oEq_str, oEq_int, oEq_bl, flat_int, flat_str, inD_nil, inD_cons, eqF_str, eqF_int, List.all_cons, List.all_nil, Bool.and_true, Bool.true_and, Bool.or_false, decide_eq_true_eq, PD.wTru, sp_column_part, sp_number_part, sp_gap_part, sp_product_part, true_and, and_true]
  exact ret_here q
theorem take_next {α : Type} {xs : List α} {i : Nat} {d : α} (h : xs[i]? = some d) : xs.take (i + 1) = xs.take i ++ [d] := by rw [List.take_succ, h]; rfl
theorem vc_expression_sum : VC sp_expression_sum (F_expression_sum.ws) F_expression_sum.N 1 := by
  rintro ds S Q ⟨a, xs, rfl, hS, q⟩
  refine ⟨rfl, ?_⟩
  unfold F_expression_sum.ws; simp (decide := true) only [wSeq, wNext, wRet, wRetN, wAsg, wPar, wPar3, wIfS, wIf, wBt, tru, wAndT, wOrT, wNotT, wAndV, wOrV, wNotV, wBin, wUn, uNeg, wCall, wCB, wM, gAppend, gPopAt, gPop, wVar, wC, wNil, wCons, wTup, wLst, wDrop, wPut, wBits, wDisp, wPairs, wYes, wCont, wBreak, wFor, wLc, wLc2, wVal, valK, wRng1, wRng2, wKeys, wIsi, tyD, wSl, wNoPart, wPart, startD, asg, asgs, asgK, oAdd, oSub, oMul, oDiv, oMod, oShl, oShr, oInt, oInt0, oRel, oLt, oLe, oGt, oGe, oIn, oIdx, bLen, bInt, bAbs, bMax, bMin, bSum, bAll, bAny, bSorted, bTuple, intsOf, blsOf, List.map_cons, List.map_nil, List.cons_append, List.nil_append, List.length_cons, List.length_nil, List.getElem?_cons_zero, List.getElem?_cons_succ, List.set_cons_zero, List.set_cons_succ, List.replicate_succ, List.replicate_zero, Nat.reduceSub, Nat.reduceAdd, Nat.zero_add, wipeD, put_same, atI_0, atI_1, atI_2, atI_3, atI_4, oEq_str, oEq_int, oEq_bl, flat_int, flat_str, inD_nil, inD_cons, eqF_str, eqF_int, List.all_cons, List.all_nil, Bool.and_true, Bool.true_and, Bool.or_false, decide_eq_true_eq, PD.wTru, sp_column_part, sp_number_part, sp_gap_part, sp_product_part, true_and, and_true]
  simp only [hS]
  refine loop_of (fun i ρ S' => S' = S ∧ ∃ r, ρ = [some (.ref a), some (sumE (xs.take i)), r]) ⟨rfl, _, rfl⟩ ?_ ?_
  · rintro i d ρ S' hd ⟨rfl, r, rfl⟩
    refine ⟨_, rfl, ?_⟩
    simp (decide := true) only [wSeq, wNext, wRet, wRetN, wAsg, wPar, wPar3, wIfS, wIf, wBt, tru, wAndT, wOrT, wNotT, wAndV, wOrV, wNotV, wBin, wUn, uNeg, wCall, wCB, wM, gAppend, gPopAt, gPop, wVar, wC, wNil, wCons, wTup, wLst, wDrop, wPut, wBits, wDisp, wPairs, wYes, wCont, wBreak, wFor, wLc, wLc2, wVal, valK, wRng1, wRng2, wKeys, wIsi, tyD, wSl, wNoPart, wPart, startD, asg, asgs, asgK, oAdd, oSub, oMul, oDiv, oMod, oShl, oShr, oInt, oInt0, oRel, oLt, oLe, oGt, oGe, oIn, oIdx, bLen, bInt, bAbs, bMax, bMin, bSum, bAll, bAny, bSorted, bTuple, intsOf, blsOf, List.map_cons, List.map_nil, List.cons_append, List.nil_append, List.length_cons, List.length_nil, List.getElem?_cons_zero, List.getElem?_cons_succ, List.set_cons_zero, List.set_cons_succ, List.replicate_succ, List.replicate_zero, Nat.reduceSub, Nat.reduceAdd, Nat.zero_add, wipeD, put_same, atI_0, atI_1, atI_2, atI_3, atI_4, oEq_str, oEq_int, oEq_bl, flat_int, flat_str, inD_nil, inD_cons, eqF_str, eqF_int, List.all_cons, List.all_nil, Bool.and_true, Bool.true_and, Bool.or_false, decide_eq_true_eq, PD.wTru, sp_column_part, sp_number_part, sp_gap_part, sp_product_part, true_and, and_true]
    refine ⟨hS, some d, ?_⟩
    rw [take_next hd, sumE_snoc]; rfl
  · rintro ρ S' ⟨rfl, r, rfl⟩
    simp only [wSeq, wNext, wRet, wRetN, wAsg, wPar, wPar3, wIfS, wIf, wBt, tru, wAndT, wOrT, wNotT, wAndV, wOrV, wNotV, wBin, wUn, uNeg, wCall, wCB, wM, gAppend, gPopAt, gPop, wVar, wC, wNil, wCons, wTup, wLst, wDrop, wPut, wBits, wDisp, wPairs, wYes, wCont, wBreak, wFor, wLc, wLc2, wVal, valK, wRng1, wRng2, wKeys, wIsi, tyD, wSl, wNoPart, wPart, startD, asg, asgs, asgK, oAdd, oSub, oMul, oDiv, oMod, oShl, oShr, oInt, oInt0, oRel, oLt, oLe, oGt, oGe, oIn, oIdx, bLen, bInt, bAbs, bMax, bMin, bSum, bAll, bAny, bSorted, bTuple, intsOf, blsOf, List.map_cons, List.map_nil, List.cons_append, List.nil_append, List.length_cons, List.length_nil, List.getElem?_cons_zero, List.getElem?_cons_succ, List.set_cons_zero, List.set_cons_succ, List.replicate_succ, List.replicate_zero, Nat.reduceSub, Nat.reduceAdd, Nat.zero_add, wipeD, put_same, atI_0, atI_1, atI_2, atI_3, atI_4, oEq_str, oEq_int, oEq_bl, flat_int, flat_str, inD_nil, inD_cons, eqF_str, eqF_int, List.all_cons, List.all_nil, Bool.and_true, Bool.true_and, Bool.or_false, decide_eq_true_eq, PD.wTru, sp_column_part, sp_number_part, sp_gap_part, sp_product_part, true_and, and_true]
    rw [List.take_length]
    exact ret_here q
/-! ### by powers -/
def pw (num p : Int) : Nat → Int
  | 0 => 1 % p
  | k + 1 => pw num p k * num % p
def powL (num p : Int) : Nat → List D → List D
  | _, [] => []
  | k, d :: ds => mulE (numE (pw num p k)) d :: powL num p (k + 1) ds
theorem powL_len (num p : Int) : ∀ (k : Nat) (ds : List D), (powL num p k ds).length = ds.length
  | _, [] => rfl
  | k, d :: ds => by unfold powL; simp [powL_len num p (k + 1) ds]
theorem powL_snoc (num p : Int) : ∀ (k : Nat) (ds : List D) (d : D), powL num p k (ds ++ [d]) = powL num p k ds ++ [mulE (numE (pw num p (k + ds.length))) d]
  | k, [], d => by simp [powL]
  | k, e :: ds, d => by
    show mulE _ e :: powL num p (k + 1) (ds ++ [d]) = _
    rw [powL_snoc num p (k + 1) ds d]
    have z : k + 1 + ds.length = k + (e :: ds).length := by simp; omega
    rw [z]; rfl
def sp_expression_by_powers : SpD := fun ds S Q => ∃ a xs num f p, ds = [.ref a, .int num, .int (f : Nat), .int p] ∧ S a = some (.lst xs) ∧ 0 < p ∧ p < 2 ^ 64 ∧ 0 ≤ num ∧ num < 2 ^ 64 ∧ f + xs.length < 1000000 ∧ Q (sumE (powL num p f xs)) S
theorem pw_pos {num p : Int} (h : 0 < p) : ∀ k, 0 ≤ pw num p k ∧ pw num p k < p
  | 0 => ⟨Int.emod_nonneg _ (by omega), Int.emod_lt_of_pos _ h⟩
  | k + 1 => ⟨Int.emod_nonneg _ (by omega), Int.emod_lt_of_pos _ h⟩
theorem mulx {a b : Int} (h1 : 0 ≤ a) (h2 : a < 2 ^ 64) (h3 : 0 ≤ b) (h4 : b < 2 ^ 64) : CMulX a b := mulx_ok (a := 64) (b := 64) (by omega) (by omega) (by decide)
theorem vc_expression_by_powers : VC sp_expression_by_powers (F_expression_by_powers.ws (g_expression_sum := sp_expression_sum)) F_expression_by_powers.N 4 := by
  rintro ds S Q ⟨a, xs, num, f, p, rfl, hS, h1, h2, h3, h4, hz, q⟩
  refine ⟨rfl, ?_⟩
  unfold F_expression_by_powers.ws; simp (decide := true) only [wSeq, wNext, wRet, wRetN, wAsg, wPar, wPar3, wIfS, wIf, wBt, tru, wAndT, wOrT, wNotT, wAndV, wOrV, wNotV, wBin, wUn, uNeg, wCall, wCB, wM, gAppend, gPopAt, gPop, wVar, wC, wNil, wCons, wTup, wLst, wDrop, wPut, wBits, wDisp, wPairs, wYes, wCont, wBreak, wFor, wLc, wLc2, wVal, valK, wRng1, wRng2, wKeys, wIsi, tyD, wSl, wNoPart, wPart, startD, asg, asgs, asgK, oAdd, oSub, oMul, oDiv, oMod, oShl, oShr, oInt, oInt0, oRel, oLt, oLe, oGt, oGe, oIn, oIdx, bLen, bInt, bAbs, bMax, bMin, bSum, bAll, bAny, bSorted, bTuple, intsOf, blsOf, List.map_cons, List.map_nil, List.cons_append, List.nil_append, List.length_cons, List.length_nil, List.getElem?_cons_zero, List.getElem?_cons_succ, List.set_cons_zero, List.set_cons_succ, List.replicate_succ, List.replicate_zero, Nat.reduceSub, Nat.reduceAdd, Nat.zero_add, wipeD, put_same, atI_0, atI_1, atI_2, atI_3, atI_4, oEq_str, oEq_int, oEq_bl, flat_int, flat_str, inD_nil, inD_cons, eqF_str, eqF_int, List.all_cons, List.all_nil, Bool.and_true, Bool.true_and, Bool.or_false, decide_eq_true_eq, PD.wTru, sp_column_part, sp_number_part, sp_gap_part, sp_product_part, true_and, and_true]
  intro l S' nl eS
  subst eS
  have nla : a ≠ l := fun e => by rw [e, nl] at hS; cases hS
  refine ⟨h1, ?_⟩
  refine ⟨xs, by rw [put_ne nla]; exact hS, by omega, by omega, ?_⟩
  refine loop_of (fun i ρ S' => ∃ r, ρ = [some (.ref a), some (.int num), some (.int (f : Nat)), some (.int p), some (.ref l), some (.int (pw num p i)), r] ∧ S' = put S l (.lst (powL num p f (xs.take (i - f))))) ⟨none, rfl, by rw [Nat.zero_sub]; rfl⟩ ?_ ?_
  · rintro i d ρ S' hd ⟨r, rfl, rfl⟩
    obtain ⟨hi, rfl⟩ := rngD_get hd
    refine ⟨_, rfl, ?_⟩
    have hp := pw_pos (num := num) h1 i
    have mx : CMulX (pw num p i) num := mulx hp.1 (by omega) h3 h4
    simp (decide := true) only [wSeq, wNext, wRet, wRetN, wAsg, wPar, wPar3, wIfS, wIf, wBt, tru, wAndT, wOrT, wNotT, wAndV, wOrV, wNotV, wBin, wUn, uNeg, wCall, wCB, wM, gAppend, gPopAt, gPop, wVar, wC, wNil, wCons, wTup, wLst, wDrop, wPut, wBits, wDisp, wPairs, wYes, wCont, wBreak, wFor, wLc, wLc2, wVal, valK, wRng1, wRng2, wKeys, wIsi, tyD, wSl, wNoPart, wPart, startD, asg, asgs, asgK, oAdd, oSub, oMul, oDiv, oMod, oShl, oShr, oInt, oInt0, oRel, oLt, oLe, oGt, oGe, oIn, oIdx, bLen, bInt, bAbs, bMax, bMin, bSum, bAll, bAny, bSorted, bTuple, intsOf, blsOf, List.map_cons, List.map_nil, List.cons_append, List.nil_append, List.length_cons, List.length_nil, List.getElem?_cons_zero, List.getElem?_cons_succ, List.set_cons_zero, List.set_cons_succ, List.replicate_succ, List.replicate_zero, Nat.reduceSub, Nat.reduceAdd, Nat.zero_add, wipeD, put_same, atI_0, atI_1, atI_2, atI_3, atI_4, oEq_str, oEq_int, oEq_bl, flat_int, flat_str, inD_nil, inD_cons, eqF_str, eqF_int, List.all_cons, List.all_nil, Bool.and_true, Bool.true_and, Bool.or_false, decide_eq_true_eq, PD.wTru, sp_column_part, sp_number_part, sp_gap_part, sp_product_part, true_and, and_true]
    have e0 : (0 : Int) + (i : Int) * 1 = (i : Int) := by omega
    simp only [e0]
    by_cases hf : (f : Int) ≤ (i : Int)
    · have e2 : ((i : Int) - (f : Int)) = ((i - f : Nat) : Int) := by omega
      have hx : i - f < xs.length := by omega
      simp only [if_pos hf, put_ne nla, hS, e2, atI_nat hx, List.getElem?_eq_getElem hx]
      refine ⟨⟨_, rfl⟩, ?_, mx, h1, some (.int i), rfl, ?_⟩
      · rw [powL_len, List.length_take]
        have := line_ge
        omega
      · rw [put_put]
        have e3 : i + 1 - f = (i - f) + 1 := by omega
        rw [e3, take_next (List.getElem?_eq_getElem hx), powL_snoc]
        have e4 : f + (xs.take (i - f)).length = i := by rw [List.length_take]; omega
        rw [e4]; rfl
    · rw [if_neg hf]
      refine ⟨mx, h1, some (.int i), rfl, ?_⟩
      have e3 : i + 1 - f = 0 := by omega
      have e4 : i - f = 0 := by omega
      rw [e3, e4]
  · rintro ρ S' ⟨r, rfl, rfl⟩
    simp only [wSeq, wNext, wRet, wRetN, wAsg, wPar, wPar3, wIfS, wIf, wBt, tru, wAndT, wOrT, wNotT, wAndV, wOrV, wNotV, wBin, wUn, uNeg, wCall, wCB, wM, gAppend, gPopAt, gPop, wVar, wC, wNil, wCons, wTup, wLst, wDrop, wPut, wBits, wDisp, wPairs, wYes, wCont, wBreak, wFor, wLc, wLc2, wVal, valK, wRng1, wRng2, wKeys, wIsi, tyD, wSl, wNoPart, wPart, startD, asg, asgs, asgK, oAdd, oSub, oMul, oDiv, oMod, oShl, oShr, oInt, oInt0, oRel, oLt, oLe, oGt, oGe, oIn, oIdx, bLen, bInt, bAbs, bMax, bMin, bSum, bAll, bAny, bSorted, bTuple, intsOf, blsOf, List.map_cons, List.map_nil, List.cons_append, List.nil_append, List.length_cons, List.length_nil, List.getElem?_cons_zero, List.getElem?_cons_succ, List.set_cons_zero, List.set_cons_succ, List.replicate_succ, List.replicate_zero, Nat.reduceSub, Nat.reduceAdd, Nat.zero_add, wipeD, put_same, atI_0, atI_1, atI_2, atI_3, atI_4, oEq_str, oEq_int, oEq_bl, flat_int, flat_str, inD_nil, inD_cons, eqF_str, eqF_int, List.all_cons, List.all_nil, Bool.and_true, Bool.true_and, Bool.or_false, decide_eq_true_eq, PD.wTru, sp_column_part, sp_number_part, sp_gap_part, sp_product_part, true_and, and_true]
    refine ⟨l, _, rfl, put_same, ?_⟩
    have e : (rngD 0 1 ((f : Int) + (xs.length : Int)).toNat).length - f = xs.length := by rw [rngD_len]; omega
    rw [e, List.take_length]
    exact ret_ext (Ext.put nl) q
def sp_mark_expression : SpD := fun ds S Q => ∃ a xs num p, ds = [.ref a, .int num, .int p] ∧ S a = some (.lst xs) ∧ 0 < p ∧ p < 2 ^ 64 ∧ 0 ≤ num ∧ num < 2 ^ 64 ∧ xs.length < 100000 ∧ Q (sumE (powL num p 0 xs)) S
theorem vc_mark_expression : VC sp_mark_expression (F_mark_expression.ws (g_expression_by_powers := sp_expression_by_powers)) F_mark_expression.N 3 := by
  rintro ds S Q ⟨a, xs, num, p, rfl, hS, h1, h2, h3, h4, hz, q⟩
  refine ⟨rfl, ?_⟩
  unfold F_mark_expression.ws; simp (decide := true) only [wSeq, wNext, wRet, wRetN, wAsg, wPar, wPar3, wIfS, wIf, wBt, tru, wAndT, wOrT, wNotT, wAndV, wOrV, wNotV, wBin, wUn, uNeg, wCall, wCB, wM, gAppend, gPopAt, gPop, wVar, wC, wNil, wCons, wTup, wLst, wDrop, wPut, wBits, wDisp, wPairs, wYes, wCont, wBreak, wFor, wLc, wLc2, wVal, valK, wRng1, wRng2, wKeys, wIsi, tyD, wSl, wNoPart, wPart, startD, asg, asgs, asgK, oAdd, oSub, oMul, oDiv, oMod, oShl, oShr, oInt, oInt0, oRel, oLt, oLe, oGt, oGe, oIn, oIdx, bLen, bInt, bAbs, bMax, bMin, bSum, bAll, bAny, bSorted, bTuple, intsOf, blsOf, List.map_cons, List.map_nil, List.cons_append, List.nil_append, List.length_cons, List.length_nil, List.getElem?_cons_zero, List.getElem?_cons_succ, List.set_cons_zero, List.set_cons_succ, List.replicate_succ, List.replicate_zero, Nat.reduceSub, Nat.reduceAdd, Nat.zero_add, wipeD, put_same, atI_0, atI_1, atI_2, atI_3, atI_4, oEq_str, oEq_int, oEq_bl, flat_int, flat_str, inD_nil, inD_cons, eqF_str, eqF_int, List.all_cons, List.all_nil, Bool.and_true, Bool.true_and, Bool.or_false, decide_eq_true_eq, PD.wTru, sp_column_part, sp_number_part, sp_gap_part, sp_product_part, true_and, and_true]
  exact ⟨a, xs, num, 0, p, rfl, hS, h1, h2, h3, h4, by omega, ret_here q⟩
def invE (c : Int) (m : D) (g : Int) : D := gapE (mulE (colE c) (gapE (numE g) m)) (numE 1)
def sp_inverse_rule : SpD := fun ds S Q => ∃ c m g, ds = [.int c, m, .int g] ∧ Q (invE c m g) S
theorem vc_inverse_rule : VC sp_inverse_rule (F_inverse_rule.ws (g_gap_part := sp_gap_part) (g_number_part := sp_number_part) (g_product_part := sp_product_part) (g_column_part := sp_column_part)) F_inverse_rule.N 3 := by
  rintro ds S Q ⟨c, m, g, rfl, q⟩
  refine ⟨rfl, ?_⟩
  unfold F_inverse_rule.ws; simp (decide := true) only [wSeq, wNext, wRet, wRetN, wAsg, wPar, wPar3, wIfS, wIf, wBt, tru, wAndT, wOrT, wNotT, wAndV, wOrV, wNotV, wBin, wUn, uNeg, wCall, wCB, wM, gAppend, gPopAt, gPop, wVar, wC, wNil, wCons, wTup, wLst, wDrop, wPut, wBits, wDisp, wPairs, wYes, wCont, wBreak, wFor, wLc, wLc2, wVal, valK, wRng1, wRng2, wKeys, wIsi, tyD, wSl, wNoPart, wPart, startD, asg, asgs, asgK, oAdd, oSub, oMul, oDiv, oMod, oShl, oShr, oInt, oInt0, oRel, oLt, oLe, oGt, oGe, oIn, oIdx, bLen, bInt, bAbs, bMax, bMin, bSum, bAll, bAny, bSorted, bTuple, intsOf, blsOf, List.map_cons, List.map_nil, List.cons_append, List.nil_append, List.length_cons, List.length_nil, List.getElem?_cons_zero, List.getElem?_cons_succ, List.set_cons_zero, List.set_cons_succ, List.replicate_succ, List.replicate_zero, Nat.reduceSub, Nat.reduceAdd, Nat.zero_add, wipeD, put_same, atI_0, atI_1, atI_2, atI_3, atI_4, oEq_str, oEq_int, oEq_bl, flat_int, flat_str, inD_nil, inD_cons, eqF_str, eqF_int, List.all_cons, List.all_nil, Bool.and_true, Bool.true_and, Bool.or_false, decide_eq_true_eq, PD.wTru, sp_column_part, sp_number_part, sp_gap_part, sp_product_part, true_and, and_true]
  exact ret_here q
def firstMany (d : Str) : Int := if d = "rows" then 30 else if d = "cells" then 2 else 1
def secondMany (d : Str) : Int := if d = "rows" then 16 else if d = "cells" then 2 else 1
def Dom (d : Str) : Prop := d = "rows" ∨ d = "cells" ∨ d = "code" ∨ d = "times"
def sp_told_many : SpD := fun ds S Q => ∃ d, ds = [.str d] ∧ Dom d ∧ Q (.int (firstMany d + secondMany d)) S
theorem vc_told_many : VC sp_told_many (F_told_many.ws) F_told_many.N 1 := by
  rintro ds S Q ⟨d, rfl, hd, q⟩
  refine ⟨rfl, ?_⟩
  rcases hd with rfl | rfl | rfl | rfl
  all_goals
    unfold F_told_many.ws; simp (decide := true) only [wSeq, wNext, wRet, wRetN, wAsg, wPar, wPar3, wIfS, wIf, wBt, tru, wAndT, wOrT, wNotT, wAndV, wOrV, wNotV, wBin, wUn, uNeg, wCall, wCB, wM, gAppend, gPopAt, gPop, wVar, wC, wNil, wCons, wTup, wLst, wDrop, wPut, wBits, wDisp, wPairs, wYes, wCont, wBreak, wFor, wLc, wLc2, wVal, valK, wRng1, wRng2, wKeys, wIsi, tyD, wSl, wNoPart, wPart, startD, asg, asgs, asgK, oAdd, oSub, oMul, oDiv, oMod, oShl, oShr, oInt, oInt0, oRel, oLt, oLe, oGt, oGe, oIn, oIdx, bLen, bInt, bAbs, bMax, bMin, bSum, bAll, bAny, bSorted, bTuple, intsOf, blsOf, List.map_cons, List.map_nil, List.cons_append, List.nil_append, List.length_cons, List.length_nil, List.getElem?_cons_zero, List.getElem?_cons_succ, List.set_cons_zero, List.set_cons_succ, List.replicate_succ, List.replicate_zero, Nat.reduceSub, Nat.reduceAdd, Nat.zero_add, wipeD, put_same, atI_0, atI_1, atI_2, atI_3, atI_4, oEq_str, oEq_int, oEq_bl, flat_int, flat_str, inD_nil, inD_cons, eqF_str, eqF_int, List.all_cons, List.all_nil, Bool.and_true, Bool.true_and, Bool.or_false, decide_eq_true_eq, PD.wTru, sp_column_part, sp_number_part, sp_gap_part, sp_product_part, true_and, and_true]
    exact ret_here q
def touchE (k : Int) : D := sumE [mulE (numE 5) (colE 46), numE (k + 1)]
def sp_touch_expression : SpD := fun ds S Q => ∃ k, ds = [.int k] ∧ Q (touchE k) S
theorem vc_touch_expression : VC sp_touch_expression (F_touch_expression.ws (g_column_part := sp_column_part) (g_told_many := sp_told_many) (g_expression_sum := sp_expression_sum) (g_number_part := sp_number_part) (g_product_part := sp_product_part)) F_touch_expression.N 1 := by
  rintro ds S Q ⟨k, rfl, q⟩
  refine ⟨rfl, ?_⟩
  unfold F_touch_expression.ws; simp (decide := true) only [wSeq, wNext, wRet, wRetN, wAsg, wPar, wPar3, wIfS, wIf, wBt, tru, wAndT, wOrT, wNotT, wAndV, wOrV, wNotV, wBin, wUn, uNeg, wCall, wCB, wM, gAppend, gPopAt, gPop, wVar, wC, wNil, wCons, wTup, wLst, wDrop, wPut, wBits, wDisp, wPairs, wYes, wCont, wBreak, wFor, wLc, wLc2, wVal, valK, wRng1, wRng2, wKeys, wIsi, tyD, wSl, wNoPart, wPart, startD, asg, asgs, asgK, oAdd, oSub, oMul, oDiv, oMod, oShl, oShr, oInt, oInt0, oRel, oLt, oLe, oGt, oGe, oIn, oIdx, bLen, bInt, bAbs, bMax, bMin, bSum, bAll, bAny, bSorted, bTuple, intsOf, blsOf, List.map_cons, List.map_nil, List.cons_append, List.nil_append, List.length_cons, List.length_nil, List.getElem?_cons_zero, List.getElem?_cons_succ, List.set_cons_zero, List.set_cons_succ, List.replicate_succ, List.replicate_zero, Nat.reduceSub, Nat.reduceAdd, Nat.zero_add, wipeD, put_same, atI_0, atI_1, atI_2, atI_3, atI_4, oEq_str, oEq_int, oEq_bl, flat_int, flat_str, inD_nil, inD_cons, eqF_str, eqF_int, List.all_cons, List.all_nil, Bool.and_true, Bool.true_and, Bool.or_false, decide_eq_true_eq, PD.wTru, sp_column_part, sp_number_part, sp_gap_part, sp_product_part, true_and, and_true]
  refine ⟨"rows", rfl, .inl rfl, ?_⟩
  simp only [wSeq, wNext, wRet, wRetN, wAsg, wPar, wPar3, wIfS, wIf, wBt, tru, wAndT, wOrT, wNotT, wAndV, wOrV, wNotV, wBin, wUn, uNeg, wCall, wCB, wM, gAppend, gPopAt, gPop, wVar, wC, wNil, wCons, wTup, wLst, wDrop, wPut, wBits, wDisp, wPairs, wYes, wCont, wBreak, wFor, wLc, wLc2, wVal, valK, wRng1, wRng2, wKeys, wIsi, tyD, wSl, wNoPart, wPart, startD, asg, asgs, asgK, oAdd, oSub, oMul, oDiv, oMod, oShl, oShr, oInt, oInt0, oRel, oLt, oLe, oGt, oGe, oIn, oIdx, bLen, bInt, bAbs, bMax, bMin, bSum, bAll, bAny, bSorted, bTuple, intsOf, blsOf, List.map_cons, List.map_nil, List.cons_append, List.nil_append, List.length_cons, List.length_nil, List.getElem?_cons_zero, List.getElem?_cons_succ, List.set_cons_zero, List.set_cons_succ, List.replicate_succ, List.replicate_zero, Nat.reduceSub, Nat.reduceAdd, Nat.zero_add, wipeD, put_same, atI_0, atI_1, atI_2, atI_3, atI_4, oEq_str, oEq_int, oEq_bl, flat_int, flat_str, inD_nil, inD_cons, eqF_str, eqF_int, List.all_cons, List.all_nil, Bool.and_true, Bool.true_and, Bool.or_false, decide_eq_true_eq, PD.wTru, sp_column_part, sp_number_part, sp_gap_part, sp_product_part, true_and, and_true]
  exact newE (Ext.refl S) fun p S' x _ k => ⟨p, _, rfl, k, ret_ext x q⟩

/-! ### touches, rules of rows -/
def touchL (k : Int) : List D :=
  [if k = 3 then colE 13 else numE 0, if k = 0 then numE 15 else colE (if k = 1 then 11 else if k = 2 then 12 else if k = 3 then 19 else 10), colE (if k = 0 then 0 else if k = 1 then 15 else if k = 2 then 16 else if k = 3 then 20 else 17), colE (25 + k)]
def touchR (k : Int) : List D :=
  [if k = 3 then colE 13 else numE 0, if k = 0 then numE 15 else colE (if k = 1 then 11 else if k = 2 then 12 else if k = 3 then 19 else 10), colE (if k = 0 then 22 else if k = 1 then 15 else if k = 2 then 16 else if k = 3 then 21 else 18), touchE k]
def Five (k : Int) : Prop := k = 0 ∨ k = 1 ∨ k = 2 ∨ k = 3 ∨ k = 4
def sp_touch_parts : SpD := fun ds S Q => ∃ k, ds = [.int k] ∧ Five k ∧ newK S (.lst (touchL k)) fun d S1 => newK S1 (.lst (touchR k)) fun e S2 => Q (.tup [d, e]) S2
theorem vc_touch_parts : VC sp_touch_parts (F_touch_parts.ws (g_column_part := sp_column_part) (g_number_part := sp_number_part) (g_touch_expression := sp_touch_expression)) F_touch_parts.N 1 := by
  rintro ds S Q ⟨k, rfl, hk, q⟩
  refine ⟨rfl, ?_⟩
  rcases hk with rfl | rfl | rfl | rfl | rfl
  all_goals
    unfold F_touch_parts.ws; simp (decide := true) only [wSeq, wNext, wRet, wRetN, wAsg, wPar, wPar3, wIfS, wIf, wBt, tru, wAndT, wOrT, wNotT, wAndV, wOrV, wNotV, wBin, wUn, uNeg, wCall, wCB, wM, gAppend, gPopAt, gPop, wVar, wC, wNil, wCons, wTup, wLst, wDrop, wPut, wBits, wDisp, wPairs, wYes, wCont, wBreak, wFor, wLc, wLc2, wVal, valK, wRng1, wRng2, wKeys, wIsi, tyD, wSl, wNoPart, wPart, startD, asg, asgs, asgK, oAdd, oSub, oMul, oDiv, oMod, oShl, oShr, oInt, oInt0, oRel, oLt, oLe, oGt, oGe, oIn, oIdx, bLen, bInt, bAbs, bMax, bMin, bSum, bAll, bAny, bSorted, bTuple, intsOf, blsOf, List.map_cons, List.map_nil, List.cons_append, List.nil_append, List.length_cons, List.length_nil, List.getElem?_cons_zero, List.getElem?_cons_succ, List.set_cons_zero, List.set_cons_succ, List.replicate_succ, List.replicate_zero, Nat.reduceSub, Nat.reduceAdd, Nat.zero_add, wipeD, put_same, atI_0, atI_1, atI_2, atI_3, atI_4, oEq_str, oEq_int, oEq_bl, flat_int, flat_str, inD_nil, inD_cons, eqF_str, eqF_int, List.all_cons, List.all_nil, Bool.and_true, Bool.true_and, Bool.or_false, decide_eq_true_eq, PD.wTru, sp_column_part, sp_number_part, sp_gap_part, sp_product_part, true_and, and_true]
    intro a S1 na e1
    refine ⟨_, rfl, ?_⟩
    intro b S2 nb e2
    exact ret_here (q a S1 na e1 b S2 nb e2)
def rowRules : List D :=
  let c := colE 0; let number := colE 1; let add := colE 2; let sub := colE 3; let mul := colE 4; let get := colE 5; let put := colE 6; let zero := colE 7; let jump := colE 8; let stop := colE 9
  let k := colE 14; let x := colE 15; let y := colE 16; let old := colE 17; let new := colE 18; let at' := colE 19; let found := colE 20; let left := colE 21; let later := colE 22; let b := colE 23; let other := colE 24
  let one := numE 1; let keeps := sumE [put, zero, jump, stop]
  let told := [mulE number k, mulE add (sumE [x, y]), mulE sub (gapE x y), mulE mul (mulE x y), mulE get found, mulE keeps old]
  let ahead := sumE [c, one]
  let fork := sumE [mulE b k, mulE (gapE one b) ahead]
  let plain := gapE (gapE (gapE one jump) stop) zero
  let led := [mulE jump k, mulE stop c, mulE zero fork, mulE plain ahead]
  let reaches := sumE [get, put]
  let place := [mulE reaches x, mulE (gapE one reaches) (numE 14)]
  let kept := [mulE put y, mulE (gapE one put) found]
  [gapE new (sumE told), gapE at' (sumE place), gapE left (sumE kept), mulE b x, gapE (mulE x other) (gapE one b), gapE later (sumE led), mulE b other]
def sp_row_rules : SpD := fun ds S Q => ds = [] ∧ newK S (.lst rowRules) Q
def onCol : D → D
  | .int k => colE k
  | d => d
theorem sq {a b : WS} {D : DE} {ρ : PD.Env} {S : Sto} (h : a { D with nx := fun ρ S => b D ρ S } ρ S) : wSeq a b D ρ S := h
theorem cols_comp {i : Nat} {ρ : PD.Env} (hρ : i < ρ.length) {lo : Int} {n : Nat} {S : Sto} {Q : List D → Sto → Prop} (hn : n ≤ 1000) (q : ∀ S1, Ext S S1 → Q ((rngD lo 1 n).map onCol) S1) :
    compD (fun _ => True) (.nm i) wYes (wCall sp_column_part (wCons (wVar i) wNil)) ρ (rngD lo 1 n) [] S Q := by
  refine comp_map onCol (fun d S1 Q1 hm ex q1 => ?_) (fun _ _ => trivial) ?_ (by simpa using q)
  · obtain ⟨j, hj⟩ := List.getElem?_of_mem hm
    obtain ⟨_, rfl⟩ := rngD_get hj
    refine ⟨_, rfl, ?_⟩
    simp only [wSeq, wNext, wRet, wRetN, wAsg, wPar, wPar3, wIfS, wIf, wBt, tru, wAndT, wOrT, wNotT, wAndV, wOrV, wNotV, wBin, wUn, uNeg, wCall, wCB, wM, gAppend, gPopAt, gPop, wVar, wC, wNil, wCons, wTup, wLst, wDrop, wPut, wBits, wDisp, wPairs, wYes, wCont, wBreak, wFor, wLc, wLc2, wVal, valK, wRng1, wRng2, wKeys, wIsi, tyD, wSl, wNoPart, wPart, startD, asg, asgs, asgK, oAdd, oSub, oMul, oDiv, oMod, oShl, oShr, oInt, oInt0, oRel, oLt, oLe, oGt, oGe, oIn, oIdx, bLen, bInt, bAbs, bMax, bMin, bSum, bAll, bAny, bSorted, bTuple, intsOf, blsOf, List.map_cons, List.map_nil, List.cons_append, List.nil_append, List.length_cons, List.length_nil, List.getElem?_cons_zero, List.getElem?_cons_succ, List.set_cons_zero, List.set_cons_succ, List.replicate_succ, List.replicate_zero, Nat.reduceSub, Nat.reduceAdd, Nat.zero_add, wipeD, put_same, atI_0, atI_1, atI_2, atI_3, atI_4, oEq_str, oEq_int, oEq_bl, flat_int, flat_str, inD_nil, inD_cons, eqF_str, eqF_int, List.all_cons, List.all_nil, Bool.and_true, Bool.true_and, Bool.or_false, decide_eq_true_eq, PD.wTru, sp_column_part, sp_number_part, sp_gap_part, sp_product_part, true_and, and_true]
    rw [List.getElem?_set_self hρ]
    exact q1 S1 (Ext.refl _)
  · rw [List.length_nil, rngD_len]
    have := line_ge
    omega
/-- the returned new list -/
theorem ret_new {S S1 : Sto} {o : O} {Q : KD} (x : Ext S S1) (q : newK S o Q) : newK S1 o (ends Q).rt := fun p S' n e => by
  subst e
  exact ⟨_, Ext.both x, q p _ (x.none n) rfl⟩
theorem vc_row_rules : VC sp_row_rules (F_row_rules.ws (g_column_part := sp_column_part) (g_expression_sum := sp_expression_sum) (g_number_part := sp_number_part) (g_product_part := sp_product_part) (g_gap_part := sp_gap_part)) F_row_rules.N 0 := by
  rintro ds S Q ⟨rfl, q⟩
  refine ⟨rfl, ?_⟩
  refine ⟨by decide, by decide, cols_comp (by decide) (by decide) fun S1 x1 => newE x1 fun p1 S1 x1 _ k1 => asg_lst k1 ?_⟩
  refine ⟨⟨by decide, by decide, by decide, by decide⟩, cols_comp (by decide) (by decide) fun S2 x2 => newE (x1.trans x2) fun p2 S2 x2 _ k2 => asg_lst k2 ?_⟩
  refine ⟨by decide, newE x2 fun p3 S3 x3 _ k3 => ⟨p3, _, rfl, k3, ?_⟩⟩
  refine ⟨by decide, newE x3 fun p4 S4 x4 _ k4 => ⟨p4, _, rfl, k4, ?_⟩⟩
  refine ⟨by decide, newE x4 fun p5 S5 x5 _ k5 => ?_⟩
  refine ⟨by decide, newE x5 fun p6 S6 x6 z6 k6 => ⟨p6, _, rfl, k6, ?_⟩⟩
  refine ⟨by decide, newE x6 fun p7 S7 x7 z7 k7 => ⟨p7, _, rfl, k7, ?_⟩⟩
  refine ⟨by decide, newE x7 fun p8 S8 x8 z8 k8 => ?_⟩
  refine ⟨by decide, newE x8 fun p9 S9 x9 z9 k9 => ⟨p9, _, rfl, k9, ?_⟩⟩
  refine ⟨by decide, newE x9 fun p10 S10 x10 z10 k10 => ?_⟩
  refine ⟨by decide, newE x10 fun p11 S11 x11 z11 k11 => ?_⟩
  have z5 := z6.trans (z7.trans (z8.trans (z9.trans (z10.trans z11))))
  have z10' := z11
  have z8' := (z9.trans (z10.trans z11))
  refine ⟨p5, _, rfl, z5 _ _ k5, ?_⟩
  refine ⟨p10, _, rfl, z11 _ _ k10, ?_⟩
  refine ⟨p11, _, rfl, k11, ?_⟩
  refine ⟨p8, _, rfl, z8' _ _ k8, ?_⟩
  exact ⟨by decide, ret_new x11 q⟩
end K83

namespace K83
open PySem PySem.Spec PyProof.Rows L2 PD

theorem gApp {S : Sto} {l : Addr} {xs : List D} {y : D} {Q : KD} (h : S l = some (.lst xs)) (hz : xs.length < sizeLine) (q : Q .non (put S l (.lst (xs ++ [y])))) : gAppend (.ref l) [y] S Q := by
  unfold gAppend
  simp only [h]
  exact ⟨hz, q⟩
theorem Ext.chg {S S1 : Sto} {a : Addr} {o : O} (e : Ext S S1) (n : S a = none) : Ext S (put S1 a o) := fun b u h => by
  have ne : b ≠ a := fun z => by rw [z, n] at h; cases h
  rw [put_ne ne]; exact e b u h
theorem pne {S : Sto} {a b : Addr} {o : O} (h : S a = some o) (n : S b = none) : a ≠ b := fun e => by rw [e, n] at h; cases h
def mkE (beta p : Int) (xs : List D) : D := sumE (powL beta p 0 xs)
def five : List Int := [0, 1, 2, 3, 4]
def fL (beta p : Int) : List D := five.map fun k => mkE beta p (touchL k)
def lL (beta p : Int) : List D := five.map fun k => mkE beta p (touchR k)
def sL : List D := five.map fun k => gapE (touchE k) (colE (25 + k))
def codeL (lo : Int) (n : Nat) : List D := (rngD lo 1 n).map onCol
def marksL (beta p : Int) : List D := fL beta p ++ lL beta p ++ [mkE beta p (codeL 0 15)] ++ sL
def invL (gamma : Int) (m : List D) : List D := (rngD 0 1 m.length).map fun d => match d with | .int k => invE (30 + k) (m.getD k.toNat .non) gamma | d => d
def rowsRules (beta gamma p : Int) : List D := rowRules ++ invL gamma (marksL beta p)
def sp_rows_domain_rules : SpD := fun ds S Q => ∃ beta gamma p, ds = [.int beta, .int gamma, .int p] ∧ 0 < p ∧ p < 2 ^ 64 ∧ 0 ≤ beta ∧ beta < 2 ^ 64 ∧ newK S (.lst (rowsRules beta gamma p)) Q
theorem five_of {i : Nat} (h : i < 5) : Five ((0 : Int) + (i : Int) * 1) ∧ five[i]? = some ((0 : Int) + (i : Int) * 1) := by
  have : i = 0 ∨ i = 1 ∨ i = 2 ∨ i = 3 ∨ i = 4 := by omega
  rcases this with rfl | rfl | rfl | rfl | rfl
  · exact ⟨.inl rfl, rfl⟩
  · exact ⟨.inr (.inl rfl), rfl⟩
  · exact ⟨.inr (.inr (.inl rfl)), rfl⟩
  · exact ⟨.inr (.inr (.inr (.inl rfl))), rfl⟩
  · exact ⟨.inr (.inr (.inr (.inr rfl))), rfl⟩
theorem take_map {f : Int → D} {i : Nat} {k : Int} (h : five[i]? = some k) : (five.map f).take (i + 1) = (five.map f).take i ++ [f k] := take_next (by rw [List.getElem?_map, h]; rfl)
theorem take_five {f : Int → D} {i : Nat} : ((five.map f).take i).length ≤ 5 := by
  rw [List.length_take]; exact Nat.min_le_right _ _
theorem touch_len (k : Int) : (touchL k).length = 4 ∧ (touchR k).length = 4 := ⟨rfl, rfl⟩
theorem vc_rows_domain_rules : VC sp_rows_domain_rules (F_rows_domain_rules.ws (g_touch_parts := sp_touch_parts) (g_mark_expression := sp_mark_expression) (g_gap_part := sp_gap_part) (g_column_part := sp_column_part) (g_touch_expression := sp_touch_expression) (g_row_rules := sp_row_rules) (g_inverse_rule := sp_inverse_rule)) F_rows_domain_rules.N 3 := by
  rintro ds S Q ⟨beta, gamma, p, rfl, h1, h2, h3, h4, q⟩
  refine ⟨rfl, ?_⟩
  refine ⟨by decide, fun a S1 na e1 => ⟨by decide, fun b S2 nb e2 => ⟨by decide, fun c S3 nc e3 => ⟨by decide, by decide, ?_⟩⟩⟩⟩
  have lz := line_ge
  have ka : S3 a = some (.lst []) := by
    have ab : a ≠ b := fun e => by rw [e1, ← e, put_same] at nb; cases nb
    have ac : a ≠ c := fun e => by rw [e2, ← e, put_ne ab, e1, put_same] at nc; cases nc
    rw [e3, put_ne ac, e2, put_ne ab, e1, put_same]
  have kb : S3 b = some (.lst []) := by
    have bc : b ≠ c := fun e => by rw [e2, ← e, put_same] at nc; cases nc
    rw [e3, put_ne bc, e2, put_same]
  have kc : S3 c = some (.lst []) := by rw [e3, put_same]
  have ab : a ≠ b := fun e => by rw [e1, ← e, put_same] at nb; cases nb
  have ac : a ≠ c := fun e => by rw [e2, ← e, put_ne ab, e1, put_same] at nc; cases nc
  have bc : b ≠ c := fun e => by rw [e2, ← e, put_same] at nc; cases nc
  have nb' : S b = none := by rw [e1, put_ne (Ne.symm ab)] at nb; exact nb
  have nc' : S c = none := by rw [e2, put_ne (Ne.symm bc), e1, put_ne (Ne.symm ac)] at nc; exact nc
  have xs : Ext S S3 := by
    rw [e3]; refine Ext.chg ?_ nc'
    rw [e2]; refine Ext.chg ?_ nb'
    rw [e1]; exact Ext.put na
  clear e1 e2 e3 nb nc
  refine loop_of (fun i ρ S' => ∃ r1 r2, ρ = [some (.int beta), some (.int gamma), some (.int p), some (.ref a), some (.ref b), some (.ref c), r1, r2, none, none] ∧ Ext S S' ∧ S' a = some (.lst ((fL beta p).take i)) ∧ S' b = some (.lst ((lL beta p).take i)) ∧ S' c = some (.lst (sL.take i))) ⟨none, none, rfl, xs, ka, kb, kc⟩ ?_ ?_
  · rintro i d ρ S' hd ⟨r1, r2, rfl, x, k1, k2, k3⟩
    obtain ⟨hi, rfl⟩ := rngD_get hd
    obtain ⟨f5, g5⟩ := five_of (show i < 5 from hi)
    generalize (0 : Int) + (i : Int) * 1 = k at f5 g5 ⊢
    refine ⟨_, rfl, ?_⟩
    refine ⟨k, rfl, f5, fun t1 S4 n4 e4 => fun t2 S5 n5 e5 => ?_⟩
    have t12 : t1 ≠ t2 := fun e => by rw [e4, ← e, put_same] at n5; cases n5
    have g1 : S5 t1 = some (.lst (touchL k)) := by rw [e5, put_ne t12, e4, put_same]
    have g2 : S5 t2 = some (.lst (touchR k)) := by rw [e5, put_same]
    have y4 : Ext S' S4 := by rw [e4]; exact Ext.put n4
    have y5 : Ext S' S5 := by rw [e5]; exact y4.put' n5
    have at2 : t2 ≠ a := fun e => by rw [e, y4 _ _ k1] at n5; cases n5
    have bt2 : t2 ≠ b := fun e => by rw [e, y4 _ _ k2] at n5; cases n5
    refine ⟨⟨_, y5 _ _ k1⟩, t1, _, beta, p, rfl, g1, h1, h2, h3, h4, (show 4 < 100000 by decide), gApp (y5 _ _ k1) (Nat.lt_of_le_of_lt take_five (by omega)) ?_⟩
    have k2' : put S5 a (.lst ((fL beta p).take i ++ [mkE beta p (touchL k)])) b = some (.lst ((lL beta p).take i)) := by rw [put_ne (Ne.symm ab)]; exact y5 _ _ k2
    refine ⟨⟨_, k2'⟩, t2, touchR k, beta, p, rfl, by rw [put_ne at2]; exact g2, h1, h2, h3, h4, (show 4 < 100000 by decide), gApp k2' (Nat.lt_of_le_of_lt take_five (by omega)) ?_⟩
    have k3' : put (put S5 a (.lst ((fL beta p).take i ++ [mkE beta p (touchL k)]))) b (.lst ((lL beta p).take i ++ [mkE beta p (touchR k)])) c = some (.lst (sL.take i)) := by rw [put_ne (Ne.symm bc), put_ne (Ne.symm ac)]; exact y5 _ _ k3
    refine ⟨⟨_, k3'⟩, k, rfl, gApp k3' (Nat.lt_of_le_of_lt take_five (by omega)) ?_⟩
    refine ⟨trivial, _, _, rfl, ?_, ?_, ?_, ?_⟩
    · exact Ext.chg (Ext.chg (Ext.chg (x.trans y5) na) nb') nc'
    · rw [put_ne ac, put_ne ab, put_same, fL, take_map g5]; rfl
    · rw [put_ne bc, put_same, lL, take_map g5]; rfl
    · rw [put_same, sL, take_map g5]; rfl
  · rintro ρ S' ⟨r1, r2, rfl, x, k1, k2, k3⟩
    rw [show (rngD 0 1 (Int.toNat 5)).length = 5 from rfl] at k1 k2 k3
    have k1 : S' a = some (.lst (fL beta p)) := k1
    have k2 : S' b = some (.lst (lL beta p)) := k2
    have k3 : S' c = some (.lst sL) := k3
    refine ⟨by decide, by decide, cols_comp (show 6 < 10 by decide) (by decide) fun S1 x1 => newE x1 fun p1 S1 x1 _ g1 => ⟨p1, _, beta, p, rfl, g1, h1, h2, h3, h4, by decide, ?_⟩⟩
    refine ⟨_, _, x1 _ _ k1, x1 _ _ k2, (show 5 + 5 ≤ sizeLine by decide), newE x1 fun p2 S2 x2 y2 g2 => ⟨(show 1 ≤ sizeLine by decide), newE x2 fun p3 S3 x3 y3 g3 => ?_⟩⟩
    refine ⟨_, _, y3 _ _ g2, g3, (show 10 + 1 ≤ sizeLine by decide), newE x3 fun p4 S4 x4 y4 g4 => ?_⟩
    refine ⟨_, _, g4, x4 _ _ k3, (show 11 + 5 ≤ sizeLine by decide), newE x4 fun p5 S5 x5 y5 g5 => ?_⟩
    refine ⟨rfl, newE x5 fun p6 S6 x6 y6 g6 => ⟨_, y6 _ _ g5, (show -(2 ^ 62) ≤ (16 : Int) by decide), (show (16 : Int) < 2 ^ 62 by decide), ?_⟩⟩
    refine comp_map (fun d => match d with | .int k => invE (30 + k) ((marksL beta p).getD k.toNat .non) gamma | d => d) (fun d S7 Q1 hm ex q1 => ?_) (fun _ _ => trivial) (show 0 + 16 ≤ sizeLine by decide) fun S7 x7 => newE x7 fun p8 S8 x8 y8 g8 => ?_
    · obtain ⟨j, hj⟩ := List.getElem?_of_mem hm
      obtain ⟨hj2, rfl⟩ := rngD_get hj
      have hj : j < (marksL beta p).length := hj2
      have ej : (0 : Int) + (j : Int) * 1 = (j : Int) := by omega
      rw [ej]
      refine ⟨_, rfl, ?_⟩
      have e2 : S7 p5 = some (.lst (marksL beta p)) := ex _ _ (y6 _ _ g5)
      simp only [wSeq, wNext, wRet, wRetN, wAsg, wPar, wPar3, wIfS, wIf, wBt, tru, wAndT, wOrT, wNotT, wAndV, wOrV, wNotV, wBin, wUn, uNeg, wCall, wCB, wM, gAppend, gPopAt, gPop, wVar, wC, wNil, wCons, wTup, wLst, wDrop, wPut, wBits, wDisp, wPairs, wYes, wCont, wBreak, wFor, wLc, wLc2, wVal, valK, wRng1, wRng2, wKeys, wIsi, tyD, wSl, wNoPart, wPart, startD, asg, asgs, asgK, oAdd, oSub, oMul, oDiv, oMod, oShl, oShr, oInt, oInt0, oRel, oLt, oLe, oGt, oGe, oIn, oIdx, bLen, bInt, bAbs, bMax, bMin, bSum, bAll, bAny, bSorted, bTuple, intsOf, blsOf, List.map_cons, List.map_nil, List.cons_append, List.nil_append, List.length_cons, List.length_nil, List.getElem?_cons_zero, List.getElem?_cons_succ, List.set_cons_zero, List.set_cons_succ, List.replicate_succ, List.replicate_zero, Nat.reduceSub, Nat.reduceAdd, Nat.zero_add, wipeD, put_same, atI_0, atI_1, atI_2, atI_3, atI_4, oEq_str, oEq_int, oEq_bl, flat_int, flat_str, inD_nil, inD_cons, eqF_str, eqF_int, List.all_cons, List.all_nil, Bool.and_true, Bool.true_and, Bool.or_false, decide_eq_true_eq, PD.wTru, sp_column_part, sp_number_part, sp_gap_part, sp_product_part, true_and, and_true]
      rw [e2]
      simp only [atI_nat hj, List.getElem?_eq_getElem hj]
      refine ⟨_, _, _, rfl, ?_⟩
      have z : (marksL beta p).getD (j : Int).toNat .non = (marksL beta p)[j] := by simp [List.getD, hj]
      dsimp only at q1
      rw [ej, z] at q1
      exact q1 S7 (Ext.refl _)
    · exact ⟨_, _, x8 _ _ g6, g8, (show 7 + 16 ≤ sizeLine by decide), ret_new (x.trans (x6.trans x8)) q⟩

/-! ### rules of a domain -/
def cellsRules : List D := [mulE (colE 7) (gapE (colE 0) (colE 8)), invE 2 (mkE 1 3 [colE 4, colE 5, colE 6, numE 0]) 0, invE 3 (mkE 1 3 [colE 4, colE 5, colE 0, colE 1]) 0]
def rulesOf (d : Str) : List D := if d = "rows" then rowsRules 1 0 3 else if d = "cells" then cellsRules else if d = "code" then [invE 1 (mkE 1 3 (codeL 2 15)) 0] else [invE 1 (mkE 1 3 (codeL 2 1)) 0]
def sp_domain_rules : SpD := fun ds S Q => ∃ d, ds = [.str d, .int 1, .int 0, .int 3] ∧ Dom d ∧ newK S (.lst (rulesOf d)) Q
theorem fixed_comp {ρ : PD.Env} (hρ : 8 < ρ.length) {n : Nat} {S : Sto} {Q : List D → Sto → Prop} (hn : n ≤ 1000) (q : ∀ S1, Ext S S1 → Q (codeL 2 n) S1) :
    compD (fun _ => True) (.nm 8) wYes (wCall sp_column_part (wCons (wBin oAdd (wC (.int 2)) (wVar 8)) wNil)) ρ (rngD 0 1 n) [] S Q := by
  have e : codeL 2 n = (rngD 0 1 n).map fun d => match d with | .int k => colE (2 + k) | d => d := by
    unfold codeL rngD
    rw [List.map_map, List.map_map]
    refine List.map_congr_left fun i _ => ?_
    show colE (2 + i * 1) = colE (2 + (0 + i * 1))
    rw [Int.zero_add]
  refine comp_map (fun d => match d with | .int k => colE (2 + k) | d => d) (fun d S1 Q1 hm ex q1 => ?_) (fun _ _ => trivial) ?_ (by rw [← e]; simpa using q)
  · obtain ⟨j, hj⟩ := List.getElem?_of_mem hm
    obtain ⟨_, rfl⟩ := rngD_get hj
    refine ⟨_, rfl, ?_⟩
    simp only [wSeq, wNext, wRet, wRetN, wAsg, wPar, wPar3, wIfS, wIf, wBt, tru, wAndT, wOrT, wNotT, wAndV, wOrV, wNotV, wBin, wUn, uNeg, wCall, wCB, wM, gAppend, gPopAt, gPop, wVar, wC, wNil, wCons, wTup, wLst, wDrop, wPut, wBits, wDisp, wPairs, wYes, wCont, wBreak, wFor, wLc, wLc2, wVal, valK, wRng1, wRng2, wKeys, wIsi, tyD, wSl, wNoPart, wPart, startD, asg, asgs, asgK, oAdd, oSub, oMul, oDiv, oMod, oShl, oShr, oInt, oInt0, oRel, oLt, oLe, oGt, oGe, oIn, oIdx, bLen, bInt, bAbs, bMax, bMin, bSum, bAll, bAny, bSorted, bTuple, intsOf, blsOf, List.map_cons, List.map_nil, List.cons_append, List.nil_append, List.length_cons, List.length_nil, List.getElem?_cons_zero, List.getElem?_cons_succ, List.set_cons_zero, List.set_cons_succ, List.replicate_succ, List.replicate_zero, Nat.reduceSub, Nat.reduceAdd, Nat.zero_add, wipeD, put_same, atI_0, atI_1, atI_2, atI_3, atI_4, oEq_str, oEq_int, oEq_bl, flat_int, flat_str, inD_nil, inD_cons, eqF_str, eqF_int, List.all_cons, List.all_nil, Bool.and_true, Bool.true_and, Bool.or_false, decide_eq_true_eq, PD.wTru, sp_column_part, sp_number_part, sp_gap_part, sp_product_part, true_and, and_true]
    rw [List.getElem?_set_self hρ]
    exact q1 S1 (Ext.refl _)
  · rw [List.length_nil, rngD_len]
    have := line_ge
    omega
theorem vc_domain_rules : VC sp_domain_rules (F_domain_rules.ws (g_rows_domain_rules := sp_rows_domain_rules) (g_mark_expression := sp_mark_expression) (g_number_part := sp_number_part) (g_column_part := sp_column_part) (g_product_part := sp_product_part) (g_gap_part := sp_gap_part) (g_inverse_rule := sp_inverse_rule)) F_domain_rules.N 4 := by
  rintro ds S Q ⟨d, rfl, hd, q⟩
  refine ⟨rfl, ?_⟩
  rcases hd with rfl | rfl | rfl | rfl
  · exact ⟨1, 0, 3, rfl, by decide, by decide, by decide, by decide, ret_new (Ext.refl S) q⟩
  · refine ⟨by decide, newE (Ext.refl S) fun p1 S1 x1 _ k1 => ⟨p1, _, 1, 3, rfl, k1, by decide, by decide, by decide, by decide, by decide, ?_⟩⟩
    refine ⟨by decide, newE x1 fun p2 S2 x2 _ k2 => ⟨p2, _, 1, 3, rfl, k2, by decide, by decide, by decide, by decide, by decide, ?_⟩⟩
    refine ⟨2, _, 0, rfl, 3, _, 0, rfl, by decide, ret_new x2 q⟩
  · refine ⟨by decide, by decide, fixed_comp (by decide) (by decide) fun S1 x1 => newE x1 fun p1 S1 x1 _ k1 => ⟨p1, _, 1, 3, rfl, k1, by decide, by decide, by decide, by decide, by decide, ?_⟩⟩
    exact ⟨1, _, 0, rfl, by decide, ret_new x1 q⟩
  · refine ⟨by decide, by decide, fixed_comp (by decide) (by decide) fun S1 x1 => newE x1 fun p1 S1 x1 _ k1 => ⟨p1, _, 1, 3, rfl, k1, by decide, by decide, by decide, by decide, by decide, ?_⟩⟩
    exact ⟨1, _, 0, rfl, by decide, ret_new x1 q⟩
end K83

namespace K83
open PySem PySem.Spec PyProof.Rows L2 PD

/-! ### share expressions, sizes of messages -/
def shareOf (d : Str) : List D :=
  if d = "rows" then [.tup [.int 0, gapE (sumE (codeL 30 5)) (sumE (codeL 35 5))], .tup [.int 1, colE 40], .tup [.int 2, sumE (codeL 41 5)]]
  else if d = "cells" then [.tup [.int 0, gapE (colE 3) (colE 2)]]
  else [.tup [.int (if d = "code" then 1 else 2), gapE (numE 0) (mulE (colE 0) (colE 1))]]
def sp_share_expressions : SpD := fun ds S Q => ∃ d, ds = [.str d] ∧ Dom d ∧ newK S (.lst (shareOf d)) Q
theorem begin_comp {ρ : PD.Env} {b : Int} (hρ : 4 < ρ.length) (hb : ρ[3]? = some (some (.int b))) {S : Sto} {Q : List D → Sto → Prop} (q : ∀ S1, Ext S S1 → Q (codeL b 5) S1) :
    compD (fun _ => True) (.nm 4) wYes (wCall sp_column_part (wCons (wBin oAdd (wVar 3) (wVar 4)) wNil)) ρ (rngD 0 1 5) [] S Q := by
  have e : codeL b 5 = (rngD 0 1 5).map fun d => match d with | .int k => colE (b + k) | d => d := by
    unfold codeL rngD
    rw [List.map_map, List.map_map]
    refine List.map_congr_left fun i _ => ?_
    show colE (b + i * 1) = colE (b + (0 + i * 1))
    rw [Int.zero_add]
  refine comp_map (fun d => match d with | .int k => colE (b + k) | d => d) (fun d S1 Q1 hm ex q1 => ?_) (fun _ _ => trivial) ?_ (by rw [← e]; simpa using q)
  · obtain ⟨j, hj⟩ := List.getElem?_of_mem hm
    obtain ⟨_, rfl⟩ := rngD_get hj
    refine ⟨_, rfl, ?_⟩
    simp only [wSeq, wNext, wRet, wRetN, wAsg, wPar, wPar3, wIfS, wIf, wBt, tru, wAndT, wOrT, wNotT, wAndV, wOrV, wNotV, wBin, wUn, uNeg, wCall, wCB, wM, gAppend, gPopAt, gPop, wVar, wC, wNil, wCons, wTup, wLst, wDrop, wPut, wBits, wDisp, wPairs, wYes, wCont, wBreak, wFor, wLc, wLc2, wVal, valK, wRng1, wRng2, wKeys, wIsi, tyD, wSl, wNoPart, wPart, startD, asg, asgs, asgK, oAdd, oSub, oMul, oDiv, oMod, oShl, oShr, oInt, oInt0, oRel, oLt, oLe, oGt, oGe, oIn, oIdx, bLen, bInt, bAbs, bMax, bMin, bSum, bAll, bAny, bSorted, bTuple, intsOf, blsOf, List.map_cons, List.map_nil, List.cons_append, List.nil_append, List.length_cons, List.length_nil, List.getElem?_cons_zero, List.getElem?_cons_succ, List.set_cons_zero, List.set_cons_succ, List.replicate_succ, List.replicate_zero, Nat.reduceSub, Nat.reduceAdd, Nat.zero_add, wipeD, put_same, atI_0, atI_1, atI_2, atI_3, atI_4, oEq_str, oEq_int, oEq_bl, flat_int, flat_str, inD_nil, inD_cons, eqF_str, eqF_int, List.all_cons, List.all_nil, Bool.and_true, Bool.true_and, Bool.or_false, decide_eq_true_eq, PD.wTru, sp_column_part, sp_number_part, sp_gap_part, sp_product_part, true_and, and_true]
    rw [List.getElem?_set_ne (by decide), hb]
    simp only [wSeq, wNext, wRet, wRetN, wAsg, wPar, wPar3, wIfS, wIf, wBt, tru, wAndT, wOrT, wNotT, wAndV, wOrV, wNotV, wBin, wUn, uNeg, wCall, wCB, wM, gAppend, gPopAt, gPop, wVar, wC, wNil, wCons, wTup, wLst, wDrop, wPut, wBits, wDisp, wPairs, wYes, wCont, wBreak, wFor, wLc, wLc2, wVal, valK, wRng1, wRng2, wKeys, wIsi, tyD, wSl, wNoPart, wPart, startD, asg, asgs, asgK, oAdd, oSub, oMul, oDiv, oMod, oShl, oShr, oInt, oInt0, oRel, oLt, oLe, oGt, oGe, oIn, oIdx, bLen, bInt, bAbs, bMax, bMin, bSum, bAll, bAny, bSorted, bTuple, intsOf, blsOf, List.map_cons, List.map_nil, List.cons_append, List.nil_append, List.length_cons, List.length_nil, List.getElem?_cons_zero, List.getElem?_cons_succ, List.set_cons_zero, List.set_cons_succ, List.replicate_succ, List.replicate_zero, Nat.reduceSub, Nat.reduceAdd, Nat.zero_add, wipeD, put_same, atI_0, atI_1, atI_2, atI_3, atI_4, oEq_str, oEq_int, oEq_bl, flat_int, flat_str, inD_nil, inD_cons, eqF_str, eqF_int, List.all_cons, List.all_nil, Bool.and_true, Bool.true_and, Bool.or_false, decide_eq_true_eq, PD.wTru, sp_column_part, sp_number_part, sp_gap_part, sp_product_part, true_and, and_true]
    rw [List.getElem?_set_self hρ]
    exact q1 S1 (Ext.refl _)
  · rw [List.length_nil, rngD_len]
    have := line_ge
    omega
theorem vc_share_expressions : VC sp_share_expressions (F_share_expressions.ws (g_expression_sum := sp_expression_sum) (g_column_part := sp_column_part) (g_gap_part := sp_gap_part) (g_product_part := sp_product_part) (g_number_part := sp_number_part)) F_share_expressions.N 1 := by
  rintro ds S Q ⟨d, rfl, hd, q⟩
  refine ⟨rfl, ?_⟩
  rcases hd with rfl | rfl | rfl | rfl
  · refine ⟨by decide, ?_⟩
    refine comp_map (fun d => match d with | .int b => sumE (codeL b 5) | d => d) (fun d S1 Q1 hm ex q1 => ?_) (fun _ _ => trivial) (by decide) fun S1 x1 => newE x1 fun p1 S1 x1 _ k1 => ?_
    · have : d = .int 30 ∨ d = .int 35 ∨ d = .int 41 := by simpa using hm
      rcases this with rfl | rfl | rfl
      all_goals
        refine ⟨_, rfl, ?_⟩
        refine ⟨by decide, by decide, begin_comp (by decide) rfl fun S2 x2 => newE x2 fun p2 S2 x2 _ k2 => ⟨p2, _, rfl, k2, q1 S2 x2⟩⟩
    · have k1 : S1 p1 = some (.lst [sumE (codeL 30 5), sumE (codeL 35 5), sumE (codeL 41 5)]) := k1
      simp (decide := true) only [wSeq, wNext, wRet, wRetN, wAsg, wPar, wPar3, wIfS, wIf, wBt, tru, wAndT, wOrT, wNotT, wAndV, wOrV, wNotV, wBin, wUn, uNeg, wCall, wCB, wM, gAppend, gPopAt, gPop, wVar, wC, wNil, wCons, wTup, wLst, wDrop, wPut, wBits, wDisp, wPairs, wYes, wCont, wBreak, wFor, wLc, wLc2, wVal, valK, wRng1, wRng2, wKeys, wIsi, tyD, wSl, wNoPart, wPart, startD, asg, asgs, asgK, oAdd, oSub, oMul, oDiv, oMod, oShl, oShr, oInt, oInt0, oRel, oLt, oLe, oGt, oGe, oIn, oIdx, bLen, bInt, bAbs, bMax, bMin, bSum, bAll, bAny, bSorted, bTuple, intsOf, blsOf, List.map_cons, List.map_nil, List.cons_append, List.nil_append, List.length_cons, List.length_nil, List.getElem?_cons_zero, List.getElem?_cons_succ, List.set_cons_zero, List.set_cons_succ, List.replicate_succ, List.replicate_zero, Nat.reduceSub, Nat.reduceAdd, Nat.zero_add, wipeD, put_same, atI_0, atI_1, atI_2, atI_3, atI_4, oEq_str, oEq_int, oEq_bl, flat_int, flat_str, inD_nil, inD_cons, eqF_str, eqF_int, List.all_cons, List.all_nil, Bool.and_true, Bool.true_and, Bool.or_false, decide_eq_true_eq, PD.wTru, sp_column_part, sp_number_part, sp_gap_part, sp_product_part, true_and, and_true]
      simp only [k1, wSeq, wNext, wRet, wRetN, wAsg, wPar, wPar3, wIfS, wIf, wBt, tru, wAndT, wOrT, wNotT, wAndV, wOrV, wNotV, wBin, wUn, uNeg, wCall, wCB, wM, gAppend, gPopAt, gPop, wVar, wC, wNil, wCons, wTup, wLst, wDrop, wPut, wBits, wDisp, wPairs, wYes, wCont, wBreak, wFor, wLc, wLc2, wVal, valK, wRng1, wRng2, wKeys, wIsi, tyD, wSl, wNoPart, wPart, startD, asg, asgs, asgK, oAdd, oSub, oMul, oDiv, oMod, oShl, oShr, oInt, oInt0, oRel, oLt, oLe, oGt, oGe, oIn, oIdx, bLen, bInt, bAbs, bMax, bMin, bSum, bAll, bAny, bSorted, bTuple, intsOf, blsOf, List.map_cons, List.map_nil, List.cons_append, List.nil_append, List.length_cons, List.length_nil, List.getElem?_cons_zero, List.getElem?_cons_succ, List.set_cons_zero, List.set_cons_succ, List.replicate_succ, List.replicate_zero, Nat.reduceSub, Nat.reduceAdd, Nat.zero_add, wipeD, put_same, atI_0, atI_1, atI_2, atI_3, atI_4, oEq_str, oEq_int, oEq_bl, flat_int, flat_str, inD_nil, inD_cons, eqF_str, eqF_int, List.all_cons, List.all_nil, Bool.and_true, Bool.true_and, Bool.or_false, decide_eq_true_eq, PD.wTru, sp_column_part, sp_number_part, sp_gap_part, sp_product_part, true_and, and_true]
      exact ret_new x1 q
  · exact ⟨by decide, by decide, ret_new (Ext.refl S) q⟩
  · exact ⟨by decide, by decide, ret_new (Ext.refl S) q⟩
  · exact ⟨by decide, by decide, ret_new (Ext.refl S) q⟩
def joinE (xs ys : List D) : D := addE (mulE (colE 0) (sumE (powL 1 3 0 xs))) (sumE (powL 1 3 xs.length ys))
def sp_joined_expression : SpD := fun ds S Q => ∃ a b xs ys, ds = [.ref a, .ref b, .int 0, .int 1, .int 3] ∧ S a = some (.lst xs) ∧ S b = some (.lst ys) ∧ xs.length < 1000 ∧ ys.length < 1000 ∧ Q (joinE xs ys) S
theorem vc_joined_expression : VC sp_joined_expression (F_joined_expression.ws (g_expression_by_powers := sp_expression_by_powers)) F_joined_expression.N 5 := by
  rintro ds S Q ⟨a, b, xs, ys, rfl, h1, h2, z1, z2, q⟩
  refine ⟨rfl, ?_⟩
  refine ⟨by decide, a, xs, 1, 0, 3, rfl, h1, by decide, by decide, by decide, by decide, by omega, ?_⟩
  refine ⟨(show 3 ≤ sizeLine by decide), xs, h1, b, ys, 1, xs.length, 3, rfl, h2, by decide, by decide, by decide, by decide, by omega, ?_⟩
  exact ⟨(show 3 ≤ sizeLine by decide), ret_here q⟩
abbrev sp_expression_degree : SpD := spDeg 100
def sp_message_size : SpD := fun ds S Q => ∃ e, ds = [e] ∧ okEx 100 e = true ∧ Q (.int ((if degD 100 e > 1 then degD 100 e else 1) + 1)) S
theorem vc_message_size : VC sp_message_size (F_message_size.ws (g_expression_degree := sp_expression_degree)) F_message_size.N 1 := by
  rintro ds S Q ⟨e, rfl, h, q⟩
  refine ⟨rfl, ?_⟩
  exact ⟨e, rfl, h, ret_here q⟩
def mszOf (d : Str) : Int := if d = "rows" then 5 else 4
def sp_domain_message_size : SpD := fun ds S Q => ∃ d, ds = [.str d] ∧ Dom d ∧ Q (.int (mszOf d)) S
def sumsOf (d : Str) : List D := (shareOf d).map fun x => match x with | .tup [_, y] => y | _ => .non
theorem size_ok (d : Str) (hd : Dom d) : okEx 100 (joinE (rulesOf d) (sumsOf d)) = true ∧ (if degD 100 (joinE (rulesOf d) (sumsOf d)) > 1 then degD 100 (joinE (rulesOf d) (sumsOf d)) else 1) + 1 = mszOf d := by
  rcases hd with rfl | rfl | rfl | rfl <;> decide +kernel
theorem len_ok (d : Str) (hd : Dom d) : (rulesOf d).length < 1000 ∧ (sumsOf d).length < 1000 ∧ (shareOf d).length < 1000 := by
  rcases hd with rfl | rfl | rfl | rfl <;> decide +kernel
theorem share_pairs (d : Str) : ∀ x ∈ shareOf d, ∃ i y, x = .tup [.int i, y] := by
  intro x hx
  unfold shareOf at hx
  split at hx
  · simp only [List.mem_cons, List.not_mem_nil, or_false] at hx
    rcases hx with rfl | rfl | rfl <;> exact ⟨_, _, rfl⟩
  · split at hx
    · simp only [List.mem_cons, List.not_mem_nil, or_false] at hx
      subst hx; exact ⟨_, _, rfl⟩
    · simp only [List.mem_cons, List.not_mem_nil, or_false] at hx
      subst hx; exact ⟨_, _, rfl⟩
theorem vc_domain_message_size : VC sp_domain_message_size (F_domain_message_size.ws (g_share_expressions := sp_share_expressions) (g_domain_rules := sp_domain_rules) (g_message_size := sp_message_size) (g_joined_expression := sp_joined_expression)) F_domain_message_size.N 1 := by
  rintro ds S Q ⟨d, rfl, hd, q⟩
  refine ⟨rfl, ?_⟩
  obtain ⟨l1, l2, l3⟩ := len_ok d hd
  have lz := line_ge
  refine ⟨d, rfl, hd, newE (Ext.refl S) fun p1 S1 x1 _ k1 => ⟨d, rfl, hd, newE x1 fun p2 S2 x2 y2 k2 => ?_⟩⟩
  refine val_lst k2 ?_
  refine comp_map (fun x => match x with | .tup [_, y] => y | _ => .non) (fun x S3 Q1 hm ex q1 => ?_) (fun S3 ex => ex _ _ k2) (by show 0 + (shareOf d).length ≤ sizeLine; omega) fun S3 x3 => newE (x2.trans x3) fun p3 S4 x4 y4 k4 => ?_
  · obtain ⟨i, y, rfl⟩ := share_pairs d x hm
    exact ⟨_, rfl, q1 S3 (Ext.refl _)⟩
  · refine ⟨p1, p3, rulesOf d, sumsOf d, rfl, (y2.trans (x3.trans y4)) _ _ k1, k4, l1, l2, ?_⟩
    refine ⟨_, rfl, (size_ok d hd).1, ?_⟩
    rw [(size_ok d hd).2]
    exact ret_ext x4 q
end K83

namespace K83
open PySem PySem.Spec PyProof.Rows L2 PD

/-! ### sizes of books, powers -/
def hi (b : Nat) : Nat := b / 2 - 3
def szOf (b : Nat) : Nat := 2 ^ (b - hi b)
def sp_book_high : SpD := fun ds S Q => ∃ b : Nat, ds = [.int (b : Nat)] ∧ b ≤ 11 ∧ Q (.int (hi b : Nat)) S
theorem up_to_11 {b : Nat} (h : b ≤ 11) : b = 0 ∨ b = 1 ∨ b = 2 ∨ b = 3 ∨ b = 4 ∨ b = 5 ∨ b = 6 ∨ b = 7 ∨ b = 8 ∨ b = 9 ∨ b = 10 ∨ b = 11 := by omega
theorem vc_book_high : VC sp_book_high (F_book_high.ws) F_book_high.N 1 := by
  rintro ds S Q ⟨b, rfl, hb, q⟩
  refine ⟨rfl, ?_⟩
  rcases up_to_11 hb with rfl | rfl | rfl | rfl | rfl | rfl | rfl | rfl | rfl | rfl | rfl | rfl
  all_goals exact ⟨by decide, ret_here q⟩
def sp_book_size : SpD := fun ds S Q => ∃ b : Nat, ds = [.int (b : Nat)] ∧ b ≤ 11 ∧ Q (.int (szOf b : Nat)) S
theorem shl_small {i : Int} {j : Nat} (h : i.natAbs < 2 ^ 64) (hj : j ≤ 64) : CShl i (j : Int) := shl_ok (n := 64) h (by omega)
theorem vc_book_size : VC sp_book_size (F_book_size.ws (g_book_high := sp_book_high)) F_book_size.N 1 := by
  rintro ds S Q ⟨b, rfl, hb, q⟩
  refine ⟨rfl, ?_⟩
  refine ⟨b, rfl, hb, ?_⟩
  rcases up_to_11 hb with rfl | rfl | rfl | rfl | rfl | rfl | rfl | rfl | rfl | rfl | rfl | rfl
  all_goals exact ⟨shl_small (i := 1) (j := _) (by decide) (by decide), ret_here q⟩
def sp_book_points : SpD := fun ds S Q => ∃ b : Nat, ds = [.int (b : Nat)] ∧ b ≤ 11 ∧ Q (.int (4 * (szOf b : Nat))) S
theorem sz_le {b : Nat} (h : b ≤ 11) : 1 ≤ szOf b ∧ szOf b ≤ 512 := by
  rcases up_to_11 h with rfl | rfl | rfl | rfl | rfl | rfl | rfl | rfl | rfl | rfl | rfl | rfl <;> decide
theorem vc_book_points : VC sp_book_points (F_book_points.ws (g_book_size := sp_book_size)) F_book_points.N 1 := by
  rintro ds S Q ⟨b, rfl, hb, q⟩
  refine ⟨rfl, ?_⟩
  have := sz_le hb
  exact ⟨b, rfl, hb, mulx (by decide) (by decide) (by omega) (by omega), ret_here q⟩
def sp_book_height : SpD := fun ds S Q => ∃ (m b : Nat), ds = [.int (m : Nat), .int (b : Nat)] ∧ b ≤ 11 ∧ m ≤ 64 ∧ Q (.int (m * (2 ^ hi b : Nat))) S
theorem vc_book_height : VC sp_book_height (F_book_height.ws (g_book_high := sp_book_high)) F_book_height.N 2 := by
  rintro ds S Q ⟨m, b, rfl, hb, hm, q⟩
  refine ⟨rfl, ?_⟩
  refine ⟨b, rfl, hb, ?_⟩
  have h2 : hi b ≤ 64 := by unfold hi; omega
  refine ⟨shl_small (by omega) h2, ret_here ?_⟩
  have e : (m : Int) * 2 ^ ((hi b : Nat) : Int).toNat = (m : Int) * ((2 ^ hi b : Nat) : Int) := by simp
  show Q (.int ((m : Int) * 2 ^ ((hi b : Nat) : Int).toNat)) S
  rw [e]; exact q
def sp_whole_power : SpD := fun ds S Q => ∃ (x : Int) (k : Nat), ds = [.int x, .int (k : Nat)] ∧ 0 ≤ x ∧ x < 2 ^ 700 ∧ k ≤ 32 ∧ Q (.int (x ^ k)) S
theorem pow_lt {x : Int} (h0 : 0 ≤ x) (h1 : x < 2 ^ 700) : ∀ i : Nat, 0 ≤ x ^ i ∧ (x ^ i).natAbs < 2 ^ (700 * i + 1)
  | 0 => by rw [Int.pow_zero]; exact ⟨by decide, by decide⟩
  | i + 1 => by
    obtain ⟨a, b⟩ := pow_lt h0 h1 i
    refine ⟨Int.pow_nonneg h0, ?_⟩
    rw [Int.pow_succ, Int.natAbs_mul]
    have hx : x.natAbs < 2 ^ 700 := by omega
    calc (x ^ i).natAbs * x.natAbs < 2 ^ (700 * i + 1) * 2 ^ 700 := Nat.mul_lt_mul'' b hx
      _ = 2 ^ (700 * (i + 1) + 1) := by rw [← Nat.pow_add]; congr 1
theorem vc_pow_of {ws : WS} {N : List Str} (hws : ws = wSeq (wAsg (wC (.int 1)) (.nm 2)) (wSeq (wFor (wRng1 (wVar 1)) (.nm 3) (wAsg (wBin oMul (wVar 2) (wVar 0)) (.nm 2))) (wRet (wVar 2)))) (hN : N.length = 4) : VC sp_whole_power ws N 2 := by
  rintro ds S Q ⟨x, k, rfl, h0, h1, hk, q⟩
  refine ⟨rfl, ?_⟩
  subst hws
  have e : startD N [.int x, .int (k : Nat)] = [some (.int x), some (.int (k : Nat)), none, none] := by unfold startD; rw [hN]; rfl
  rw [e]
  refine ⟨by omega, by omega, ?_⟩
  refine loop_of (fun i ρ S' => S' = S ∧ ∃ r, ρ = [some (.int x), some (.int (k : Nat)), some (.int (x ^ i)), r]) ⟨rfl, none, by rw [Int.pow_zero]; rfl⟩ ?_ ?_
  · rintro i d ρ S' hd ⟨rfl, r, rfl⟩
    have hi : i < (k : Int).toNat := by
      have := (List.getElem?_eq_some_iff.mp hd).1
      rw [rngD_len] at this; exact this
    refine ⟨_, rfl, ?_⟩
    refine ⟨mulx_ok (pow_lt h0 h1 i).2 (show x.natAbs < 2 ^ 700 by omega) (by omega), trivial, rfl, some d, ?_⟩
    rw [Int.pow_succ]; rfl
  · rintro ρ S' ⟨rfl, r, rfl⟩
    rw [rngD_len]
    exact ret_here q
theorem vc_whole_power : VC sp_whole_power (F_whole_power.ws) F_whole_power.N 2 := vc_pow_of rfl rfl
def sp__law_power : SpD := sp_whole_power
theorem vc__law_power : VC sp__law_power (F__law_power.ws) F__law_power.N 2 := vc_pow_of rfl rfl
def Prm (p : Int) : Prop := p = 1048583 ∨ p = 2147483647 ∨ p = 2147483629
theorem Prm.lt {p : Int} (h : Prm p) : 1048583 ≤ p ∧ p < 2 ^ 31 := by
  rcases h with rfl | rfl | rfl <;> decide
theorem lt700 {p : Int} (h : p < 2 ^ 31) : p < 2 ^ 700 := Int.lt_of_lt_of_le h (by decide)
def sp_most_vanishing : SpD := fun ds S Q => ∃ (b : Nat) (p : Int), ds = [.int (b : Nat), .int p] ∧ b ≤ 11 ∧ Prm p ∧ Q (.int (p ^ b - (p - 1) ^ b)) S
theorem vc_most_vanishing : VC sp_most_vanishing (F_most_vanishing.ws (g_whole_power := sp_whole_power)) F_most_vanishing.N 2 := by
  rintro ds S Q ⟨b, p, rfl, hb, hp, q⟩
  refine ⟨rfl, ?_⟩
  obtain ⟨p1, p2⟩ := hp.lt
  exact ⟨p, b, rfl, by omega, lt700 p2, by omega, p - 1, b, rfl, by omega, lt700 (by omega), by omega, ret_here q⟩
def sp_near_radius : SpD := fun ds S Q => ∃ d, ds = [d] ∧ Q d S
theorem vc_near_radius : VC sp_near_radius (F_near_radius.ws) F_near_radius.N 1 := by
  rintro ds S Q ⟨d, rfl, q⟩
  exact ⟨rfl, ret_here q⟩
def sp_sum_roots : SpD := fun ds S Q => ∃ s p : Int, ds = [.int s, .int p] ∧ s ≤ p ∧ Q (.int (s - 1)) S
theorem vc_sum_roots : VC sp_sum_roots (F_sum_roots.ws) F_sum_roots.N 2 := by
  rintro ds S Q ⟨s, p, rfl, h, q⟩
  refine ⟨rfl, ?_⟩
  show (ends Q).rt (.int ((if p < s then p else s) - 1)) S
  rw [if_neg (by omega)]
  exact ret_here q
def sp_greatest_sum_count : SpD := fun ds S Q => ∃ (b : Nat) (s p : Int), ds = [.int (b : Nat), .int s, .int p] ∧ b ≤ 11 ∧ Prm p ∧ 1 ≤ s ∧ s ≤ 5 ∧ Q (.int (p ^ b - (p - (s - 1)) ^ b)) S
theorem vc_greatest_sum_count : VC sp_greatest_sum_count (F_greatest_sum_count.ws (g_whole_power := sp_whole_power) (g_sum_roots := sp_sum_roots)) F_greatest_sum_count.N 3 := by
  rintro ds S Q ⟨b, s, p, rfl, hb, hp, h1, h2, q⟩
  refine ⟨rfl, ?_⟩
  obtain ⟨p1, p2⟩ := hp.lt
  exact ⟨p, b, rfl, by omega, lt700 p2, by omega, s, p, rfl, by omega, p - (s - 1), b, rfl, by omega, lt700 (by omega), by omega, ret_here q⟩
def bitsOf (d : Str) (n : Nat) : Nat := if d = "rows" then n else if d = "times" then n + 3 else 6
def Nn (n : Nat) : Prop := 1 ≤ n ∧ n ≤ 8
theorem bits_le {d : Str} {n : Nat} (h : Nn n) : bitsOf d n ≤ 11 := by
  obtain ⟨h1, h2⟩ := h
  unfold bitsOf
  split
  · omega
  · split <;> omega
def sp_domain_bits : SpD := fun ds S Q => ∃ (d : Str) (n : Nat), ds = [.str d, .int (n : Nat)] ∧ Dom d ∧ Q (.int (bitsOf d n : Nat)) S
theorem vc_domain_bits : VC sp_domain_bits (F_domain_bits.ws) F_domain_bits.N 2 := by
  rintro ds S Q ⟨d, n, rfl, hd, q⟩
  refine ⟨rfl, ?_⟩
  have go : newK S (.dK [((.inr "rows" : Key), .int (n : Nat)), (.inr "cells", .int 6), (.inr "code", .int 6), (.inr "times", .int ((n : Int) + 3))]) fun x S1 => oIdx x (.str d) S1 (ends Q).rt := by
    refine newE (Ext.refl S) fun p S1 x1 _ k1 => ?_
    unfold oIdx
    simp only [k1]
    rcases hd with rfl | rfl | rfl | rfl
    · exact ret_ext x1 q
    · exact ret_ext x1 q
    · exact ret_ext x1 q
    · have e : ((n : Int) + 3) = ((n + 3 : Nat) : Int) := by omega
      rw [e]; exact ret_ext x1 q
  exact go
end K83

namespace K83
open PySem PySem.Spec PyProof.Rows L2 PD

/-! ### weights of spots -/
def wts (pts : Nat) (p : Int) : List Int := (List.range pts).map fun i => (p - (i : Nat) + (pts : Nat) - 1) / (pts : Nat)
def srt (l : List Int) : List Int := l.mergeSort fun a b => decide (a ≤ b)
theorem srt_of {l l' : List Int} (h : l'.Perm l) (s : l'.Pairwise (· ≤ ·)) : l' = srt l := by
  refine List.Perm.eq_of_pairwise (le := fun a b : Int => a ≤ b) (fun a b _ _ h1 h2 => Int.le_antisymm h1 h2) s ?_ (h.trans (List.mergeSort_perm _ _).symm)
  have z := List.pairwise_mergeSort (le := fun a b : Int => decide (a ≤ b)) (fun a b c h1 h2 => by simp at *; omega) (fun a b => by simp; omega) l
  exact z.imp fun h => by simpa using h
theorem srt_len (l : List Int) : (srt l).length = l.length := (List.mergeSort_perm _ _).length_eq
def wrong (s : Nat) (p : Int) : Int := ((srt (wts (4 * s) p)).drop (s + 1)).sum
theorem wts_len (pts : Nat) (p : Int) : (wts pts p).length = pts := by unfold wts; simp
theorem cut_from {xs : List D} {k : Nat} (h : k ≤ xs.length) : PD.cutD xs (some (k : Int)) none = xs.drop k := by
  unfold PD.cutD
  have e : HT.sIx xs.length 0 (some (k : Int)) = k := by
    rw [HT.sIx_nat]; omega
  have e2 : HT.sIx xs.length xs.length none = xs.length := rfl
  rw [e, e2]
  exact List.take_of_length_le (by rw [List.length_drop]; exact Nat.le_refl _)
theorem divw {i j : Int} (h : 0 < j) (h2 : j < 2 ^ 64) : CDivW i j := by
  refine ⟨h, ?_⟩
  have : j.natAbs.log2 < 64 := by
    rw [Nat.log2_lt (by omega)]
    omega
  omega
def sp_spot_weights : SpD := fun ds S Q => ∃ (pts : Nat) (p : Int), ds = [.int (pts : Nat), .int p] ∧ 1 ≤ pts ∧ pts ≤ 2048 ∧ newK S (.lst ((wts pts p).map D.int)) Q
theorem vc_spot_weights : VC sp_spot_weights (F_spot_weights.ws) F_spot_weights.N 2 := by
  rintro ds S Q ⟨pts, p, rfl, h1, h2, q⟩
  refine ⟨rfl, ?_⟩
  have lz := line_ge
  refine ⟨by omega, by omega, ?_⟩
  have e : (wts pts p).map D.int = (rngD 0 1 pts).map fun d => match d with | .int i => .int ((p - i + (pts : Nat) - 1) / (pts : Nat)) | d => d := by
    unfold wts rngD
    rw [List.map_map, List.map_map]
    refine List.map_congr_left fun i _ => ?_
    show D.int ((p - (i : Int) + pts - 1) / pts) = D.int ((p - (0 + i * 1) + pts - 1) / pts)
    rw [Int.zero_add, Int.mul_one]
  refine comp_map (fun d => match d with | .int i => .int ((p - i + (pts : Nat) - 1) / (pts : Nat)) | d => d) (fun d S1 Q1 hm ex q1 => ?_) (fun _ _ => trivial) (by rw [List.length_nil]; show 0 + (rngD 0 1 (pts : Int).toNat).length ≤ sizeLine; rw [rngD_len]; omega) fun S1 x1 => ret_new x1 ?_
  · obtain ⟨j, hj⟩ := List.getElem?_of_mem hm
    obtain ⟨_, rfl⟩ := rngD_get hj
    exact ⟨_, rfl, divw (by omega) (by omega), q1 S1 (Ext.refl _)⟩
  · show newK S (.lst ((rngD 0 1 (pts : Int).toNat).map _)) Q
    rw [Int.toNat_natCast, ← e]
    exact q
def sp_most_wrong_weight : SpD := fun ds S Q => ∃ (s : Nat) (p : Int), ds = [.int (s : Nat), .int p] ∧ 1 ≤ s ∧ s ≤ 512 ∧ Q (.int (wrong s p)) S
theorem vc_most_wrong_weight : VC sp_most_wrong_weight (F_most_wrong_weight.ws (g_spot_weights := sp_spot_weights) (g_near_radius := sp_near_radius)) F_most_wrong_weight.N 2 := by
  rintro ds S Q ⟨s, p, rfl, h1, h2, q⟩
  refine ⟨rfl, ?_⟩
  refine ⟨mulx (by decide) (by decide) (by omega) (by omega), 4 * s, p, ?_, by omega, by omega, newE (Ext.refl S) fun p1 S1 x1 _ k1 => ⟨_, k1, fun ns' hp hs => newE x1 fun p2 S2 x2 _ k2 => ?_⟩⟩
  · show [D.int (4 * (s : Int)), D.int p] = [D.int ((4 * s : Nat) : Int), D.int p]
    rw [Int.natCast_mul]; rfl
  · have e := srt_of hp hs
    subst e
    refine ⟨_, rfl, _, k2, newE x2 fun p3 S3 x3 _ k3 => ⟨(srt (wts (4 * s) p)).drop (s + 1), ?_, ret_ext x3 q⟩⟩
    have e2 : ((s : Int) + 1) = ((s + 1 : Nat) : Int) := by omega
    show S3 p3 = _
    rw [k3, e2, cut_from (by rw [List.length_map, srt_len, wts_len]; omega), List.map_drop]
theorem wts_law (pts : Nat) (h : 1 ≤ pts) (p : Int) (i : Nat) (hi : i < pts) : p / (pts : Nat) + (if (i : Int) < p - p / (pts : Nat) * (pts : Nat) then 1 else 0) = (p - (i : Nat) + (pts : Nat) - 1) / (pts : Nat) := by
  have hp : (0 : Int) < (pts : Int) := by omega
  have e := Int.mul_ediv_add_emod p (pts : Int)
  have r0 := Int.emod_nonneg p (show (pts : Int) ≠ 0 by omega)
  have r1 := Int.emod_lt_of_pos p hp
  have e1 : p - p / (pts : Int) * (pts : Int) = p % (pts : Int) := by rw [Int.mul_comm]; omega
  rw [e1]
  have e2 : p - (i : Int) + (pts : Int) - 1 = (p % (pts : Int) - i + pts - 1) + (pts : Int) * (p / (pts : Int)) := by omega
  rw [e2, Int.add_mul_ediv_left _ _ (by omega)]
  split
  · rename_i h3
    have e3 : (p % (pts : Int) - i + pts - 1) / (pts : Int) = 1 := by
      have e4 : p % (pts : Int) - i + pts - 1 = (p % (pts : Int) - i - 1) + (pts : Int) * 1 := by omega
      rw [e4, Int.add_mul_ediv_left _ _ (by omega), Int.ediv_eq_zero_of_lt (by omega) (by omega)]; rfl
    rw [e3]; omega
  · rename_i h3
    have e5 : (p % (pts : Int) - i + pts - 1) / (pts : Int) = 0 := Int.ediv_eq_zero_of_lt (by omega) (by omega)
    rw [e5]; omega
def sp__law_spots : SpD := fun ds S Q => ∃ (s : Nat) (p : Int), ds = [.int (s : Nat), .int p] ∧ 1 ≤ s ∧ s ≤ 512 ∧ 0 ≤ p ∧ p < 2 ^ 60 ∧ Q (.int (wrong s p)) S
theorem vc__law_spots : VC sp__law_spots (F__law_spots.ws) F__law_spots.N 2 := by
  rintro ds S Q ⟨s, p, rfl, h1, h2, h3, h4, q⟩
  refine ⟨rfl, ?_⟩
  have lz := line_ge
  refine ⟨mulx (by decide) (by decide) (by omega) (by omega), ?_⟩
  have ep : (4 * (s : Int)) = ((4 * s : Nat) : Int) := by rw [Int.natCast_mul]; rfl
  refine ⟨by omega, by omega, ?_⟩
  have hs : (4 * (s : Int)).toNat = 4 * s := by omega
  have hd : CDivW p (4 * (s : Int)) := divw (by omega) (by omega)
  have hm : CMulX (p / (4 * (s : Int))) (4 * (s : Int)) := by
    have b1 : 0 ≤ p / (4 * (s : Int)) := Int.ediv_nonneg h3 (by omega)
    have b2 : p / (4 * (s : Int)) ≤ p := Int.ediv_le_self _ h3
    exact mulx b1 (by omega) (by omega) (by omega)
  have e : (wts (4 * s) p).map D.int = (rngD 0 1 (4 * (s : Int)).toNat).map fun d => match d with | .int i => .int (p / (4 * (s : Int)) + (if i < p - p / (4 * (s : Int)) * (4 * (s : Int)) then 1 else 0)) | d => d := by
    rw [hs]
    unfold wts rngD
    rw [List.map_map, List.map_map]
    refine List.map_congr_left fun i hi => ?_
    have z := wts_law (4 * s) (by omega) p i (by simpa using hi)
    rw [← ep] at z
    show D.int ((p - (i : Int) + ((4 * s : Nat) : Int) - 1) / ((4 * s : Nat) : Int)) = D.int (p / (4 * (s : Int)) + (if (0 + (i : Int) * 1) < p - p / (4 * (s : Int)) * (4 * (s : Int)) then 1 else 0))
    rw [Int.zero_add, Int.mul_one, ← ep, z]
  refine comp_map (fun d => match d with | .int i => .int (p / (4 * (s : Int)) + (if i < p - p / (4 * (s : Int)) * (4 * (s : Int)) then 1 else 0)) | d => d) (fun d S1 Q1 hmm ex q1 => ?_) (fun _ _ => trivial)
    (by rw [List.length_nil]; show 0 + (rngD 0 1 (4 * (s : Int)).toNat).length ≤ sizeLine; rw [rngD_len]; omega) fun S1 x1 => newE x1 fun p1 S1 x1 _ k1 => ?_
  · obtain ⟨j, hj⟩ := List.getElem?_of_mem hmm
    obtain ⟨_, rfl⟩ := rngD_get hj
    refine ⟨_, rfl, hd, hd, hm, ?_⟩
    show if (decide ((0 + (j : Int) * 1) < p - p / (4 * (s : Int)) * (4 * (s : Int)))) = true then Q1 (.int (p / (4 * (s : Int)) + 1)) S1 else Q1 (.int (p / (4 * (s : Int)) + 0)) S1
    have q2 := q1 S1 (Ext.refl _)
    dsimp only at q2
    by_cases h : (0 + (j : Int) * 1) < p - p / (4 * (s : Int)) * (4 * (s : Int))
    · rw [if_pos h] at q2
      rw [if_pos (decide_eq_true h)]; exact q2
    · rw [if_neg h] at q2
      rw [if_neg (by simpa using h)]; exact q2
  · have k1 : S1 p1 = some (.lst ((wts (4 * s) p).map D.int)) := by rw [k1, e]; rfl
    refine ⟨_, k1, fun ns' hp hs' => newE x1 fun p2 S2 x2 _ k2 => ?_⟩
    have es := srt_of hp hs'
    subst es
    refine ⟨_, k2, newE x2 fun p3 S3 x3 _ k3 => ⟨(srt (wts (4 * s) p)).drop (s + 1), ?_, ret_ext x3 q⟩⟩
    have e2 : ((s : Int) + 1) = ((s + 1 : Nat) : Int) := by omega
    show S3 p3 = _
    rw [k3, e2, cut_from (by rw [List.length_map, srt_len, wts_len]; omega), List.map_drop]
end K83

namespace K83
open PySem PySem.Spec PyProof.Rows L2 PD

/-! ### two fors, each element by itself -/
theorem comp2_map {ok : Sto → Prop} {t t1 : Tg} {wi1 : WI} {te : WE} {vs1 : List Nat} {ρ : PD.Env} {Q : List D → Sto → Prop} (es : List D) (f : D → D → D) : ∀ {ds acc : List D} {S : Sto},
    (∀ d S1, d ∈ ds → Ext S S1 → ∃ ρ1, asg S1 t d ρ = some ρ1 ∧ (∀ R : ItD → Sto → Prop, R ⟨es, fun _ => True⟩ S1 → wi1 ρ1 S1 R) ∧ ∀ e S2 (Q1 : KD), e ∈ es → Ext S1 S2 → (∀ S3, Ext S2 S3 → Q1 (f d e) S3) → ∃ ρ2, asg S2 t1 e (wipeD ρ1 vs1) = some ρ2 ∧ te ρ2 S2 Q1) →
    (∀ S1, Ext S S1 → ok S1) → acc.length + ds.length * es.length ≤ sizeLine → (∀ S1, Ext S S1 → Q (acc ++ ds.flatMap fun d => es.map (f d)) S1) → compD2 ok t wYes wi1 t1 wYes te vs1 ρ ds acc S Q
  | [], acc, S, _, _, _, q => by
    have z := q S (Ext.refl S)
    rw [List.flatMap_nil, List.append_nil] at z
    exact z
  | d :: ds, acc, S, h, hok, hz, q => by
    obtain ⟨ρ1, h1, h2, h3⟩ := h d S List.mem_cons_self (Ext.refl S)
    have hz2 : (d :: ds).length * es.length = ds.length * es.length + es.length := by rw [List.length_cons, Nat.succ_mul]
    refine ⟨ρ1, h1, fun acc' S' => Ext S S' ∧ acc' = acc ++ es.map (f d), ?_, ?_⟩
    · rintro acc' S' ⟨x, rfl⟩
      refine ⟨hok S' x, comp2_map es f (fun d' S1 hd ex => h d' S1 (List.mem_cons_of_mem _ hd) (x.trans ex)) (fun S1 ex => hok S1 (x.trans ex)) ?_ fun S1 ex => ?_⟩
      · rw [List.length_append, List.length_map]; omega
      · have z := q S1 (x.trans ex)
        rw [List.flatMap_cons] at z
        rw [List.append_assoc]; exact z
    · refine h2 _ ?_
      exact PD.comp_map (f d) h3 (fun _ _ => trivial) (show acc.length + es.length ≤ sizeLine by omega) fun S1 ex => ⟨ex, rfl⟩
def nmD (d t : Str) : D := .tup [.str d, .str t]
def domsS : List Str := ["rows", "cells", "code", "times"]
def tellS : List Str := ["first", "second"]
def namesL : List (Str × Str) := [("rows", "first"), ("cells", "first"), ("code", "first"), ("times", "first"), ("rows", "second"), ("cells", "second"), ("code", "second"), ("times", "second")]
def namesD : List D := namesL.map fun q => nmD q.1 q.2
def Tl (t : Str) : Prop := t = "first" ∨ t = "second"
theorem dom_of {d : Str} (h : d ∈ domsS) : Dom d := by
  have z : d = "rows" ∨ d = "cells" ∨ d = "code" ∨ d = "times" := by simpa [domsS] using h
  exact z
def pairD : D → D → D
  | .str t, .str d => nmD d t
  | d, _ => d
def sp_book_names : SpD := fun ds S Q => ds = [] ∧ Q (.tup namesD) S
theorem vc_book_names : VC sp_book_names (F_book_names.ws) F_book_names.N 0 := by
  rintro ds S Q ⟨rfl, q⟩
  refine ⟨rfl, ?_⟩
  refine comp2_map (domsS.map D.str) pairD (fun d S1 hd ex => ?_) (fun _ _ => trivial) (by decide) fun S1 x1 => newE x1 fun p1 S1 x1 _ k1 => ⟨_, k1, ret_ext x1 q⟩
  have hd : d = .str "first" ∨ d = .str "second" := by simpa using hd
  rcases hd with rfl | rfl
  all_goals
    refine ⟨_, rfl, fun R r => r, fun e S2 Q1 he ex q1 => ?_⟩
    have he : e = .str "rows" ∨ e = .str "cells" ∨ e = .str "code" ∨ e = .str "times" := by simpa [domsS] using he
    rcases he with rfl | rfl | rfl | rfl <;> exact ⟨_, rfl, (show 2 ≤ sizeLine by decide), q1 S2 (Ext.refl _)⟩
def manyN (d t : Str) : Nat := if t = "first" then (if d = "rows" then 30 else if d = "cells" then 2 else 1) else (if d = "rows" then 16 else if d = "cells" then 2 else 1)
def sp_book_many : SpD := fun ds S Q => ∃ d t, ds = [nmD d t] ∧ Dom d ∧ Tl t ∧ Q (.int (manyN d t : Nat)) S
theorem vc_book_many : VC sp_book_many (F_book_many.ws) F_book_many.N 1 := by
  rintro ds S Q ⟨d, t, rfl, hd, ht, q⟩
  refine ⟨rfl, ?_⟩
  rcases hd with rfl | rfl | rfl | rfl <;> rcases ht with rfl | rfl <;> exact ret_here q
theorem many_le {d t : Str} (hd : Dom d) (ht : Tl t) : 1 ≤ manyN d t ∧ manyN d t ≤ 30 := by
  rcases hd with rfl | rfl | rfl | rfl <;> rcases ht with rfl | rfl <;> decide
def rowsOf (d t : Str) (n : Nat) : Int := (manyN d t : Nat) * (2 ^ hi (bitsOf d n) : Nat)
def sp_book_rows : SpD := fun ds S Q => ∃ d t n, ds = [nmD d t, .int (n : Nat)] ∧ Dom d ∧ Tl t ∧ Nn n ∧ Q (.int (rowsOf d t n)) S
theorem vc_book_rows : VC sp_book_rows (F_book_rows.ws (g_book_height := sp_book_height) (g_domain_bits := sp_domain_bits) (g_book_many := sp_book_many)) F_book_rows.N 2 := by
  rintro ds S Q ⟨d, t, n, rfl, hd, ht, hn, q⟩
  refine ⟨rfl, ?_⟩
  have := many_le hd ht
  exact ⟨d, t, rfl, hd, ht, d, n, rfl, hd, manyN d t, bitsOf d n, rfl, bits_le hn, by omega, ret_here q⟩
def readsOf (d t : Str) (n : Nat) : Int := 2 * (szOf (bitsOf d n) : Nat) + 20 * (rowsOf d t n + ((Builtin.Int.intBits (4 * (szOf (bitsOf d n) : Nat)) : Nat) - 1))
def sp_book_reads : SpD := fun ds S Q => ∃ d t n, ds = [nmD d t, .int (n : Nat)] ∧ Dom d ∧ Tl t ∧ Nn n ∧ Q (.int (readsOf d t n)) S
theorem hi_le {b : Nat} (h : b ≤ 11) : 2 ^ hi b ≤ 4 := by
  rcases up_to_11 h with rfl | rfl | rfl | rfl | rfl | rfl | rfl | rfl | rfl | rfl | rfl | rfl <;> decide
theorem rows_le {d t : Str} {n : Nat} (hd : Dom d) (ht : Tl t) (hn : Nn n) : 0 ≤ rowsOf d t n ∧ rowsOf d t n ≤ 120 := by
  have h1 := many_le hd ht
  have h2 := hi_le (bits_le (d := d) hn)
  unfold rowsOf
  have h3 : manyN d t * 2 ^ hi (bitsOf d n) ≤ 30 * 4 := Nat.mul_le_mul h1.2 h2
  have e : ((manyN d t : Nat) : Int) * ((2 ^ hi (bitsOf d n) : Nat) : Int) = ((manyN d t * 2 ^ hi (bitsOf d n) : Nat) : Int) := by rw [Int.natCast_mul]
  rw [e]; omega
theorem path_le {b : Nat} (h : b ≤ 11) : (Builtin.Int.intBits (4 * (szOf b : Nat)) : Nat) ≤ 12 := PyProof.Rows.intBits_le (by have := sz_le h; omega)
theorem mulz {a b : Int} (h1 : a.natAbs < 2 ^ 64) (h2 : b.natAbs < 2 ^ 64) : CMulX a b := mulx_ok h1 h2 (by decide)
theorem vc_book_reads : VC sp_book_reads (F_book_reads.ws (g_domain_bits := sp_domain_bits) (g_book_points := sp_book_points) (g_book_size := sp_book_size) (g_book_rows := sp_book_rows)) F_book_reads.N 2 := by
  rintro ds S Q ⟨d, t, n, rfl, hd, ht, hn, q⟩
  refine ⟨rfl, ?_⟩
  have hb := bits_le (d := d) hn
  have h1 := sz_le hb
  have h2 := rows_le hd ht hn
  have h3 := path_le hb
  refine ⟨d, n, rfl, hd, bitsOf d n, rfl, hb, ?_⟩
  refine ⟨bitsOf d n, rfl, hb, mulz (by decide) (by omega), d, t, n, rfl, hd, ht, hn, mulz (by decide) (show (rowsOf d t n + ((Builtin.Int.intBits (4 * (szOf (bitsOf d n) : Nat)) : Nat) - 1)).natAbs < 2 ^ 64 by omega), ret_here q⟩
def dreads (d : Str) (n : Nat) : Int := (bitsOf d n : Nat) * mszOf d + (firstMany d + secondMany d)
def sp_domain_reads : SpD := fun ds S Q => ∃ d n, ds = [.str d, .int (n : Nat)] ∧ Dom d ∧ Nn n ∧ Q (.int (dreads d n)) S
theorem vc_domain_reads : VC sp_domain_reads (F_domain_reads.ws (g_domain_bits := sp_domain_bits) (g_domain_message_size := sp_domain_message_size) (g_told_many := sp_told_many)) F_domain_reads.N 2 := by
  rintro ds S Q ⟨d, n, rfl, hd, hn, q⟩
  refine ⟨rfl, ?_⟩
  have hb := bits_le (d := d) hn
  have hm : (mszOf d).natAbs < 2 ^ 64 := by unfold mszOf; split <;> decide
  exact ⟨d, n, rfl, hd, d, rfl, hd, mulz (by omega) hm, d, rfl, hd, ret_here q⟩
def sp_run_numbers : SpD := fun ds S Q => ∃ n, ds = [.int (n : Nat)] ∧ Nn n ∧ Q (.int (30 * (2 ^ n : Nat) + 192)) S
theorem up_to_8 {n : Nat} (h : Nn n) : n = 1 ∨ n = 2 ∨ n = 3 ∨ n = 4 ∨ n = 5 ∨ n = 6 ∨ n = 7 ∨ n = 8 := by
  obtain ⟨h1, h2⟩ := h; omega
theorem vc_run_numbers : VC sp_run_numbers (F_run_numbers.ws) F_run_numbers.N 1 := by
  rintro ds S Q ⟨n, rfl, hn, q⟩
  refine ⟨rfl, ?_⟩
  rcases up_to_8 hn with rfl | rfl | rfl | rfl | rfl | rfl | rfl | rfl
  all_goals exact ⟨shl_small (i := 1) (j := _) (by decide) (by decide), mulz (by decide) (by decide), mulz (by decide) (by decide), ret_here q⟩
def rdL (n : Nat) : List Int := namesL.map fun q => readsOf q.1 q.2 n
def drL (n : Nat) : List Int := domsS.map fun d => dreads d n
def treads (n : Nat) : Int := 12 + (drL n).sum + (rdL n).sum
theorem rdL_eq (n : Nat) : (namesD.map fun x => match x with | .tup [.str d, .str t] => D.int (readsOf d t n) | x => x) = (rdL n).map D.int := by
  unfold namesD rdL
  rw [List.map_map, List.map_map]
  rfl
theorem drL_eq (n : Nat) : ((domsS.map D.str).map fun x => match x with | .str d => D.int (dreads d n) | x => x) = (drL n).map D.int := by
  unfold drL
  rw [List.map_map, List.map_map]
  rfl
def sp_talk_reads : SpD := fun ds S Q => ∃ n, ds = [.int (n : Nat)] ∧ Nn n ∧ Q (.int (treads n)) S
theorem vc_talk_reads : VC sp_talk_reads (F_talk_reads.ws (g_domain_reads := sp_domain_reads) (g_book_names := sp_book_names) (g_book_reads := sp_book_reads)) F_talk_reads.N 1 := by
  rintro ds S Q ⟨n, rfl, hn, q⟩
  refine ⟨rfl, ?_⟩
  refine comp_map (fun x => match x with | .str d => .int (dreads d n) | x => x) (fun x S1 Q1 hm ex q1 => ?_) (fun _ _ => trivial) (by decide) fun S1 x1 => newE x1 fun p1 S1 x1 _ k1 => ⟨drL n, k1.trans (congrArg (fun l => some (O.lst l)) (drL_eq n)), ?_⟩
  · have hm : x = .str "rows" ∨ x = .str "cells" ∨ x = .str "code" ∨ x = .str "times" := by simpa using hm
    rcases hm with rfl | rfl | rfl | rfl
    · exact ⟨_, rfl, _, n, rfl, .inl rfl, hn, q1 S1 (Ext.refl _)⟩
    · exact ⟨_, rfl, _, n, rfl, .inr (.inl rfl), hn, q1 S1 (Ext.refl _)⟩
    · exact ⟨_, rfl, _, n, rfl, .inr (.inr (.inl rfl)), hn, q1 S1 (Ext.refl _)⟩
    · exact ⟨_, rfl, _, n, rfl, .inr (.inr (.inr rfl)), hn, q1 S1 (Ext.refl _)⟩
  · refine ⟨rfl, PD.comp_map (fun x => match x with | .tup [.str d, .str t] => .int (readsOf d t n) | x => x) (fun x S2 Q1 hm ex q1 => ?_) (fun _ _ => trivial) (by decide) fun S2 x2 => newE (x1.trans x2) fun p2 S3 x3 _ k3 => ⟨rdL n, k3.trans (congrArg (fun l => some (O.lst l)) (rdL_eq n)), ret_ext x3 q⟩⟩
    have hm : x ∈ namesD := hm
    have hm : ∃ d t, Dom d ∧ Tl t ∧ x = nmD d t := by
      simp only [namesD, namesL, List.map_cons, List.map_nil, List.mem_cons, List.not_mem_nil, or_false] at hm
      rcases hm with rfl | rfl | rfl | rfl | rfl | rfl | rfl | rfl
      · exact ⟨_, _, .inl rfl, .inl rfl, rfl⟩
      · exact ⟨_, _, .inr (.inl rfl), .inl rfl, rfl⟩
      · exact ⟨_, _, .inr (.inr (.inl rfl)), .inl rfl, rfl⟩
      · exact ⟨_, _, .inr (.inr (.inr rfl)), .inl rfl, rfl⟩
      · exact ⟨_, _, .inl rfl, .inr rfl, rfl⟩
      · exact ⟨_, _, .inr (.inl rfl), .inr rfl, rfl⟩
      · exact ⟨_, _, .inr (.inr (.inl rfl)), .inr rfl, rfl⟩
      · exact ⟨_, _, .inr (.inr (.inr rfl)), .inr rfl, rfl⟩
    obtain ⟨d, t, hd, ht, rfl⟩ := hm
    exact ⟨_, rfl, d, t, n, rfl, hd, ht, hn, q1 S2 (Ext.refl _)⟩
def sp__law_size : SpD := fun ds S Q => ∃ b : Nat, ds = [.int (b : Nat)] ∧ b ≤ 11 ∧ Q (.tup [.int (2 ^ hi b : Nat), .int (szOf b : Nat)]) S
theorem vc__law_size : VC sp__law_size (F__law_size.ws) F__law_size.N 1 := by
  rintro ds S Q ⟨b, rfl, hb, q⟩
  refine ⟨rfl, ?_⟩
  rcases up_to_11 hb with rfl | rfl | rfl | rfl | rfl | rfl | rfl | rfl | rfl | rfl | rfl | rfl
  all_goals exact ⟨divw (by decide) (by decide), shl_small (i := 1) (j := _) (by decide) (by decide), shl_small (i := 1) (j := _) (by decide) (by decide), (show 2 ≤ sizeLine by decide), ret_here q⟩
def domRow (d : Str) (n : Nat) (r s m f g : Int) : D := .tup [.str d, .int (bitsOf d n : Nat), .int r, .int s, .int m, .int f, .int g]
def domRows (n : Nat) : List D := [domRow "rows" n 23 3 5 30 16, domRow "cells" n 3 1 4 2 2, domRow "code" n 1 1 4 1 1, domRow "times" n 1 1 4 1 1]
def sp__law_domains : SpD := fun ds S Q => ∃ n, ds = [.int (n : Nat)] ∧ newK S (.lst (domRows n)) Q
theorem vc__law_domains : VC sp__law_domains (F__law_domains.ws) F__law_domains.N 1 := by
  rintro ds S Q ⟨n, rfl, q⟩
  refine ⟨rfl, ?_⟩
  refine ⟨(show 7 ≤ sizeLine by decide), (show 7 ≤ sizeLine by decide), (show 2 ≤ sizeLine by decide), newE (Ext.refl S) fun p1 S1 x1 _ k1 => ?_⟩
  refine ⟨(show 7 ≤ sizeLine by decide), (show 7 ≤ sizeLine by decide), (show 2 ≤ sizeLine by decide), newE x1 fun p2 S2 x2 y2 k2 => ?_⟩
  exact ⟨_, _, y2 _ _ k1, k2, (show 2 + 2 ≤ sizeLine by decide), ret_new x2 q⟩
end K83

namespace K83
open PySem PySem.Spec PyProof.Rows L2 PD

theorem sum_bound {B : Int} : ∀ {l : List Int}, (∀ x ∈ l, 0 ≤ x ∧ x ≤ B) → 0 ≤ l.sum ∧ l.sum ≤ l.length * B
  | [], _ => ⟨by simp, by simp⟩
  | x :: l, h => by
    obtain ⟨a, b⟩ := sum_bound fun y hy => h y (List.mem_cons_of_mem _ hy)
    obtain ⟨c, d⟩ := h x List.mem_cons_self
    rw [List.sum_cons, List.length_cons]
    refine ⟨by omega, ?_⟩
    have e : ((l.length + 1 : Nat) : Int) * B = l.length * B + B := by rw [Int.natCast_add, Int.add_mul]; simp
    rw [e]; omega
theorem wts_bound {pts : Nat} (h : 1 ≤ pts) {p : Int} (hp : (pts : Int) ≤ p) : ∀ x ∈ wts pts p, 0 ≤ x ∧ x ≤ p / (pts : Nat) + 1 := by
  intro x hx
  unfold wts at hx
  obtain ⟨i, hi, rfl⟩ := List.mem_map.mp hx
  have hi : i < pts := by simpa using hi
  rw [← wts_law pts h p i hi]
  have := Int.ediv_nonneg (show 0 ≤ p by omega) (show (0 : Int) ≤ pts by omega)
  split <;> omega
theorem wrong_bound {s : Nat} (h : 1 ≤ s) {p : Int} (hp : ((4 * s : Nat) : Int) ≤ p) : 0 ≤ wrong s p ∧ wrong s p ≤ (3 * s : Nat) * (p / ((4 * s : Nat) : Int) + 1) := by
  unfold wrong
  have hb := wts_bound (show 1 ≤ 4 * s by omega) hp
  have hm : ∀ x ∈ (srt (wts (4 * s) p)).drop (s + 1), 0 ≤ x ∧ x ≤ p / ((4 * s : Nat) : Int) + 1 := fun x hx => hb x ((List.mergeSort_perm _ _).mem_iff.mp (List.mem_of_mem_drop hx))
  obtain ⟨a, b⟩ := sum_bound hm
  refine ⟨a, Int.le_trans b ?_⟩
  have l : ((srt (wts (4 * s) p)).drop (s + 1)).length ≤ 3 * s := by rw [List.length_drop, srt_len, wts_len]; omega
  exact Int.mul_le_mul_of_nonneg_right (by omega) (by have := Int.ediv_nonneg (show 0 ≤ p by omega) (show (0 : Int) ≤ ((4 * s : Nat) : Int) by omega); omega)
theorem wrong_lt {s : Nat} (h : 1 ≤ s) (h2 : s ≤ 512) {p : Int} (hp : Prm p) : 0 ≤ wrong s p ∧ wrong s p < 2 ^ 60 := by
  obtain ⟨p1, p2⟩ := hp.lt
  obtain ⟨a, b⟩ := wrong_bound h (p := p) (by omega)
  refine ⟨a, Int.lt_of_le_of_lt b ?_⟩
  have c : p / ((4 * s : Nat) : Int) ≤ p := Int.ediv_le_self _ (by omega)
  have d : ((3 * s : Nat) : Int) * (p / ((4 * s : Nat) : Int) + 1) ≤ 1536 * (p / ((4 * s : Nat) : Int) + 1) := Int.mul_le_mul_of_nonneg_right (by omega) (by have := Int.ediv_nonneg (show 0 ≤ p by omega) (show (0 : Int) ≤ ((4 * s : Nat) : Int) by omega); omega)
  omega
/-! ### parts of a talk -/
def ruleN (d : Str) : Nat := (rulesOf d).length + (shareOf d).length
def partD (l : List D) (a b : Int) : D := .tup [.tup l, .int a, .int b]
def partsD (n : Nat) (p : Int) (d : Str) : List D :=
  [partD [.str "alpha", .str d] (ruleN d - 1) p, partD [.str "zero", .str d] (p ^ bitsOf d n - (p - 1) ^ bitsOf d n) (p ^ bitsOf d n), partD [.str "rounds", .str d] (p ^ bitsOf d n - (p - (mszOf d - 1)) ^ bitsOf d n) (p ^ bitsOf d n)]
def partsN (n : Nat) (p : Int) (q : Str × Str) : List D :=
  [partD [.str "eta", .str q.1, .str q.2] ((manyN q.1 q.2 : Nat) - 1) p, partD [.str "far", .str q.1, .str q.2] ((szOf (bitsOf q.1 n) : Nat) + 1) p, partD [.str "spots", .str q.1, .str q.2] (wrong (szOf (bitsOf q.1 n)) p ^ 20) (p ^ 20)]
def partsL (n : Nat) (p : Int) : List D := domsS.flatMap (partsD n p) ++ namesL.flatMap (partsN n p)
def sp_talk_parts : SpD := fun ds S Q => ∃ (n : Nat) (p : Int), ds = [.int (n : Nat), .int p] ∧ Nn n ∧ Prm p ∧ newK S (.lst (partsL n p)) Q
theorem flat_take {α β : Type} {l : List α} {f : α → List β} {i : Nat} {x : α} (h : l[i]? = some x) : (l.take (i + 1)).flatMap f = (l.take i).flatMap f ++ f x := by
  rw [take_next h, List.flatMap_append]
  simp
theorem pD_len (n : Nat) (p : Int) : ∀ l : List Str, (l.flatMap (partsD n p)).length = 3 * l.length
  | [] => rfl
  | d :: l => by rw [List.flatMap_cons, List.length_append, pD_len n p l, List.length_cons]; show 3 + _ = _; omega
theorem pN_len (n : Nat) (p : Int) : ∀ l : List (Str × Str), (l.flatMap (partsN n p)).length = 3 * l.length
  | [] => rfl
  | d :: l => by rw [List.flatMap_cons, List.length_append, pN_len n p l, List.length_cons]; show 3 + _ = _; omega
theorem msz_le (d : Str) : 1 ≤ mszOf d ∧ mszOf d ≤ 5 := by unfold mszOf; split <;> decide
theorem put3 {S : Sto} {a : Addr} {x y z : O} : put (put (put S a x) a y) a z = put S a z := by rw [put_put, put_put]
theorem name_ok {i : Nat} {d : D} (h : namesD[i]? = some d) : ∃ q, namesL[i]? = some q ∧ d = nmD q.1 q.2 ∧ Dom q.1 ∧ Tl q.2 := by
  unfold namesD at h
  rw [List.getElem?_map] at h
  cases e : namesL[i]? with
  | none => rw [e] at h; cases h
  | some q =>
    rw [e] at h; cases h
    refine ⟨q, rfl, rfl, ?_⟩
    have hm := List.mem_of_getElem? e
    simp only [namesL, List.mem_cons, List.not_mem_nil, or_false] at hm
    rcases hm with rfl | rfl | rfl | rfl | rfl | rfl | rfl | rfl
    · exact ⟨.inl rfl, .inl rfl⟩
    · exact ⟨.inr (.inl rfl), .inl rfl⟩
    · exact ⟨.inr (.inr (.inl rfl)), .inl rfl⟩
    · exact ⟨.inr (.inr (.inr rfl)), .inl rfl⟩
    · exact ⟨.inl rfl, .inr rfl⟩
    · exact ⟨.inr (.inl rfl), .inr rfl⟩
    · exact ⟨.inr (.inr (.inl rfl)), .inr rfl⟩
    · exact ⟨.inr (.inr (.inr rfl)), .inr rfl⟩
theorem vc_talk_parts : VC sp_talk_parts (F_talk_parts.ws (g_domain_message_size := sp_domain_message_size) (g_domain_bits := sp_domain_bits) (g_domain_rules := sp_domain_rules) (g_share_expressions := sp_share_expressions) (g_whole_power := sp_whole_power) (g_most_vanishing := sp_most_vanishing) (g_greatest_sum_count := sp_greatest_sum_count) (g_book_names := sp_book_names) (g_book_size := sp_book_size) (g_book_many := sp_book_many) (g_most_wrong_weight := sp_most_wrong_weight)) F_talk_parts.N 2 := by
  rintro ds S Q ⟨n, p, rfl, hn, hp, q⟩
  refine ⟨rfl, ?_⟩
  obtain ⟨p1, p2⟩ := hp.lt
  have lz := line_ge
  refine ⟨by decide, fun a S1 na e1 => ?_⟩
  subst e1
  refine loop_of (fun i ρ S' => ∃ r1 r2 r3 r4, ρ = [some (.int (n : Nat)), some (.int p), some (.ref a), r1, r2, r3, r4, none] ∧ Ext S S' ∧ S' a = some (.lst ((domsS.take i).flatMap (partsD n p)))) ⟨none, none, none, none, rfl, Ext.put na, put_same⟩ ?_ ?_
  · rintro i x ρ S' hd ⟨r1, r2, r3, r4, rfl, ex, k⟩
    have hd : (domsS.map D.str)[i]? = some x := hd
    rw [List.getElem?_map] at hd
    cases e : domsS[i]? with
    | none => rw [e] at hd; cases hd
    | some d =>
      rw [e] at hd; cases hd
      have hi : i < 4 := (List.getElem?_eq_some_iff.mp e).1
      have dd : Dom d := dom_of (List.mem_of_getElem? e)
      have hb := bits_le (d := d) hn
      have hm := msz_le d
      have hz : ((domsS.take i).flatMap (partsD n p)).length ≤ 12 := by rw [pD_len, List.length_take]; show 3 * min i 4 ≤ 12; omega
      refine ⟨_, rfl, ?_⟩
      refine ⟨d, n, rfl, dd, d, rfl, dd, ?_⟩
      refine ⟨d, rfl, dd, newE (Ext.refl S') fun b1 S2 x2 _ k2 => ⟨_, k2, d, rfl, dd, newE x2 fun b2 S3 x3 _ k3 => ⟨_, k3, ?_⟩⟩⟩
      have k4 := x3 _ _ k
      refine ⟨⟨_, k4⟩, (show 2 ≤ sizeLine by decide), (show 3 ≤ sizeLine by decide), gApp k4 (by omega) ?_⟩
      refine ⟨⟨_, put_same⟩, (show 2 ≤ sizeLine by decide), bitsOf d n, p, rfl, hb, hp, p, bitsOf d n, rfl, by omega, lt700 p2, by omega, (show 3 ≤ sizeLine by decide), gApp put_same (by rw [List.length_append]; show _ + 1 < _; omega) ?_⟩
      refine ⟨⟨_, put_same⟩, (show 2 ≤ sizeLine by decide), bitsOf d n, mszOf d, p, rfl, hb, hp, hm.1, hm.2, p, bitsOf d n, rfl, by omega, lt700 p2, by omega, (show 3 ≤ sizeLine by decide), gApp put_same (by rw [List.length_append, List.length_append]; show _ + 1 + 1 < _; omega) ?_⟩
      rw [put3]
      refine ⟨trivial, _, _, _, _, rfl, Ext.chg (ex.trans x3) na, ?_⟩
      rw [put_same, flat_take e, List.append_assoc, List.append_assoc]
      rfl
  · rintro ρ S' ⟨r1, r2, r3, r4, rfl, ex, k⟩
    have k : S' a = some (.lst (domsS.flatMap (partsD n p))) := k
    refine ⟨rfl, ?_⟩
    refine loop_of (fun i ρ S' => ∃ r1 r2 r3 r4 r5, ρ = [some (.int (n : Nat)), some (.int p), some (.ref a), r1, r2, r3, r4, r5] ∧ Ext S S' ∧ S' a = some (.lst (domsS.flatMap (partsD n p) ++ (namesL.take i).flatMap (partsN n p)))) ⟨_, _, _, _, none, rfl, ex, k.trans (by rw [List.take_zero, List.flatMap_nil, List.append_nil])⟩ ?_ ?_
    · rintro i x ρ S' hd ⟨r1, r2, r3, r4, r5, rfl, ex, k⟩
      obtain ⟨nm, e, rfl, dd, tt⟩ := name_ok hd
      have hb := bits_le (d := nm.1) hn
      have hs := sz_le hb
      have hw := wrong_lt hs.1 hs.2 hp
      have hz : (domsS.flatMap (partsD n p) ++ (namesL.take i).flatMap (partsN n p)).length ≤ 36 := by rw [List.length_append, pD_len, pN_len, List.length_take]; show 3 * 4 + 3 * min i 8 ≤ 36; omega
      refine ⟨_, rfl, ?_⟩
      refine ⟨nm.1, n, rfl, dd, bitsOf nm.1 n, rfl, hb, ?_⟩
      refine ⟨⟨_, k⟩, (show 1 ≤ sizeLine by decide), (show 1 + 2 ≤ sizeLine by decide), nm.1, nm.2, rfl, dd, tt, (show 3 ≤ sizeLine by decide), gApp k (by omega) ?_⟩
      refine ⟨⟨_, put_same⟩, (show 1 ≤ sizeLine by decide), (show 1 + 2 ≤ sizeLine by decide), (show 3 ≤ sizeLine by decide), gApp put_same (by rw [List.length_append]; show _ + 1 < _; omega) ?_⟩
      refine ⟨⟨_, put_same⟩, (show 1 ≤ sizeLine by decide), (show 1 + 2 ≤ sizeLine by decide), szOf (bitsOf nm.1 n), p, rfl, hs.1, hs.2, wrong (szOf (bitsOf nm.1 n)) p, 20, rfl, hw.1, Int.lt_trans hw.2 (by decide), by decide, p, 20, rfl, by omega, lt700 p2, by decide, (show 3 ≤ sizeLine by decide), gApp put_same (by rw [List.length_append, List.length_append]; show _ + 1 + 1 < _; omega) ?_⟩
      rw [put3]
      refine ⟨trivial, _, _, _, _, _, rfl, Ext.chg ex na, ?_⟩
      rw [put_same, flat_take e, List.append_assoc, List.append_assoc, List.append_assoc]
      rfl
    · rintro ρ S' ⟨r1, r2, r3, r4, r5, rfl, ex, k⟩
      have k : S' a = some (.lst (partsL n p)) := k
      refine ⟨put S a (.lst (partsL n p)), fun b u h => ?_, q a _ na rfl⟩
      by_cases z : b = a
      · subst z; rw [put_same] at h; rw [k]; exact h
      · rw [put_ne z] at h; exact ex b u h
end K83

namespace K83
open PySem PySem.Spec PyProof.Rows L2 PD

/-! ### shares -/
def low (A B : Nat) : Nat × Nat := (A / Nat.gcd A B, B / Nat.gcd A B)
def prD (q : Nat × Nat) : D := .tup [.int (q.1 : Nat), .int (q.2 : Nat)]
def sp_lowest_share : SpD := fun ds S Q => ∃ A B : Nat, ds = [.int (A : Nat), .int (B : Nat)] ∧ 0 < B ∧ B < 2 ^ 9000 ∧ Q (prD (low A B)) S
theorem divN {A g : Nat} (h : 0 < g) (h2 : g < 2 ^ 9000) : CDivW (A : Int) (g : Int) := by
  refine ⟨by omega, ?_⟩
  rw [Int.natAbs_natCast]
  exact (Nat.log2_lt (by omega)).mpr h2
theorem vc_lowest_share : VC sp_lowest_share (F_lowest_share.ws) F_lowest_share.N 2 := by
  rintro ds S Q ⟨A, B, rfl, hB, hz, q⟩
  refine ⟨rfl, ?_⟩
  refine ⟨fun m ρ S' => S' = S ∧ ∃ x y : Nat, ρ = [some (.int (A : Nat)), some (.int (B : Nat)), some (.int (x : Nat)), some (.int (y : Nat))] ∧ Nat.gcd x y = Nat.gcd A B ∧ y = m, ⟨B, rfl, A, B, rfl, rfl, rfl⟩, ?_⟩
  rintro m ρ S' ⟨rfl, x, y, rfl, hg, hm⟩
  by_cases hy : y = 0
  · subst hy
    simp only [wSeq, wNext, wRet, wRetN, wAsg, wPar, wPar3, wIfS, wIf, wBt, tru, wAndT, wOrT, wNotT, wAndV, wOrV, wNotV, wBin, wUn, uNeg, wCall, wCB, wM, gAppend, gPopAt, gPop, wVar, wC, wNil, wCons, wTup, wLst, wDrop, wPut, wBits, wDisp, wPairs, wYes, wCont, wBreak, wFor, wLc, wLc2, wVal, valK, wRng1, wRng2, wKeys, wIsi, tyD, wSl, wNoPart, wPart, startD, asg, asgs, asgK, oAdd, oSub, oMul, oDiv, oMod, oShl, oShr, oInt, oInt0, oRel, oLt, oLe, oGt, oGe, oIn, oIdx, bLen, bInt, bAbs, bMax, bMin, bSum, bAll, bAny, bSorted, bTuple, intsOf, blsOf, List.map_cons, List.map_nil, List.cons_append, List.nil_append, List.length_cons, List.length_nil, List.getElem?_cons_zero, List.getElem?_cons_succ, List.set_cons_zero, List.set_cons_succ, List.replicate_succ, List.replicate_zero, Nat.reduceSub, Nat.reduceAdd, Nat.zero_add, wipeD, put_same, atI_0, atI_1, atI_2, atI_3, atI_4, oEq_str, oEq_int, oEq_bl, flat_int, flat_str, inD_nil, inD_cons, eqF_str, eqF_int, List.all_cons, List.all_nil, Bool.and_true, Bool.true_and, Bool.or_false, decide_eq_true_eq, PD.wTru, sp_column_part, sp_number_part, sp_gap_part, sp_product_part, true_and, and_true]
    rw [if_neg (by decide)]
    have hx : x = Nat.gcd A B := by rw [← hg, Nat.gcd_zero_right]
    subst hx
    have g0 : 0 < Nat.gcd A B := Nat.gcd_pos_of_pos_right _ hB
    have g1 : Nat.gcd A B < 2 ^ 9000 := Nat.lt_of_le_of_lt (Nat.gcd_le_right _ hB) hz
    refine ⟨divN g0 g1, divN g0 g1, (show 2 ≤ sizeLine by decide), ret_here ?_⟩
    have e1 : ((A : Int) / ((Nat.gcd A B : Nat) : Int)) = ((A / Nat.gcd A B : Nat) : Int) := by simp
    have e2 : ((B : Int) / ((Nat.gcd A B : Nat) : Int)) = ((B / Nat.gcd A B : Nat) : Int) := by simp
    show Q (.tup [.int ((A : Int) / ((Nat.gcd A B : Nat) : Int)), .int ((B : Int) / ((Nat.gcd A B : Nat) : Int))]) S'
    rw [e1, e2]; exact q
  · simp only [wSeq, wNext, wRet, wRetN, wAsg, wPar, wPar3, wIfS, wIf, wBt, tru, wAndT, wOrT, wNotT, wAndV, wOrV, wNotV, wBin, wUn, uNeg, wCall, wCB, wM, gAppend, gPopAt, gPop, wVar, wC, wNil, wCons, wTup, wLst, wDrop, wPut, wBits, wDisp, wPairs, wYes, wCont, wBreak, wFor, wLc, wLc2, wVal, valK, wRng1, wRng2, wKeys, wIsi, tyD, wSl, wNoPart, wPart, startD, asg, asgs, asgK, oAdd, oSub, oMul, oDiv, oMod, oShl, oShr, oInt, oInt0, oRel, oLt, oLe, oGt, oGe, oIn, oIdx, bLen, bInt, bAbs, bMax, bMin, bSum, bAll, bAny, bSorted, bTuple, intsOf, blsOf, List.map_cons, List.map_nil, List.cons_append, List.nil_append, List.length_cons, List.length_nil, List.getElem?_cons_zero, List.getElem?_cons_succ, List.set_cons_zero, List.set_cons_succ, List.replicate_succ, List.replicate_zero, Nat.reduceSub, Nat.reduceAdd, Nat.zero_add, wipeD, put_same, atI_0, atI_1, atI_2, atI_3, atI_4, oEq_str, oEq_int, oEq_bl, flat_int, flat_str, inD_nil, inD_cons, eqF_str, eqF_int, List.all_cons, List.all_nil, Bool.and_true, Bool.true_and, Bool.or_false, decide_eq_true_eq, PD.wTru, sp_column_part, sp_number_part, sp_gap_part, sp_product_part, true_and, and_true]
    rw [if_pos (by omega)]
    refine ⟨fun ρ S2 => S2 = S' ∧ ∃ x2 y2 : Nat, ρ = [some (.int (A : Nat)), some (.int (B : Nat)), some (.int (x2 : Nat)), some (.int (y2 : Nat))] ∧ Nat.gcd x2 y2 = Nat.gcd A B ∧ y2 < y, ?_, (show (0 : Int) < (y : Int) by omega), rfl, y, x % y, ?_, ?_, Nat.mod_lt _ (by omega)⟩
    · rintro ρ S2 ⟨rfl, x2, y2, rfl, h1, h2⟩
      exact ⟨y2, by rw [← hm]; exact h2, rfl, x2, y2, rfl, h1, rfl⟩
    · show [some (D.int (A : Nat)), some (D.int (B : Nat)), some (D.int (y : Nat)), some (D.int ((x : Int) % (y : Int)))] = _
      rw [show ((x : Int) % (y : Int)) = ((x % y : Nat) : Int) by simp]
    · rw [Nat.gcd_comm y, ← Nat.gcd_rec, Nat.gcd_comm]; exact hg
theorem asgK_some {o : Option PD.Env} {ρ' : PD.Env} {N : PD.Env → Prop} (h : o = some ρ') (q : N ρ') : asgK o N := by subst h; exact q
def stepS (q r : Nat × Nat) : Nat × Nat := low (q.1 * r.2 + r.1 * q.2) (q.2 * r.2)
def addS (l : List (Nat × Nat)) : Nat × Nat := l.foldl stepS (0, 1)
def denP (l : List (Nat × Nat)) : Nat := l.foldl (fun a q => a * q.2) 1
def okS (l : List (Nat × Nat)) : Prop := (∀ q ∈ l, 0 < q.2 ∧ q.1 ≤ q.2) ∧ l.length ≤ 64 ∧ denP l < 2 ^ 9000
def sp_shares_added : SpD := fun ds S Q => ∃ a l, ds = [.ref a] ∧ S a = some (.lst (l.map prD)) ∧ okS l ∧ Q (prD (addS l)) S
theorem denP_snoc (l : List (Nat × Nat)) (q : Nat × Nat) : denP (l ++ [q]) = denP l * q.2 := by simp [denP, List.foldl_append]
theorem addS_snoc (l : List (Nat × Nat)) (q : Nat × Nat) : addS (l ++ [q]) = stepS (addS l) q := by simp [addS, List.foldl_append]
theorem denP_pos : ∀ (l : List (Nat × Nat)) (a : Nat), 0 < a → (∀ q ∈ l, 0 < q.2) → a ≤ l.foldl (fun a q => a * q.2) a
  | [], a, _, _ => Nat.le_refl _
  | q :: l, a, h, hq => by
    have h1 := hq q List.mem_cons_self
    exact Nat.le_trans (Nat.le_mul_of_pos_right _ h1) (denP_pos l (a * q.2) (Nat.mul_pos h h1) fun r hr => hq r (List.mem_cons_of_mem _ hr))
theorem denP_take {l : List (Nat × Nat)} (h : ∀ q ∈ l, 0 < q.2) (i : Nat) : denP (l.take i) ≤ denP l := by
  have e : denP l = (l.drop i).foldl (fun a q => a * q.2) (denP (l.take i)) := by
    unfold denP
    rw [← List.foldl_append, List.take_append_drop]
  rw [e]
  refine denP_pos _ _ ?_ fun q hq => h q (List.mem_of_mem_drop hq)
  exact Nat.lt_of_lt_of_le (by decide) (denP_pos (l.take i) 1 (by decide) fun q hq => h q (List.mem_of_mem_take hq))
/-- the running share: over 0, at most i, its denominator at most the product's -/
theorem addS_inv {l : List (Nat × Nat)} (h : ∀ q ∈ l, 0 < q.2 ∧ q.1 ≤ q.2) : ∀ i, i ≤ l.length → 0 < (addS (l.take i)).2 ∧ (addS (l.take i)).2 ≤ denP (l.take i) ∧ (addS (l.take i)).1 ≤ i * (addS (l.take i)).2
  | 0, _ => by simp [addS, denP]
  | i + 1, hi => by
    obtain ⟨a, b, c⟩ := addS_inv h i (by omega)
    have e : l[i]? = some l[i] := List.getElem?_eq_getElem (by omega)
    obtain ⟨q1, q2⟩ := h l[i] (List.getElem_mem _)
    rw [take_next e, addS_snoc, denP_snoc]
    generalize l[i] = q at q1 q2 ⊢
    generalize addS (l.take i) = r at a b c ⊢
    unfold stepS low
    have hpos : 0 < r.2 * q.2 := Nat.mul_pos a q1
    have g0 : 0 < Nat.gcd (r.1 * q.2 + q.1 * r.2) (r.2 * q.2) := Nat.gcd_pos_of_pos_right _ hpos
    have gd := Nat.gcd_dvd_right (r.1 * q.2 + q.1 * r.2) (r.2 * q.2)
    have gd1 := Nat.gcd_dvd_left (r.1 * q.2 + q.1 * r.2) (r.2 * q.2)
    generalize Nat.gcd (r.1 * q.2 + q.1 * r.2) (r.2 * q.2) = g at g0 gd gd1
    refine ⟨Nat.div_pos (Nat.le_of_dvd hpos gd) g0, Nat.le_trans (Nat.div_le_self _ _) (Nat.mul_le_mul_right _ b), ?_⟩
    obtain ⟨u, hu⟩ := gd
    obtain ⟨v, hv⟩ := gd1
    dsimp only
    rw [hu, hv, Nat.mul_div_cancel_left _ g0, Nat.mul_div_cancel_left _ g0]
    have h1 : r.1 * q.2 + q.1 * r.2 ≤ (i + 1) * (r.2 * q.2) := by
      have x1 : r.1 * q.2 ≤ i * r.2 * q.2 := Nat.mul_le_mul_right _ c
      have x2 : q.1 * r.2 ≤ q.2 * r.2 := Nat.mul_le_mul_right _ q2
      rw [Nat.add_mul, Nat.one_mul, ← Nat.mul_assoc, Nat.mul_comm r.2 q.2]
      omega
    rw [hu, hv] at h1
    have h2 : g * v ≤ g * ((i + 1) * u) := by rw [Nat.mul_left_comm]; exact h1
    exact Nat.le_of_mul_le_mul_left h2 g0
theorem mulN {a b : Nat} (ha : a < 2 ^ 20000) (hb : b < 2 ^ 20000) : CMulX (a : Int) (b : Int) := mulx_ok (a := 20000) (b := 20000) (by rw [Int.natAbs_natCast]; exact ha) (by rw [Int.natAbs_natCast]; exact hb) (by decide)
theorem pow9 : 64 * 2 ^ 9000 < 2 ^ 20000 := by
  have : (64 : Nat) = 2 ^ 6 := by decide
  rw [this, ← Nat.pow_add]
  exact Nat.pow_lt_pow_right (by decide) (by decide)
theorem vc_shares_added : VC sp_shares_added (F_shares_added.ws (g_lowest_share := sp_lowest_share)) F_shares_added.N 1 := by
  rintro ds S Q ⟨a, l, rfl, hS, ⟨h1, h2, h3⟩, q⟩
  refine ⟨rfl, ?_⟩
  unfold F_shares_added.ws; simp (decide := true) only [wSeq, wNext, wRet, wRetN, wAsg, wPar, wPar3, wIfS, wIf, wBt, tru, wAndT, wOrT, wNotT, wAndV, wOrV, wNotV, wBin, wUn, uNeg, wCall, wCB, wM, gAppend, gPopAt, gPop, wVar, wC, wNil, wCons, wTup, wLst, wDrop, wPut, wBits, wDisp, wPairs, wYes, wCont, wBreak, wFor, wLc, wLc2, wVal, valK, wRng1, wRng2, wKeys, wIsi, tyD, wSl, wNoPart, wPart, startD, asg, asgs, asgK, oAdd, oSub, oMul, oDiv, oMod, oShl, oShr, oInt, oInt0, oRel, oLt, oLe, oGt, oGe, oIn, oIdx, bLen, bInt, bAbs, bMax, bMin, bSum, bAll, bAny, bSorted, bTuple, intsOf, blsOf, List.map_cons, List.map_nil, List.cons_append, List.nil_append, List.length_cons, List.length_nil, List.getElem?_cons_zero, List.getElem?_cons_succ, List.set_cons_zero, List.set_cons_succ, List.replicate_succ, List.replicate_zero, Nat.reduceSub, Nat.reduceAdd, Nat.zero_add, wipeD, put_same, atI_0, atI_1, atI_2, atI_3, atI_4, oEq_str, oEq_int, oEq_bl, flat_int, flat_str, inD_nil, inD_cons, eqF_str, eqF_int, List.all_cons, List.all_nil, Bool.and_true, Bool.true_and, Bool.or_false, decide_eq_true_eq, PD.wTru, sp_column_part, sp_number_part, sp_gap_part, sp_product_part, true_and, and_true]
  simp only [hS]
  refine loop_of (fun i ρ S' => S' = S ∧ i ≤ l.length ∧ ∃ r1 r2, ρ = [some (.ref a), some (.int ((addS (l.take i)).1 : Nat)), some (.int ((addS (l.take i)).2 : Nat)), r1, r2]) ⟨rfl, Nat.zero_le _, none, none, rfl⟩ ?_ ?_
  · rintro i d ρ S' hd ⟨rfl, hi, r1, r2, rfl⟩
    have hd : (l.map prD)[i]? = some d := hd
    rw [List.getElem?_map] at hd
    cases e : l[i]? with
    | none => rw [e] at hd; cases hd
    | some x =>
      rw [e] at hd; cases hd
      have hlt : i < l.length := (List.getElem?_eq_some_iff.mp e).1
      have hx := h1 x (List.mem_of_getElem? e)
      obtain ⟨i1, i2, i3⟩ := addS_inv h1 i (by omega)
      have dt := denP_take (fun q hq => (h1 q hq).1) i
      have dn := denP_take (fun q hq => (h1 q hq).1) (i + 1)
      rw [take_next e, denP_snoc] at dn
      have eA : addS (l.take (i + 1)) = low ((addS (l.take i)).1 * x.2 + x.1 * (addS (l.take i)).2) ((addS (l.take i)).2 * x.2) := by rw [take_next e, addS_snoc]; rfl
      have b1 : (addS (l.take i)).2 * x.2 < 2 ^ 9000 := Nat.lt_of_le_of_lt (Nat.le_trans (Nat.mul_le_mul_right _ i2) dn) h3
      have p0 : 0 < (addS (l.take i)).2 * x.2 := Nat.mul_pos i1 hx.1
      have b2 : (addS (l.take i)).2 < 2 ^ 9000 := Nat.lt_of_le_of_lt (Nat.le_mul_of_pos_right _ hx.1) b1
      have b3 : x.2 < 2 ^ 9000 := Nat.lt_of_le_of_lt (Nat.le_mul_of_pos_left _ i1) b1
      have b4 : (addS (l.take i)).1 < 2 ^ 20000 := by
        refine Nat.lt_of_le_of_lt (Nat.le_trans i3 (Nat.mul_le_mul (show i ≤ 64 by omega) (Nat.le_of_lt b2))) pow9
      have up : ∀ {m : Nat}, m < 2 ^ 9000 → m < 2 ^ 20000 := fun h => Nat.lt_of_lt_of_le h (Nat.pow_le_pow_right (by decide) (by decide))
      refine ⟨_, rfl, ?_⟩
      refine ⟨mulN b4 (up b3), mulN (up (Nat.lt_of_le_of_lt hx.2 b3)) (up b2), mulN (up b2) (up b3), (addS (l.take i)).1 * x.2 + x.1 * (addS (l.take i)).2, (addS (l.take i)).2 * x.2, ?_, p0, b1, hS, rfl, hlt, some (.int (x.1 : Nat)), some (.int (x.2 : Nat)), ?_⟩
      · show [D.int (((addS (l.take i)).1 : Int) * (x.2 : Int) + (x.1 : Int) * ((addS (l.take i)).2 : Int)), D.int (((addS (l.take i)).2 : Int) * (x.2 : Int))] = _
        simp only [Int.natCast_add, Int.natCast_mul]
      · rw [eA]; rfl
  · rintro ρ S' ⟨rfl, hi, r1, r2, rfl⟩
    rw [show l.take (l.map prD).length = l by rw [List.length_map, List.take_length]]
    exact ret_here q
end K83

namespace K83
open PySem PySem.Spec PyProof.Rows L2 PD

/-! ### lots, belief -/
def Lot (l : Str) : Prop := l = "cells" ∨ l = "code" ∨ l = "times"
def lotMany (l : Str) (n : Nat) : Nat := if l = "cells" then 10 * 2 ^ n + 128 else if l = "code" then 2 ^ n + 64 else 13 * 2 ^ n
def lotW (l : Str) : Nat := if l = "cells" then 3 else if l = "code" then 14 else 0
def sp_lot_many : SpD := fun ds S Q => ∃ l n, ds = [.str l, .int (n : Nat)] ∧ Lot l ∧ Nn n ∧ Q (.int (lotMany l n : Nat)) S
theorem vc_lot_many : VC sp_lot_many (F_lot_many.ws) F_lot_many.N 2 := by
  rintro ds S Q ⟨l, n, rfl, hl, hn, q⟩
  refine ⟨rfl, ?_⟩
  have e : (1 : Int) * 2 ^ ((n : Nat) : Int).toNat = ((2 ^ n : Nat) : Int) := by simp
  have hp : (2 ^ n : Nat) ≤ 256 := by rcases up_to_8 hn with rfl | rfl | rfl | rfl | rfl | rfl | rfl | rfl <;> decide
  refine ⟨shl_small (i := 1) (by decide) (by obtain ⟨a, b⟩ := hn; omega), ?_⟩
  have go : ∀ x : Int, x = ((2 ^ n : Nat) : Int) → (CMulX 10 x ∧ CMulX 13 x ∧ newK S (.dK [((.inr "cells" : Key), .int (10 * x + 128)), (.inr "code", .int (x + 64)), (.inr "times", .int (13 * x))]) fun y S1 => oIdx y (.str l) S1 (ends Q).rt) := by
    rintro x rfl
    have hx : ((2 ^ n : Nat) : Int).natAbs < 2 ^ 64 := by rw [Int.natAbs_natCast]; omega
    refine ⟨mulz (by decide) hx, mulz (by decide) hx, newE (Ext.refl S) fun p S1 x1 _ k1 => ?_⟩
    unfold oIdx
    simp only [k1]
    unfold lotMany at q
    rcases hl with rfl | rfl | rfl
    · have q : Q (.int ((10 * 2 ^ n + 128 : Nat) : Int)) S := q
      rw [Int.natCast_add, Int.natCast_mul] at q
      exact ret_ext x1 q
    · have q : Q (.int ((2 ^ n + 64 : Nat) : Int)) S := q
      rw [Int.natCast_add] at q
      exact ret_ext x1 q
    · have q : Q (.int ((13 * 2 ^ n : Nat) : Int)) S := q
      rw [Int.natCast_mul] at q
      exact ret_ext x1 q
  exact go _ e
def lotC (l : Str) (n P : Nat) : Nat := let o := lotMany l n - 1; let b := min P (lotW l * o); b * P + (P - b) * min P o
def sp_lot_share : SpD := fun ds S Q => ∃ l n, ∃ P : Nat, ds = [.str l, .int (n : Nat), .int (P : Nat)] ∧ Lot l ∧ Nn n ∧ Prm (P : Nat) ∧ Q (prD (low (lotC l n P) (P * P))) S
theorem lot_le {l : Str} {n : Nat} (hl : Lot l) (hn : Nn n) : 1 ≤ lotMany l n ∧ lotMany l n ≤ 4000 := by
  have hp : (2 ^ n : Nat) ≤ 256 ∧ 1 ≤ 2 ^ n := by rcases up_to_8 hn with rfl | rfl | rfl | rfl | rfl | rfl | rfl | rfl <;> decide
  unfold lotMany
  split
  · omega
  · split <;> omega
theorem vc_lot_share : VC sp_lot_share (F_lot_share.ws (g_lot_many := sp_lot_many) (g_lowest_share := sp_lowest_share)) F_lot_share.N 3 := by
  rintro ds S Q ⟨l, n, P, rfl, hl, hn, hp, q⟩
  refine ⟨rfl, ?_⟩
  obtain ⟨p1, p2⟩ := hp.lt
  have hm := lot_le hl hn
  refine ⟨l, n, rfl, hl, hn, ?_⟩
  have eo : ((lotMany l n : Nat) : Int) - 1 = ((lotMany l n - 1 : Nat) : Int) := by omega
  have hw : lotW l ≤ 14 := by unfold lotW; split; decide; split <;> decide
  have hz : lotW l * (lotMany l n - 1) ≤ 14 * 4000 := Nat.mul_le_mul hw (by omega)
  have hP : P * P < 2 ^ 9000 := Nat.lt_of_lt_of_le (Nat.mul_lt_mul'' (show P < 2 ^ 31 by omega) (show P < 2 ^ 31 by omega)) (by rw [← Nat.pow_add]; exact Nat.pow_le_pow_right (by decide) (by decide))
  have P0 : 0 < P * P := Nat.mul_pos (by omega) (by omega)
  have hb : min P (lotW l * (lotMany l n - 1)) = lotW l * (lotMany l n - 1) := Nat.min_eq_right (by omega)
  have hb2 : min P (lotMany l n - 1) = lotMany l n - 1 := Nat.min_eq_right (by omega)
  have q : Q (prD (low (lotW l * (lotMany l n - 1) * P + (P - lotW l * (lotMany l n - 1)) * (lotMany l n - 1)) (P * P))) S := by
    have z := q
    unfold lotC at z
    simp only [hb, hb2] at z
    exact z
  generalize hO : lotMany l n - 1 = o at *
  have key : ∀ w : Int, w = ((lotW l : Nat) : Int) → ∀ x : Int, x = ((o : Nat) : Int) → 
      CMulX w x ∧ CMulX (if w * x < (P : Int) then w * x else (P : Int)) (P : Int) ∧ CMulX ((P : Int) - (if w * x < (P : Int) then w * x else (P : Int))) (if x < (P : Int) then x else (P : Int)) ∧ CMulX (P : Int) (P : Int) ∧
      sp_lowest_share [.int ((if w * x < (P : Int) then w * x else (P : Int)) * (P : Int) + ((P : Int) - (if w * x < (P : Int) then w * x else (P : Int))) * (if x < (P : Int) then x else (P : Int))), .int ((P : Int) * (P : Int))] S (ends Q).rt := by
    rintro w rfl x rfl
    have e1 : ((lotW l : Nat) : Int) * ((o : Nat) : Int) = ((lotW l * o : Nat) : Int) := by rw [Int.natCast_mul]
    rw [e1, if_pos (by omega), if_pos (by omega)]
    refine ⟨mulz (by omega) (by omega), mulz (by omega) (by omega), mulz (by omega) (by omega), mulz (by omega) (by omega), _, _, ?_, P0, hP, ret_here q⟩
    have e2 : (P : Int) - ((lotW l * o : Nat) : Int) = ((P - lotW l * o : Nat) : Int) := by omega
    rw [e2]
    simp only [Int.natCast_add, Int.natCast_mul]
  rcases hl with rfl | rfl | rfl
  · exact key 3 rfl _ eo
  · exact key 14 rfl _ eo
  · exact key 0 rfl _ eo

theorem ipow_mono {x y : Int} (h0 : 0 ≤ x) (h : x ≤ y) : ∀ k : Nat, 0 ≤ x ^ k ∧ x ^ k ≤ y ^ k
  | 0 => by simp
  | k + 1 => by
    obtain ⟨a, b⟩ := ipow_mono h0 h k
    rw [Int.pow_succ, Int.pow_succ]
    exact ⟨Int.mul_nonneg a h0, Int.mul_le_mul b h h0 (by omega)⟩
theorem ipow_pos {x : Int} (h : 1 ≤ x) : ∀ k : Nat, 1 ≤ x ^ k
  | 0 => by simp
  | k + 1 => by
    rw [Int.pow_succ]
    have := ipow_pos h k
    calc (1 : Int) = 1 * 1 := rfl
      _ ≤ x ^ k * x := Int.mul_le_mul this h (by decide) (by omega)
theorem ipow_big {p : Int} (hp : Prm p) (k : Nat) (hk : k ≤ 20) : p ^ k < 2 ^ 700 := by
  obtain ⟨p1, p2⟩ := hp.lt
  have h1 := (ipow_mono (show 0 ≤ p by omega) (show p ≤ 2 ^ 31 by omega) k).2
  have h2 : ((2 : Int) ^ 31) ^ k ≤ (2 ^ 31) ^ 20 := by
    rw [← Int.pow_mul, ← Int.pow_mul]
    have : (2 : Nat) ^ (31 * k) ≤ 2 ^ (31 * 20) := Nat.pow_le_pow_right (by decide) (Nat.mul_le_mul_left _ hk)
    exact_mod_cast this
  exact Int.lt_of_le_of_lt (Int.le_trans h1 h2) (by decide)
theorem wrong_le_p {s : Nat} (h : 1 ≤ s) (h2 : s ≤ 512) {p : Int} (hp : Prm p) : wrong s p ≤ p := by
  obtain ⟨p1, p2⟩ := hp.lt
  obtain ⟨a, b⟩ := wrong_bound h (p := p) (by omega)
  refine Int.le_trans b ?_
  have e := Int.mul_ediv_add_emod p ((4 * s : Nat) : Int)
  have r0 := Int.emod_nonneg p (show ((4 * s : Nat) : Int) ≠ 0 by omega)
  have q3 : 3 ≤ p / ((4 * s : Nat) : Int) := Int.le_ediv_of_mul_le (by omega) (by omega)
  generalize p / ((4 * s : Nat) : Int) = t at *
  have x1 : ((4 * s : Nat) : Int) * t = 4 * ((s : Int) * t) := by rw [Int.natCast_mul]; rw [Int.mul_assoc]; rfl
  have x2 : ((3 * s : Nat) : Int) * (t + 1) = 3 * ((s : Int) * t) + 3 * s := by rw [Int.natCast_mul, Int.mul_add, Int.mul_assoc]; simp
  have x3 : (s : Int) * 3 ≤ (s : Int) * t := Int.mul_le_mul_of_nonneg_left q3 (by omega)
  rw [x2]; omega
def GoodP (x : D) : Prop := ∃ l a b, x = partD l a b ∧ 0 ≤ a ∧ a ≤ b ∧ 0 < b ∧ b < 2 ^ 700
theorem rule_le {d : Str} (hd : Dom d) : 1 ≤ ruleN d ∧ ruleN d ≤ 26 := by
  rcases hd with rfl | rfl | rfl | rfl <;> decide +kernel
theorem parts_good {n : Nat} {p : Int} (hn : Nn n) (hp : Prm p) : ∀ x ∈ partsL n p, GoodP x := by
  intro x hx
  obtain ⟨p1, p2⟩ := hp.lt
  have bp : p < 2 ^ 700 := lt700 p2
  rcases List.mem_append.mp hx with hx | hx
  · obtain ⟨d, hd, hx⟩ := List.mem_flatMap.mp hx
    have dd := dom_of hd
    have hb := bits_le (d := d) hn
    have hm := msz_le d
    have hr := rule_le dd
    have b1 := ipow_big hp (bitsOf d n) (by omega)
    have b0 := ipow_pos (show 1 ≤ p by omega) (bitsOf d n)
    simp only [partsD, List.mem_cons, List.not_mem_nil, or_false] at hx
    rcases hx with rfl | rfl | rfl
    · exact ⟨_, _, _, rfl, by omega, by omega, by omega, bp⟩
    · have z := ipow_mono (show 0 ≤ p - 1 by omega) (show p - 1 ≤ p by omega) (bitsOf d n)
      exact ⟨_, _, _, rfl, by omega, by omega, by omega, b1⟩
    · have z := ipow_mono (show 0 ≤ p - (mszOf d - 1) by omega) (show p - (mszOf d - 1) ≤ p by omega) (bitsOf d n)
      exact ⟨_, _, _, rfl, by omega, by omega, by omega, b1⟩
  · obtain ⟨q, hq, hx⟩ := List.mem_flatMap.mp hx
    obtain ⟨i, hi⟩ := List.getElem?_of_mem hq
    obtain ⟨q', e, _, dd, tt⟩ := name_ok (i := i) (d := nmD q.1 q.2) (by unfold namesD; rw [List.getElem?_map, hi]; rfl)
    rw [hi] at e; cases e
    have hb := bits_le (d := q.1) hn
    have hs := sz_le hb
    have hm := many_le dd tt
    have hw := wrong_lt hs.1 hs.2 hp
    have hw2 := wrong_le_p hs.1 hs.2 hp
    simp only [partsN, List.mem_cons, List.not_mem_nil, or_false] at hx
    rcases hx with rfl | rfl | rfl
    · exact ⟨_, _, _, rfl, by omega, by omega, by omega, bp⟩
    · exact ⟨_, _, _, rfl, by omega, by omega, by omega, bp⟩
    · have z := ipow_mono hw.1 hw2 20
      have z0 := ipow_pos (show 1 ≤ p by omega) 20
      exact ⟨_, _, _, rfl, z.1, z.2, by omega, ipow_big hp 20 (by decide)⟩
def lowPart (x : D) : D := match x with
  | .tup [nm, .int a, .int b] => .tup [nm, prD (low a.toNat b.toNat)]
  | d => d
def lotsS : List Str := ["cells", "code", "times"]
def lotD (n P : Nat) (l : Str) : D := .tup [.tup [.str "lot", .str l], prD (low (lotC l n P) (P * P))]
def lotsD (n P : Nat) : List D := lotsS.map (lotD n P)
def belL (n P : Nat) : List D := lotsD n P ++ (partsL n (P : Nat)).map lowPart
def sp_belief_parts : SpD := fun ds S Q => ∃ n P : Nat, ds = [.int (n : Nat), .int (P : Nat)] ∧ Nn n ∧ Prm (P : Nat) ∧ newK S (.lst (belL n P)) Q
theorem parts_len (n : Nat) (p : Int) : (partsL n p).length = 36 := by
  unfold partsL
  rw [List.length_append, pD_len, pN_len]; rfl
theorem vc_belief_parts : VC sp_belief_parts (F_belief_parts.ws (g_lot_share := sp_lot_share) (g_talk_parts := sp_talk_parts) (g_lowest_share := sp_lowest_share)) F_belief_parts.N 2 := by
  rintro ds S Q ⟨n, P, rfl, hn, hp, q⟩
  refine ⟨rfl, ?_⟩
  have lz := line_ge
  refine comp_map (fun x => match x with | .str l => lotD n P l | d => d) (fun x S1 Q1 hm ex q1 => ?_) (fun _ _ => trivial) (by decide) fun S1 x1 => newE x1 fun p1 S1 x1 _ k1 => ?_
  · have hm : x = .str "cells" ∨ x = .str "code" ∨ x = .str "times" := by simpa using hm
    rcases hm with rfl | rfl | rfl
    · exact ⟨_, rfl, (show 2 ≤ sizeLine by decide), _, n, P, rfl, .inl rfl, hn, hp, (show 2 ≤ sizeLine by decide), q1 S1 (Ext.refl _)⟩
    · exact ⟨_, rfl, (show 2 ≤ sizeLine by decide), _, n, P, rfl, .inr (.inl rfl), hn, hp, (show 2 ≤ sizeLine by decide), q1 S1 (Ext.refl _)⟩
    · exact ⟨_, rfl, (show 2 ≤ sizeLine by decide), _, n, P, rfl, .inr (.inr rfl), hn, hp, (show 2 ≤ sizeLine by decide), q1 S1 (Ext.refl _)⟩
  · have k1 : S1 p1 = some (.lst (lotsD n P)) := k1
    refine ⟨n, P, rfl, hn, hp, newE x1 fun p2 S2 x2 y2 k2 => val_lst k2 ?_⟩
    refine PD.comp_map lowPart (fun x S3 Q1 hm ex q1 => ?_) (fun S3 ex => ex _ _ k2) (by rw [List.length_nil, parts_len]; omega) fun S3 x3 => newE (x2.trans x3) fun p3 S4 x4 y4 k4 => ?_
    · obtain ⟨l, a, b, rfl, h0, h1, h2, h3⟩ := parts_good hn hp x hm
      have e1 : a = ((a.toNat : Nat) : Int) := by omega
      have e2 : b = ((b.toNat : Nat) : Int) := by omega
      have hz : b.toNat < 2 ^ 9000 := by
        have : b.toNat < 2 ^ 700 := by
          have e3 : ((2 : Int) ^ 700) = ((2 ^ 700 : Nat) : Int) := by norm_cast
          omega
        exact Nat.lt_of_lt_of_le this (Nat.pow_le_pow_right (by decide) (by decide))
      refine ⟨_, rfl, a.toNat, b.toNat, ?_, by omega, hz, (show 2 ≤ sizeLine by decide), q1 S3 (Ext.refl _)⟩
      show [D.int a, D.int b] = _
      rw [← e1, ← e2]
    · exact ⟨lotsD n P, (partsL n (P : Nat)).map lowPart, (y2.trans (x3.trans y4)) _ _ k1, k4, (by rw [List.length_map, parts_len]; show 3 + 36 ≤ sizeLine; omega), ret_new x4 q⟩
end K83

namespace K83
open PySem PySem.Spec PyProof.Rows L2 PD

/-! ### all shares together are less than one -/
def frac (l : List (Nat × Nat)) : Nat × Nat := l.foldl (fun r q => (r.1 * q.2 + q.1 * r.2, r.2 * q.2)) (0, 1)
def low2 (q : Nat × Nat) : Nat × Nat := low q.1 q.2
theorem low2_ok {q : Nat × Nat} (h : 0 < q.2) : 0 < (low2 q).2 ∧ (low2 q).2 ≤ q.2 ∧ (low2 q).1 * q.2 = q.1 * (low2 q).2 ∧ (q.1 ≤ q.2 → (low2 q).1 ≤ (low2 q).2) := by
  unfold low2 low
  have g0 : 0 < Nat.gcd q.1 q.2 := Nat.gcd_pos_of_pos_right _ h
  obtain ⟨u, hu⟩ := Nat.gcd_dvd_left q.1 q.2
  obtain ⟨v, hv⟩ := Nat.gcd_dvd_right q.1 q.2
  dsimp only
  generalize Nat.gcd q.1 q.2 = g at *
  rw [hu, hv, Nat.mul_div_cancel_left _ g0, Nat.mul_div_cancel_left _ g0]
  refine ⟨?_, Nat.le_mul_of_pos_left _ g0, ?_, fun z => Nat.le_of_mul_le_mul_left z g0⟩
  · rcases Nat.eq_zero_or_pos v with z | z
    · rw [z, Nat.mul_zero] at hv; omega
    · exact z
  · rw [Nat.mul_left_comm, Nat.mul_assoc]
theorem frac_snoc (l : List (Nat × Nat)) (q : Nat × Nat) : frac (l ++ [q]) = ((frac l).1 * q.2 + q.1 * (frac l).2, (frac l).2 * q.2) := by simp [frac, List.foldl_append]
theorem addS_frac : ∀ l : List (Nat × Nat), (∀ q ∈ l, 0 < q.2) → 0 < (addS (l.map low2)).2 ∧ 0 < (frac l).2 ∧ (addS (l.map low2)).1 * (frac l).2 = (frac l).1 * (addS (l.map low2)).2 := by
  suffices go : ∀ m : List (Nat × Nat), (∀ q ∈ m.reverse, 0 < q.2) → 0 < (addS (m.reverse.map low2)).2 ∧ 0 < (frac m.reverse).2 ∧ (addS (m.reverse.map low2)).1 * (frac m.reverse).2 = (frac m.reverse).1 * (addS (m.reverse.map low2)).2 by
    intro l h
    have z := go l.reverse
    rw [List.reverse_reverse] at z
    exact z h
  intro m
  induction m with
  | nil => intro _; simp [addS, frac]
  | cons q m ih =>
    rw [List.reverse_cons]
    generalize m.reverse = l at ih ⊢
    intro h
    obtain ⟨a, b, c⟩ := ih fun r hr => h r (List.mem_append_left _ hr)
    have hq := h q (by simp)
    obtain ⟨y0, _, cr, _⟩ := low2_ok hq
    rw [List.map_append, List.map_cons, List.map_nil, addS_snoc, frac_snoc]
    generalize addS (l.map low2) = r at a c ⊢
    generalize frac l = f at b c ⊢
    generalize low2 q = x at y0 cr ⊢
    unfold stepS low
    have hpos : 0 < r.2 * x.2 := Nat.mul_pos a y0
    have g0 : 0 < Nat.gcd (r.1 * x.2 + x.1 * r.2) (r.2 * x.2) := Nat.gcd_pos_of_pos_right _ hpos
    obtain ⟨u, hu⟩ := Nat.gcd_dvd_left (r.1 * x.2 + x.1 * r.2) (r.2 * x.2)
    obtain ⟨v, hv⟩ := Nat.gcd_dvd_right (r.1 * x.2 + x.1 * r.2) (r.2 * x.2)
    dsimp only
    generalize Nat.gcd (r.1 * x.2 + x.1 * r.2) (r.2 * x.2) = g at *
    have e1 : (r.1 * x.2 + x.1 * r.2) / g = u := by rw [hu, Nat.mul_div_cancel_left _ g0]
    have e2 : (r.2 * x.2) / g = v := by rw [hv, Nat.mul_div_cancel_left _ g0]
    rw [e1, e2]
    refine ⟨?_, Nat.mul_pos b hq, ?_⟩
    · rcases Nat.eq_zero_or_pos v with z | z
      · rw [z, Nat.mul_zero] at hv; omega
      · exact z
    · refine Nat.eq_of_mul_eq_mul_left g0 ?_
      calc g * (u * (f.2 * q.2)) = (g * u) * (f.2 * q.2) := by rw [Nat.mul_assoc]
        _ = (r.1 * x.2 + x.1 * r.2) * (f.2 * q.2) := by rw [hu]
        _ = (r.1 * f.2) * (x.2 * q.2) + (x.1 * q.2) * (r.2 * f.2) := by rw [Nat.add_mul]; congr 1 <;> ac_rfl
        _ = (f.1 * r.2) * (x.2 * q.2) + (q.1 * x.2) * (r.2 * f.2) := by rw [c, cr]
        _ = (f.1 * q.2 + q.1 * f.2) * (r.2 * x.2) := by rw [Nat.add_mul]; congr 1 <;> ac_rfl
        _ = (f.1 * q.2 + q.1 * f.2) * (g * v) := by rw [hv]
        _ = g * ((f.1 * q.2 + q.1 * f.2) * v) := by ac_rfl
theorem addS_lt {l : List (Nat × Nat)} (h : ∀ q ∈ l, 0 < q.2) (lt : (frac l).1 < (frac l).2) : (addS (l.map low2)).1 < (addS (l.map low2)).2 := by
  obtain ⟨a, b, c⟩ := addS_frac l h
  refine Nat.lt_of_mul_lt_mul_right (a := (frac l).2) ?_
  rw [c, Nat.mul_comm (addS (l.map low2)).2]
  exact Nat.mul_lt_mul_of_pos_right lt a
inductive LeS : List (Nat × Nat) → List (Nat × Nat) → Prop
  | nil : LeS [] []
  | cons {a b d : Nat} {l l' : List (Nat × Nat)} : a ≤ b → LeS l l' → LeS ((a, d) :: l) ((b, d) :: l')
theorem LeS.rfl : ∀ l : List (Nat × Nat), LeS l l
  | [] => .nil
  | (a, b) :: l => .cons (Nat.le_refl _) (LeS.rfl l)
theorem LeS.app {a b c d : List (Nat × Nat)} (h : LeS a b) (k : LeS c d) : LeS (a ++ c) (b ++ d) := by
  induction h with
  | nil => exact k
  | cons e _ ih => exact .cons e ih
theorem frac_le {l l' : List (Nat × Nat)} (h : LeS l l') : ∀ {a b d : Nat}, a ≤ b → (l.foldl (fun r q => (r.1 * q.2 + q.1 * r.2, r.2 * q.2)) (a, d)).1 ≤ (l'.foldl (fun r q => (r.1 * q.2 + q.1 * r.2, r.2 * q.2)) (b, d)).1 ∧
    (l.foldl (fun r q => (r.1 * q.2 + q.1 * r.2, r.2 * q.2)) (a, d)).2 = (l'.foldl (fun r q => (r.1 * q.2 + q.1 * r.2, r.2 * q.2)) (b, d)).2 := by
  induction h with
  | nil => intro a b d h; exact ⟨h, by rfl⟩
  | cons e _ ih =>
    intro a b d h
    exact ih (Nat.add_le_add (Nat.mul_le_mul_right _ h) (Nat.mul_le_mul_right _ e))
theorem LeS.dens {l l' : List (Nat × Nat)} (h : LeS l l') : ∀ a, l.foldl (fun a q => a * q.2) a = l'.foldl (fun a q => a * q.2) a := by
  induction h with
  | nil => intro a; rfl
  | cons e _ ih => intro a; exact ih _
def rawP (x : D) : Nat × Nat := match x with
  | .tup [_, .int a, .int b] => (a.toNat, b.toNat)
  | _ => (0, 1)
def lotsR (n P : Nat) : List (Nat × Nat) := lotsS.map fun l => (lotC l n P, P * P)
def rawS (n P : Nat) : List (Nat × Nat) := lotsR n P ++ (partsL n (P : Nat)).map rawP
def wrongB (s : Nat) (p : Int) : Int := (3 * s : Nat) * (p / ((4 * s : Nat) : Int) + 1)
def partsB (n : Nat) (p : Int) (q : Str × Str) : List D :=
  [partD [.str "eta", .str q.1, .str q.2] ((manyN q.1 q.2 : Nat) - 1) p, partD [.str "far", .str q.1, .str q.2] ((szOf (bitsOf q.1 n) : Nat) + 1) p, partD [.str "spots", .str q.1, .str q.2] (wrongB (szOf (bitsOf q.1 n)) p ^ 20) (p ^ 20)]
def bndS (n P : Nat) : List (Nat × Nat) := lotsR n P ++ (domsS.flatMap (partsD n (P : Nat)) ++ namesL.flatMap (partsB n (P : Nat))).map rawP
def PN (P : Nat) : Prop := P = 1048583 ∨ P = 2147483647 ∨ P = 2147483629
theorem PN.of {P : Nat} (h : Prm (P : Nat)) : PN P := by
  rcases h with h | h | h
  · exact .inl (by omega)
  · exact .inr (.inl (by omega))
  · exact .inr (.inr (by omega))
theorem bnd_ok {n P : Nat} (hn : Nn n) (hp : PN P) : (frac (bndS n P)).1 < (frac (bndS n P)).2 ∧ denP (bndS n P) < 2 ^ 9000 := by
  rcases up_to_8 hn with rfl | rfl | rfl | rfl | rfl | rfl | rfl | rfl <;> rcases hp with rfl | rfl | rfl <;> decide +kernel
end K83

namespace K83
open PySem PySem.Spec PyProof.Rows L2 PD

theorem les_names {n : Nat} {p : Int} (hn : Nn n) (hp : Prm p) : ∀ l : List (Str × Str), (∀ q ∈ l, Dom q.1) → LeS ((l.flatMap (partsN n p)).map rawP) ((l.flatMap (partsB n p)).map rawP)
  | [], _ => .nil
  | q :: l, h => by
    obtain ⟨p1, p2⟩ := hp.lt
    have dd := h q List.mem_cons_self
    have hs := sz_le (bits_le (d := q.1) hn)
    have hw := wrong_bound hs.1 (p := p) (by omega)
    have z := ipow_mono hw.1 (show wrong (szOf (bitsOf q.1 n)) p ≤ wrongB (szOf (bitsOf q.1 n)) p from hw.2) 20
    rw [List.flatMap_cons, List.flatMap_cons, List.map_append, List.map_append]
    refine LeS.app (.cons (Nat.le_refl _) (.cons (Nat.le_refl _) (.cons ?_ .nil))) (les_names hn hp l fun r hr => h r (List.mem_cons_of_mem _ hr))
    exact Int.toNat_le_toNat z.2
theorem names_dom : ∀ q ∈ namesL, Dom q.1 := by
  intro q hq
  obtain ⟨i, hi⟩ := List.getElem?_of_mem hq
  obtain ⟨q', e, _, dd, tt⟩ := name_ok (i := i) (d := nmD q.1 q.2) (by unfold namesD; rw [List.getElem?_map, hi]; rfl)
  rw [hi] at e; cases e
  exact dd
theorem les_raw {n P : Nat} (hn : Nn n) (hp : Prm (P : Nat)) : LeS (rawS n P) (bndS n P) := by
  unfold rawS bndS partsL
  refine LeS.app (LeS.rfl _) ?_
  rw [List.map_append, List.map_append]
  exact LeS.app (LeS.rfl _) (les_names hn hp _ names_dom)
theorem lotC_le (l : Str) (n P : Nat) : lotC l n P ≤ P * P := by
  unfold lotC
  dsimp only
  have h1 : min P (lotW l * (lotMany l n - 1)) ≤ P := Nat.min_le_left _ _
  have h2 : min P (lotMany l n - 1) ≤ P := Nat.min_le_left _ _
  generalize min P (lotW l * (lotMany l n - 1)) = b at *
  generalize min P (lotMany l n - 1) = o at *
  calc b * P + (P - b) * o ≤ b * P + (P - b) * P := Nat.add_le_add_left (Nat.mul_le_mul_left _ h2) _
    _ = (b + (P - b)) * P := by rw [Nat.add_mul]
    _ = P * P := by rw [Nat.add_sub_cancel' h1]
theorem raw_ok {n P : Nat} (hn : Nn n) (hp : Prm (P : Nat)) : ∀ q ∈ rawS n P, 0 < q.2 ∧ q.1 ≤ q.2 := by
  intro q hq
  obtain ⟨p1, p2⟩ := hp.lt
  rcases List.mem_append.mp hq with hq | hq
  · obtain ⟨l, hl, rfl⟩ := List.mem_map.mp hq
    exact ⟨Nat.mul_pos (by omega) (by omega), lotC_le l n P⟩
  · obtain ⟨x, hx, rfl⟩ := List.mem_map.mp hq
    obtain ⟨l, a, b, rfl, h0, h1, h2, h3⟩ := parts_good hn hp x hx
    exact ⟨show 0 < b.toNat by omega, show a.toNat ≤ b.toNat by omega⟩
def belS (n P : Nat) : List (Nat × Nat) := (rawS n P).map low2
theorem den_low : ∀ (l : List (Nat × Nat)) (a b : Nat), a ≤ b → (∀ q ∈ l, 0 < q.2) → (l.map low2).foldl (fun a q => a * q.2) a ≤ l.foldl (fun a q => a * q.2) b
  | [], a, b, h, _ => h
  | q :: l, a, b, h, hq => den_low l _ _ (Nat.mul_le_mul h (low2_ok (hq q List.mem_cons_self)).2.1) fun r hr => hq r (List.mem_cons_of_mem _ hr)
theorem bel_ok {n P : Nat} (hn : Nn n) (hp : Prm (P : Nat)) : okS (belS n P) := by
  have hr := raw_ok hn hp
  refine ⟨fun q hq => ?_, ?_, ?_⟩
  · obtain ⟨r, h, rfl⟩ := List.mem_map.mp hq
    obtain ⟨a, b, c, d⟩ := low2_ok (hr r h).1
    exact ⟨a, d (hr r h).2⟩
  · unfold belS rawS lotsR
    rw [List.length_map, List.length_append, List.length_map, List.length_map, parts_len]; decide
  · refine Nat.lt_of_le_of_lt (den_low (rawS n P) 1 1 (Nat.le_refl _) fun q h => (hr q h).1) ?_
    rw [(les_raw hn hp).dens]
    exact (bnd_ok hn (PN.of hp)).2
theorem bel_lt {n P : Nat} (hn : Nn n) (hp : Prm (P : Nat)) : (addS (belS n P)).1 < (addS (belS n P)).2 := by
  refine addS_lt (fun q h => (raw_ok hn hp q h).1) ?_
  have z := frac_le (les_raw hn hp) (Nat.le_refl 0) (d := 1)
  have b := (bnd_ok hn (PN.of hp)).1
  unfold frac at b ⊢
  rw [z.2]
  exact Nat.lt_of_le_of_lt z.1 b
def sndD (x : D) : D := match x with
  | .tup [_, y] => y
  | d => d
theorem bel_snd {n P : Nat} (hn : Nn n) (hp : Prm (P : Nat)) : (belL n P).map sndD = (belS n P).map prD := by
  unfold belL belS rawS lotsD lotsR
  rw [List.map_append, List.map_append, List.map_append]
  refine congr (congrArg HAppend.hAppend rfl) ?_
  rw [List.map_map, List.map_map, List.map_map]
  refine List.map_congr_left fun x hx => ?_
  obtain ⟨l, a, b, rfl, _⟩ := parts_good hn hp x hx
  rfl
theorem bel_pair {n P : Nat} (hn : Nn n) (hp : Prm (P : Nat)) : ∀ x ∈ belL n P, ∃ u v, x = .tup [u, v] := by
  intro x hx
  rcases List.mem_append.mp hx with hx | hx
  · obtain ⟨l, _, rfl⟩ := List.mem_map.mp hx
    exact ⟨_, _, rfl⟩
  · obtain ⟨y, hy, rfl⟩ := List.mem_map.mp hx
    obtain ⟨l, a, b, rfl, _⟩ := parts_good hn hp y hy
    exact ⟨_, _, rfl⟩
theorem bel_len (n P : Nat) : (belL n P).length = 39 := by
  unfold belL lotsD
  rw [List.length_append, List.length_map, List.length_map, parts_len]; rfl
def sp_belief_share : SpD := fun ds S Q => ∃ n P : Nat, ds = [.int (n : Nat), .int (P : Nat)] ∧ Nn n ∧ Prm (P : Nat) ∧ Q (prD (addS (belS n P))) S
theorem vc_belief_share : VC sp_belief_share (F_belief_share.ws (g_shares_added := sp_shares_added) (g_belief_parts := sp_belief_parts)) F_belief_share.N 2 := by
  rintro ds S Q ⟨n, P, rfl, hn, hp, q⟩
  refine ⟨rfl, ?_⟩
  have lz := line_ge
  refine ⟨n, P, rfl, hn, hp, newE (Ext.refl S) fun p1 S1 x1 _ k1 => val_lst k1 ?_⟩
  refine PD.comp_map sndD (fun x S3 Q1 hm ex q1 => ?_) (fun S3 ex => ex _ _ k1) (by rw [List.length_nil, bel_len]; omega) fun S3 x3 => newE (x1.trans x3) fun p3 S4 x4 y4 k4 => ?_
  · obtain ⟨u, v, rfl⟩ := bel_pair hn hp x hm
    exact ⟨_, rfl, q1 S3 (Ext.refl _)⟩
  · have k4 : S4 p3 = some (.lst ((belS n P).map prD)) := by rw [k4, ← bel_snd hn hp]; rfl
    refine ⟨p3, belS n P, rfl, k4, bel_ok hn hp, ?_⟩
    have lt := bel_lt hn hp
    show if (decide ((((addS (belS n P)).1 : Nat) : Int) < (((addS (belS n P)).2 : Nat) : Int))) = true then _ else _
    rw [if_pos (decide_eq_true (by omega))]
    exact ⟨(show 2 ≤ sizeLine by decide), ret_ext x4 q⟩
end K83

namespace K83
open PySem PySem.Spec PyProof.Rows L2 PD

/-! ### the law's own: same -/
def plainB : Nat → D → Bool
  | 0, _ => false
  | _ + 1, .non => true
  | _ + 1, .int _ => true
  | _ + 1, .str _ => true
  | j + 1, .tup xs => xs.all (plainB j)
  | _ + 1, _ => false
def lenB : Nat → D → Bool
  | 0, _ => true
  | j + 1, .tup xs => decide (xs.length ≤ 1000) && xs.all (lenB j)
  | _ + 1, _ => true
def sp_sm (j : Nat) : SpD := fun ds S Q => ∃ x y, ds = [x, y] ∧ (0 < j ∧ ((x = y ∧ plainB j x = true ∧ lenB j x = true) ∨ ∃ a b xs, x = .ref a ∧ y = .ref b ∧ S a = some (.lst xs) ∧ S b = some (.lst xs) ∧ xs.length ≤ 1000 ∧ xs.all (plainB (j - 1)) = true ∧ xs.all (lenB (j - 1)) = true)) ∧ Q (.bl true) S
theorem all_true (n : Nat) : (List.replicate n true).all id = true := by
  rw [List.all_eq_true]
  intro x hx
  rw [List.eq_of_mem_replicate hx]; rfl
theorem map_const (n : Nat) : (rngD 0 1 n).map (fun _ => D.bl true) = (List.replicate n true).map D.bl := by
  unfold rngD
  rw [List.map_map, List.map_replicate]
  refine List.eq_replicate_iff.mpr ⟨by simp, fun b hb => ?_⟩
  obtain ⟨i, _, rfl⟩ := List.mem_map.mp hb
  rfl
theorem same_items {j : Nat} {xs : List D} (h1 : xs.all (plainB j) = true) (h2 : xs.all (lenB j) = true) {i : Nat} (hi : i < xs.length) : plainB j xs[i] = true ∧ lenB j xs[i] = true :=
  ⟨List.all_eq_true.mp h1 _ (List.getElem_mem _), List.all_eq_true.mp h2 _ (List.getElem_mem _)⟩
theorem plain_pos : ∀ {j : Nat} {x : D}, plainB j x = true → 0 < j
  | 0, _, h => by unfold plainB at h; cases h
  | j + 1, _, _ => Nat.succ_pos j
theorem vc__law_same (j : Nat) : VC (sp_sm (j + 1)) (F__law_same.ws (sp_sm j)) F__law_same.N 2 := by
  rintro ds S Q ⟨x, y, rfl, ⟨_, h⟩, q⟩
  refine ⟨rfl, ?_⟩
  have lz := line_ge
  rcases h with ⟨rfl, hp, hl⟩ | ⟨a, b, xs, rfl, rfl, ha, hb, hz, hp, hl⟩
  · cases x with
    | non => exact ret_here q
    | int i =>
      have z : (ends Q).rt (.bl (decide (i = i))) S := by rw [decide_eq_true rfl]; exact ret_here q
      exact z
    | str t =>
      have z : (ends Q).rt (.bl (decide (t = t))) S := by rw [decide_eq_true rfl]; exact ret_here q
      exact z
    | tup xs =>
      unfold plainB at hp
      unfold lenB at hl
      rw [Bool.and_eq_true] at hl
      have hz := of_decide_eq_true hl.1
      have fin : compD (fun _ => True) (.nm 3) wYes (wCall (sp_sm j) (wCons (wBin oIdx (wVar 0) (wVar 3)) (wCons (wBin oIdx (wVar 1) (wVar 3)) wNil))) [some (.tup xs), some (.tup xs), some (.bl true), none] (rngD 0 1 xs.length) [] S fun acc S2 => newK S2 (.lst acc) fun d S1 => bAll [d] S1 (ends Q).rt := by
        refine PD.comp_map (fun _ => .bl true) (fun d S1 Q1 hm ex q1 => ?_) (fun _ _ => trivial) (by rw [List.length_nil, rngD_len]; omega) fun S1 x1 => newE x1 fun p S2 x2 _ k2 => ?_
        · obtain ⟨i, hi⟩ := List.getElem?_of_mem hm
          obtain ⟨hlt, rfl⟩ := rngD_get hi
          have e0 : (0 : Int) + (i : Int) * 1 = (i : Int) := by omega
          rw [e0]
          refine ⟨_, rfl, ?_⟩
          obtain ⟨h1, h2⟩ := same_items hp hl.2 hlt
          simp only [wSeq, wNext, wRet, wRetN, wAsg, wPar, wPar3, wIfS, wIf, wBt, tru, wAndT, wOrT, wNotT, wAndV, wOrV, wNotV, wBin, wUn, uNeg, wCall, wCB, wM, gAppend, gPopAt, gPop, wVar, wC, wNil, wCons, wTup, wLst, wDrop, wPut, wBits, wDisp, wPairs, wYes, wCont, wBreak, wFor, wLc, wLc2, wVal, valK, wRng1, wRng2, wKeys, wIsi, tyD, wSl, wNoPart, wPart, startD, asg, asgs, asgK, oAdd, oSub, oMul, oDiv, oMod, oShl, oShr, oInt, oInt0, oRel, oLt, oLe, oGt, oGe, oIn, oIdx, bLen, bInt, bAbs, bMax, bMin, bSum, bAll, bAny, bSorted, bTuple, intsOf, blsOf, List.map_cons, List.map_nil, List.cons_append, List.nil_append, List.length_cons, List.length_nil, List.getElem?_cons_zero, List.getElem?_cons_succ, List.set_cons_zero, List.set_cons_succ, List.replicate_succ, List.replicate_zero, Nat.reduceSub, Nat.reduceAdd, Nat.zero_add, wipeD, put_same, atI_0, atI_1, atI_2, atI_3, atI_4, oEq_str, oEq_int, oEq_bl, flat_int, flat_str, inD_nil, inD_cons, eqF_str, eqF_int, List.all_cons, List.all_nil, Bool.and_true, Bool.true_and, Bool.or_false, decide_eq_true_eq, PD.wTru, sp_column_part, sp_number_part, sp_gap_part, sp_product_part, true_and, and_true, atI_nat hlt, List.getElem?_eq_getElem hlt]
          exact ⟨_, _, rfl, ⟨plain_pos h1, .inl ⟨rfl, h1, h2⟩⟩, q1 S1 (Ext.refl _)⟩
        · refine ⟨List.replicate xs.length true, ?_, ?_⟩
          · show S2 p = some (.lst ((List.replicate xs.length true).map D.bl))
            rw [k2, ← map_const]; rfl
          · rw [all_true]; exact ret_ext x2 q
      unfold F__law_same.ws; simp (decide := true) only [wSeq, wNext, wRet, wRetN, wAsg, wPar, wPar3, wIfS, wIf, wBt, tru, wAndT, wOrT, wNotT, wAndV, wOrV, wNotV, wBin, wUn, uNeg, wCall, wCB, wM, gAppend, gPopAt, gPop, wVar, wC, wNil, wCons, wTup, wLst, wDrop, wPut, wBits, wDisp, wPairs, wYes, wCont, wBreak, wFor, wLc, wLc2, wVal, valK, wRng1, wRng2, wKeys, wIsi, tyD, wSl, wNoPart, wPart, startD, asg, asgs, asgK, oAdd, oSub, oMul, oDiv, oMod, oShl, oShr, oInt, oInt0, oRel, oLt, oLe, oGt, oGe, oIn, oIdx, bLen, bInt, bAbs, bMax, bMin, bSum, bAll, bAny, bSorted, bTuple, intsOf, blsOf, List.map_cons, List.map_nil, List.cons_append, List.nil_append, List.length_cons, List.length_nil, List.getElem?_cons_zero, List.getElem?_cons_succ, List.set_cons_zero, List.set_cons_succ, List.replicate_succ, List.replicate_zero, Nat.reduceSub, Nat.reduceAdd, Nat.zero_add, wipeD, put_same, atI_0, atI_1, atI_2, atI_3, atI_4, oEq_str, oEq_int, oEq_bl, flat_int, flat_str, inD_nil, inD_cons, eqF_str, eqF_int, List.all_cons, List.all_nil, Bool.and_true, Bool.true_and, Bool.or_false, decide_eq_true_eq, PD.wTru, sp_column_part, sp_number_part, sp_gap_part, sp_product_part, true_and, and_true]
      refine ⟨by omega, by omega, ?_⟩
      exact fin
    | _ => cases hp
  · have fin : compD (fun _ => True) (.nm 3) wYes (wCall (sp_sm j) (wCons (wBin oIdx (wVar 0) (wVar 3)) (wCons (wBin oIdx (wVar 1) (wVar 3)) wNil))) [some (.ref a), some (.ref b), some (.bl true), none] (rngD 0 1 xs.length) [] S fun acc S2 => newK S2 (.lst acc) fun d S1 => bAll [d] S1 (ends Q).rt := by
      refine PD.comp_map (fun _ => .bl true) (fun d S1 Q1 hm ex q1 => ?_) (fun _ _ => trivial) (by rw [List.length_nil, rngD_len]; omega) fun S1 x1 => newE x1 fun p S2 x2 _ k2 => ?_
      · obtain ⟨i, hi⟩ := List.getElem?_of_mem hm
        obtain ⟨hlt, rfl⟩ := rngD_get hi
        have e0 : (0 : Int) + (i : Int) * 1 = (i : Int) := by omega
        rw [e0]
        refine ⟨_, rfl, ?_⟩
        obtain ⟨h1, h2⟩ := same_items hp hl hlt
        simp only [wSeq, wNext, wRet, wRetN, wAsg, wPar, wPar3, wIfS, wIf, wBt, tru, wAndT, wOrT, wNotT, wAndV, wOrV, wNotV, wBin, wUn, uNeg, wCall, wCB, wM, gAppend, gPopAt, gPop, wVar, wC, wNil, wCons, wTup, wLst, wDrop, wPut, wBits, wDisp, wPairs, wYes, wCont, wBreak, wFor, wLc, wLc2, wVal, valK, wRng1, wRng2, wKeys, wIsi, tyD, wSl, wNoPart, wPart, startD, asg, asgs, asgK, oAdd, oSub, oMul, oDiv, oMod, oShl, oShr, oInt, oInt0, oRel, oLt, oLe, oGt, oGe, oIn, oIdx, bLen, bInt, bAbs, bMax, bMin, bSum, bAll, bAny, bSorted, bTuple, intsOf, blsOf, List.map_cons, List.map_nil, List.cons_append, List.nil_append, List.length_cons, List.length_nil, List.getElem?_cons_zero, List.getElem?_cons_succ, List.set_cons_zero, List.set_cons_succ, List.replicate_succ, List.replicate_zero, Nat.reduceSub, Nat.reduceAdd, Nat.zero_add, wipeD, put_same, atI_0, atI_1, atI_2, atI_3, atI_4, oEq_str, oEq_int, oEq_bl, flat_int, flat_str, inD_nil, inD_cons, eqF_str, eqF_int, List.all_cons, List.all_nil, Bool.and_true, Bool.true_and, Bool.or_false, decide_eq_true_eq, PD.wTru, sp_column_part, sp_number_part, sp_gap_part, sp_product_part, true_and, and_true, ex _ _ ha, ex _ _ hb, atI_nat hlt, List.getElem?_eq_getElem hlt]
        exact ⟨_, _, rfl, ⟨plain_pos h1, .inl ⟨rfl, h1, h2⟩⟩, q1 S1 (Ext.refl _)⟩
      · refine ⟨List.replicate xs.length true, ?_, ?_⟩
        · show S2 p = some (.lst ((List.replicate xs.length true).map D.bl))
          rw [k2, ← map_const]; rfl
        · rw [all_true]; exact ret_ext x2 q
    unfold F__law_same.ws; simp (decide := true) only [wSeq, wNext, wRet, wRetN, wAsg, wPar, wPar3, wIfS, wIf, wBt, tru, wAndT, wOrT, wNotT, wAndV, wOrV, wNotV, wBin, wUn, uNeg, wCall, wCB, wM, gAppend, gPopAt, gPop, wVar, wC, wNil, wCons, wTup, wLst, wDrop, wPut, wBits, wDisp, wPairs, wYes, wCont, wBreak, wFor, wLc, wLc2, wVal, valK, wRng1, wRng2, wKeys, wIsi, tyD, wSl, wNoPart, wPart, startD, asg, asgs, asgK, oAdd, oSub, oMul, oDiv, oMod, oShl, oShr, oInt, oInt0, oRel, oLt, oLe, oGt, oGe, oIn, oIdx, bLen, bInt, bAbs, bMax, bMin, bSum, bAll, bAny, bSorted, bTuple, intsOf, blsOf, List.map_cons, List.map_nil, List.cons_append, List.nil_append, List.length_cons, List.length_nil, List.getElem?_cons_zero, List.getElem?_cons_succ, List.set_cons_zero, List.set_cons_succ, List.replicate_succ, List.replicate_zero, Nat.reduceSub, Nat.reduceAdd, Nat.zero_add, wipeD, put_same, atI_0, atI_1, atI_2, atI_3, atI_4, oEq_str, oEq_int, oEq_bl, flat_int, flat_str, inD_nil, inD_cons, eqF_str, eqF_int, List.all_cons, List.all_nil, Bool.and_true, Bool.true_and, Bool.or_false, decide_eq_true_eq, PD.wTru, sp_column_part, sp_number_part, sp_gap_part, sp_product_part, true_and, and_true]
    simp only [ha, hb]
    rw [if_pos (by decide), if_pos (by decide)]
    refine ⟨xs, rfl, xs, rfl, ?_⟩
    have e : decide ((xs.length : Int) = (xs.length : Int)) = true := decide_eq_true rfl
    rw [e]
    exact ⟨xs, rfl, by omega, by omega, fin⟩

/-! ### the law's own: state, draws -/
theorem asg_c {i : Nat} {v : D} {E : DE} {ρ : PD.Env} {S : Sto} (q : E.nx (ρ.set i (some v)) S) : wAsg (wC v) (.nm i) E ρ S := q
theorem for_var {i : Nat} {t : Tg} {b : WS} {E : DE} {ρ : PD.Env} {S : Sto} {d : D} (h : ρ[i]? = some (some d)) (q : valK d S fun it S1 => loopD it.ok t b it.ds E ρ S1) : wFor (wVal (wVar i)) t b E ρ S := by
  unfold wFor wVal wVar
  simp only [h]
  exact q
theorem lc_var {i : Nat} {t : Tg} {tt : WT} {te : WE} {vs : List Nat} {ρ : PD.Env} {S : Sto} {d : D} {Q : KD} (h : ρ[i]? = some (some d)) (q : valK d S fun it S1 => compD it.ok t tt te (wipeD ρ vs) it.ds [] S1 fun acc S2 => newK S2 (.lst acc) Q) : wLc (wVal (wVar i)) t tt te vs ρ S Q := by
  unfold wLc wVal wVar
  simp only [h]
  exact q
theorem asg_idx {i j : Nat} {k : Int} {E : DE} {ρ : PD.Env} {S : Sto} {a : Addr} {xs : List D} {d : D} (h : ρ[i]? = some (some (.ref a))) (ha : S a = some (.lst xs)) (e : atI xs k = some d) (q : E.nx (ρ.set j (some d)) S) : wAsg (wBin oIdx (wVar i) (wC (.int k))) (.nm j) E ρ S := by
  unfold wAsg wBin wVar
  simp only [h]
  exact idx_lst ha e q
def scr (S : Sto) (d : D) (ns : List Int) : Prop := d = .rl (ns.map D.int) ∨ ∃ a, d = .ref a ∧ S a = some (.lst (ns.map D.int))
theorem scr_val {S : Sto} {d : D} {ns : List Int} {R : ItD → Sto → Prop} (h : scr S d ns) (q : ∀ ok : Sto → Prop, (∀ S', Ext S S' → ok S') → R ⟨ns.map D.int, ok⟩ S) : valK d S R := by
  rcases h with rfl | ⟨a, rfl, ha⟩
  · exact q _ fun _ _ => trivial
  · exact val_lst ha (q _ fun S' e => e _ _ ha)
def stt (S : Sto) (st c : Addr) (cs : List Int) (sd : Int) : Prop := S st = some (.lst [.ref c, .int sd]) ∧ S c = some (.lst (cs.map D.int)) ∧ 0 ≤ sd ∧ sd < 2 ^ 40
def sp__law_state : SpD := fun ds S Q => ∃ d ns, ds = [d] ∧ scr S d ns ∧ ns.length ≤ 1000 ∧ ∀ st c cs sd S', Ext S S' → S st = none → S c = none → st ≠ c → stt S' st c cs sd → Q (.ref st) S'
theorem vc__law_state : VC sp__law_state (F__law_state.ws) F__law_state.N 1 := by
  rintro ds S Q ⟨d, ns, rfl, hd, hz, q⟩
  refine ⟨rfl, ?_⟩
  have lz := line_ge
  unfold F__law_state.ws
  refine sq ?_
  refine asg_c (i := 1) ?_
  dsimp only
  refine sq ?_
  refine for_var (i := 0) (d := d) ?_ ?_
  · rfl
  refine scr_val hd fun ok hok => ?_
  refine loop_of (fun i ρ S' => S' = S ∧ ∃ r sd, ρ = [some d, some (.int sd), r] ∧ 0 ≤ sd ∧ sd < 2 ^ 30) ⟨rfl, none, 7, rfl, by decide, by decide⟩ ?_ ?_
  · rintro i x ρ S' hx ⟨rfl, r, sd, rfl, h0, h1⟩
    have hx : (ns.map D.int)[i]? = some x := hx
    rw [List.getElem?_map] at hx
    cases e : ns[i]? with
    | none => rw [e] at hx; cases hx
    | some v =>
      rw [e] at hx; cases hx
      refine ⟨_, rfl, mulz (by omega) (by decide), (show (0 : Int) < 1000003 by decide), hok S' (Ext.refl _), rfl, some (.int v), (sd * 31 + v) % 1000003, rfl, Int.emod_nonneg _ (by decide), ?_⟩
      have := Int.emod_lt_of_pos (sd * 31 + v) (show (0 : Int) < 1000003 by decide)
      omega
  · rintro ρ S' ⟨rfl, r, sd, rfl, h0, h1⟩
    show wLc (wVal (wVar 0)) (.nm 2) wYes (wCB bAbs (wCons (wVar 2) wNil)) [2] [some d, some (.int sd), r] S' _
    refine lc_var (i := 0) (d := d) ?_ ?_
    · rfl
    refine scr_val hd fun ok hok => ?_
    have e : (ns.map D.int).map (fun x => match x with | .int i => .int (if i < 0 then -i else i) | d => d) = (ns.map fun i => if i < 0 then -i else i).map D.int := by
      rw [List.map_map, List.map_map]; rfl
    refine PD.comp_map (fun x => match x with | .int i => .int (if i < 0 then -i else i) | d => d) (fun x S1 Q1 hm ex q1 => ?_) (fun S1 ex => hok S1 ex) (by rw [List.length_nil, List.length_map]; omega) fun S1 x1 => fun c S2 nc e2 => ?_
    · obtain ⟨v, _, rfl⟩ := List.mem_map.mp hm
      exact ⟨_, rfl, q1 S1 (Ext.refl _)⟩
    · refine ⟨(show 2 ≤ sizeLine by decide), fun st S3 ns3 e3 => ?_⟩
      have k2 : S2 c = some (.lst ((ns.map fun i => if i < 0 then -i else i).map D.int)) := by
        rw [e2, put_same, ← e]; rfl
      have x2 : Ext S' S2 := by rw [e2]; exact x1.put' nc
      have x3 : Ext S' S3 := by rw [e3]; exact x2.put' ns3
      refine ret_here (q st c (ns.map fun i => if i < 0 then -i else i) (sd + 1) S3 x3 (x2.none ns3) (x1.none nc) (fun z => by rw [z, k2] at ns3; cases ns3) ⟨by rw [e3, put_same], ?_, by omega, by omega⟩)
      rw [e3]; exact Ext.put ns3 c _ k2
theorem put_self {S : Sto} {a : Addr} {o : O} (h : S a = some o) : put S a o = S := by
  funext b
  unfold put
  by_cases q : b = a
  · rw [if_pos q, q, h]
  · rw [if_neg q]
def sp__law_draw : SpD := fun ds S Q => ∃ st c cs sd many, ds = [.ref st, .int many] ∧ st ≠ c ∧ stt S st c cs sd ∧ 0 < many ∧ many < 2 ^ 30 ∧
  ∀ v cs' sd', 0 ≤ v → v < many → stt (put (put S c (.lst (cs'.map D.int))) st (.lst [.ref c, .int sd'])) st c cs' sd' → Q (.int v) (put (put S c (.lst (cs'.map D.int))) st (.lst [.ref c, .int sd']))
theorem stt_put {S : Sto} {st c : Addr} {cs : List Int} {sd : Int} (h : st ≠ c) (h0 : 0 ≤ sd) (h1 : sd < 2 ^ 40) : stt (put (put S c (.lst (cs.map D.int))) st (.lst [.ref c, .int sd])) st c cs sd :=
  ⟨put_same, by rw [put_ne (Ne.symm h), put_same], h0, h1⟩
theorem vc__law_draw : VC sp__law_draw (F__law_draw.ws) F__law_draw.N 2 := by
  rintro ds S Q ⟨st, c, cs, sd, many, rfl, hne, ⟨h1, h2, h3, h4⟩, m1, m2, q⟩
  refine ⟨rfl, ?_⟩
  unfold F__law_draw.ws
  refine sq (asg_idx rfl h1 (d := .ref c) rfl ?_)
  refine sq ⟨fun m ρ S' => ∃ cs1, ρ = [some (.ref st), some (.int many), some (.ref c), none, none] ∧ S' = put S c (.lst (cs1.map D.int)) ∧ cs1.length = m, ⟨cs.length, cs, rfl, (put_self h2).symm, rfl⟩, ?_⟩
  rintro m ρ S' ⟨cs1, rfl, rfl, hm⟩
  have kst : put S c (.lst (cs1.map D.int)) st = some (.lst [.ref c, .int sd]) := by rw [put_ne hne]; exact h1
  have kc : put S c (.lst (cs1.map D.int)) c = some (.lst (cs1.map D.int)) := put_same
  cases cs1 with
  | nil =>
    simp only [List.map_nil] at kst kc
    simp (decide := true) only [wNext, wRet, wRetN, wAsg, wPar, wPar3, wIfS, wIf, wBt, tru, wAndT, wOrT, wNotT, wAndV, wOrV, wNotV, wBin, wUn, uNeg, wCall, wCB, wM, gAppend, gPopAt, gPop, wVar, wC, wNil, wCons, wTup, wLst, wDrop, wPut, wBits, wDisp, wPairs, wYes, wCont, wBreak, wFor, wLc, wLc2, wVal, valK, wRng1, wRng2, wKeys, wIsi, tyD, wSl, wNoPart, wPart, startD, asg, asgs, asgK, oAdd, oSub, oMul, oDiv, oMod, oShl, oShr, oInt, oInt0, oRel, oLt, oLe, oGt, oGe, oIn, oIdx, bLen, bInt, bAbs, bMax, bMin, bSum, bAll, bAny, bSorted, bTuple, intsOf, blsOf, List.map_cons, List.map_nil, List.cons_append, List.nil_append, List.length_cons, List.length_nil, List.getElem?_cons_zero, List.getElem?_cons_succ, List.set_cons_zero, List.set_cons_succ, List.replicate_succ, List.replicate_zero, Nat.reduceSub, Nat.reduceAdd, Nat.zero_add, wipeD, put_same, atI_0, atI_1, atI_2, atI_3, atI_4, oEq_str, oEq_int, oEq_bl, flat_int, flat_str, inD_nil, inD_cons, eqF_str, eqF_int, List.all_cons, List.all_nil, Bool.and_true, Bool.true_and, Bool.or_false, decide_eq_true_eq, PD.wTru, sp_column_part, sp_number_part, sp_gap_part, sp_product_part, true_and, and_true, kc, kst]
    refine ⟨[], rfl, ?_⟩
    rw [if_neg (by decide), if_neg (fun h => h)]
    refine sq ?_
    simp (decide := true) only [wNext, wRet, wRetN, wAsg, wPar, wPar3, wIfS, wIf, wBt, tru, wAndT, wOrT, wNotT, wAndV, wOrV, wNotV, wBin, wUn, uNeg, wCall, wCB, wM, gAppend, gPopAt, gPop, wVar, wC, wNil, wCons, wTup, wLst, wDrop, wPut, wBits, wDisp, wPairs, wYes, wCont, wBreak, wFor, wLc, wLc2, wVal, valK, wRng1, wRng2, wKeys, wIsi, tyD, wSl, wNoPart, wPart, startD, asg, asgs, asgK, oAdd, oSub, oMul, oDiv, oMod, oShl, oShr, oInt, oInt0, oRel, oLt, oLe, oGt, oGe, oIn, oIdx, bLen, bInt, bAbs, bMax, bMin, bSum, bAll, bAny, bSorted, bTuple, intsOf, blsOf, List.map_cons, List.map_nil, List.cons_append, List.nil_append, List.length_cons, List.length_nil, List.getElem?_cons_zero, List.getElem?_cons_succ, List.set_cons_zero, List.set_cons_succ, List.replicate_succ, List.replicate_zero, Nat.reduceSub, Nat.reduceAdd, Nat.zero_add, wipeD, put_same, atI_0, atI_1, atI_2, atI_3, atI_4, oEq_str, oEq_int, oEq_bl, flat_int, flat_str, inD_nil, inD_cons, eqF_str, eqF_int, List.all_cons, List.all_nil, Bool.and_true, Bool.true_and, Bool.or_false, decide_eq_true_eq, PD.wTru, sp_column_part, sp_number_part, sp_gap_part, sp_product_part, true_and, and_true, kc, kst]
    refine ⟨[], rfl, ?_⟩
    rw [if_neg (by decide)]
    refine sq ?_
    simp (decide := true) only [wNext, wRet, wRetN, wAsg, wPar, wPar3, wIfS, wIf, wBt, tru, wAndT, wOrT, wNotT, wAndV, wOrV, wNotV, wBin, wUn, uNeg, wCall, wCB, wM, gAppend, gPopAt, gPop, wVar, wC, wNil, wCons, wTup, wLst, wDrop, wPut, wBits, wDisp, wPairs, wYes, wCont, wBreak, wFor, wLc, wLc2, wVal, valK, wRng1, wRng2, wKeys, wIsi, tyD, wSl, wNoPart, wPart, startD, asg, asgs, asgK, oAdd, oSub, oMul, oDiv, oMod, oShl, oShr, oInt, oInt0, oRel, oLt, oLe, oGt, oGe, oIn, oIdx, bLen, bInt, bAbs, bMax, bMin, bSum, bAll, bAny, bSorted, bTuple, intsOf, blsOf, List.map_cons, List.map_nil, List.cons_append, List.nil_append, List.length_cons, List.length_nil, List.getElem?_cons_zero, List.getElem?_cons_succ, List.set_cons_zero, List.set_cons_succ, List.replicate_succ, List.replicate_zero, Nat.reduceSub, Nat.reduceAdd, Nat.zero_add, wipeD, put_same, atI_0, atI_1, atI_2, atI_3, atI_4, oEq_str, oEq_int, oEq_bl, flat_int, flat_str, inD_nil, inD_cons, eqF_str, eqF_int, List.all_cons, List.all_nil, Bool.and_true, Bool.true_and, Bool.or_false, decide_eq_true_eq, PD.wTru, sp_column_part, sp_number_part, sp_gap_part, sp_product_part, true_and, and_true, kc, kst]
    refine ⟨mulz (by omega) (by decide), ?_⟩
    refine sq ?_
    simp (decide := true) only [wNext, wRet, wRetN, wAsg, wPar, wPar3, wIfS, wIf, wBt, tru, wAndT, wOrT, wNotT, wAndV, wOrV, wNotV, wBin, wUn, uNeg, wCall, wCB, wM, gAppend, gPopAt, gPop, wVar, wC, wNil, wCons, wTup, wLst, wDrop, wPut, wBits, wDisp, wPairs, wYes, wCont, wBreak, wFor, wLc, wLc2, wVal, valK, wRng1, wRng2, wKeys, wIsi, tyD, wSl, wNoPart, wPart, startD, asg, asgs, asgK, oAdd, oSub, oMul, oDiv, oMod, oShl, oShr, oInt, oInt0, oRel, oLt, oLe, oGt, oGe, oIn, oIdx, bLen, bInt, bAbs, bMax, bMin, bSum, bAll, bAny, bSorted, bTuple, intsOf, blsOf, List.map_cons, List.map_nil, List.cons_append, List.nil_append, List.length_cons, List.length_nil, List.getElem?_cons_zero, List.getElem?_cons_succ, List.set_cons_zero, List.set_cons_succ, List.replicate_succ, List.replicate_zero, Nat.reduceSub, Nat.reduceAdd, Nat.zero_add, wipeD, put_same, atI_0, atI_1, atI_2, atI_3, atI_4, oEq_str, oEq_int, oEq_bl, flat_int, flat_str, inD_nil, inD_cons, eqF_str, eqF_int, List.all_cons, List.all_nil, Bool.and_true, Bool.true_and, Bool.or_false, decide_eq_true_eq, PD.wTru, sp_column_part, sp_number_part, sp_gap_part, sp_product_part, true_and, and_true, kc, kst]
    have b0 := Int.emod_nonneg (sd * 48271 + 12345) (show (2147483647 : Int) ≠ 0 by decide)
    have b1 := Int.emod_lt_of_pos (sd * 48271 + 12345) (show (0 : Int) < 2147483647 by decide)
    refine ⟨1, rfl, divw (by decide) (by decide), m1, ret_here ?_⟩
    exact q _ [] _ (Int.emod_nonneg _ (by omega)) (Int.emod_lt_of_pos _ m1) (stt_put hne b0 (by omega))
  | cons v cs1 =>
    simp only [List.map_cons] at kst kc
    by_cases hv : v = 0
    · subst hv
      simp (decide := true) only [wNext, wRet, wRetN, wAsg, wPar, wPar3, wIfS, wIf, wBt, tru, wAndT, wOrT, wNotT, wAndV, wOrV, wNotV, wBin, wUn, uNeg, wCall, wCB, wM, gAppend, gPopAt, gPop, wVar, wC, wNil, wCons, wTup, wLst, wDrop, wPut, wBits, wDisp, wPairs, wYes, wCont, wBreak, wFor, wLc, wLc2, wVal, valK, wRng1, wRng2, wKeys, wIsi, tyD, wSl, wNoPart, wPart, startD, asg, asgs, asgK, oAdd, oSub, oMul, oDiv, oMod, oShl, oShr, oInt, oInt0, oRel, oLt, oLe, oGt, oGe, oIn, oIdx, bLen, bInt, bAbs, bMax, bMin, bSum, bAll, bAny, bSorted, bTuple, intsOf, blsOf, List.map_cons, List.map_nil, List.cons_append, List.nil_append, List.length_cons, List.length_nil, List.getElem?_cons_zero, List.getElem?_cons_succ, List.set_cons_zero, List.set_cons_succ, List.replicate_succ, List.replicate_zero, Nat.reduceSub, Nat.reduceAdd, Nat.zero_add, wipeD, put_same, atI_0, atI_1, atI_2, atI_3, atI_4, oEq_str, oEq_int, oEq_bl, flat_int, flat_str, inD_nil, inD_cons, eqF_str, eqF_int, List.all_cons, List.all_nil, Bool.and_true, Bool.true_and, Bool.or_false, decide_eq_true_eq, PD.wTru, sp_column_part, sp_number_part, sp_gap_part, sp_product_part, true_and, and_true, kc, kst]
      refine ⟨_, rfl, ?_⟩
      rw [if_pos (by simp)]
      simp (decide := true) only [if_true]
      refine ⟨fun ρ S2 => ρ = [some (.ref st), some (.int many), some (.ref c), none, none] ∧ S2 = put S c (.lst (cs1.map D.int)), ?_, ⟨_, rfl⟩, ?_⟩
      · rintro ρ S2 ⟨rfl, rfl⟩
        exact ⟨cs1.length, by rw [← hm]; simp, cs1, rfl, rfl, rfl⟩
      · refine ⟨0, .int 0, ?_, rfl, rfl, ?_⟩
        · unfold seqIndex?; simp; try omega
        · rw [put_put]; rfl
    · simp (decide := true) only [wNext, wRet, wRetN, wAsg, wPar, wPar3, wIfS, wIf, wBt, tru, wAndT, wOrT, wNotT, wAndV, wOrV, wNotV, wBin, wUn, uNeg, wCall, wCB, wM, gAppend, gPopAt, gPop, wVar, wC, wNil, wCons, wTup, wLst, wDrop, wPut, wBits, wDisp, wPairs, wYes, wCont, wBreak, wFor, wLc, wLc2, wVal, valK, wRng1, wRng2, wKeys, wIsi, tyD, wSl, wNoPart, wPart, startD, asg, asgs, asgK, oAdd, oSub, oMul, oDiv, oMod, oShl, oShr, oInt, oInt0, oRel, oLt, oLe, oGt, oGe, oIn, oIdx, bLen, bInt, bAbs, bMax, bMin, bSum, bAll, bAny, bSorted, bTuple, intsOf, blsOf, List.map_cons, List.map_nil, List.cons_append, List.nil_append, List.length_cons, List.length_nil, List.getElem?_cons_zero, List.getElem?_cons_succ, List.set_cons_zero, List.set_cons_succ, List.replicate_succ, List.replicate_zero, Nat.reduceSub, Nat.reduceAdd, Nat.zero_add, wipeD, put_same, atI_0, atI_1, atI_2, atI_3, atI_4, oEq_str, oEq_int, oEq_bl, flat_int, flat_str, inD_nil, inD_cons, eqF_str, eqF_int, List.all_cons, List.all_nil, Bool.and_true, Bool.true_and, Bool.or_false, decide_eq_true_eq, PD.wTru, sp_column_part, sp_number_part, sp_gap_part, sp_product_part, true_and, and_true, kc, kst]
      refine ⟨_, rfl, ?_⟩
      rw [if_pos (by simp)]
      simp only [hv, if_false]
      refine sq ?_
      simp (decide := true) only [wNext, wRet, wRetN, wAsg, wPar, wPar3, wIfS, wIf, wBt, tru, wAndT, wOrT, wNotT, wAndV, wOrV, wNotV, wBin, wUn, uNeg, wCall, wCB, wM, gAppend, gPopAt, gPop, wVar, wC, wNil, wCons, wTup, wLst, wDrop, wPut, wBits, wDisp, wPairs, wYes, wCont, wBreak, wFor, wLc, wLc2, wVal, valK, wRng1, wRng2, wKeys, wIsi, tyD, wSl, wNoPart, wPart, startD, asg, asgs, asgK, oAdd, oSub, oMul, oDiv, oMod, oShl, oShr, oInt, oInt0, oRel, oLt, oLe, oGt, oGe, oIn, oIdx, bLen, bInt, bAbs, bMax, bMin, bSum, bAll, bAny, bSorted, bTuple, intsOf, blsOf, List.map_cons, List.map_nil, List.cons_append, List.nil_append, List.length_cons, List.length_nil, List.getElem?_cons_zero, List.getElem?_cons_succ, List.set_cons_zero, List.set_cons_succ, List.replicate_succ, List.replicate_zero, Nat.reduceSub, Nat.reduceAdd, Nat.zero_add, wipeD, put_same, atI_0, atI_1, atI_2, atI_3, atI_4, oEq_str, oEq_int, oEq_bl, flat_int, flat_str, inD_nil, inD_cons, eqF_str, eqF_int, List.all_cons, List.all_nil, Bool.and_true, Bool.true_and, Bool.or_false, decide_eq_true_eq, PD.wTru, sp_column_part, sp_number_part, sp_gap_part, sp_product_part, true_and, and_true, kc, kst]
      refine ⟨_, rfl, ?_⟩
      rw [if_pos (by simp)]
      refine sq ?_
      simp (decide := true) only [wNext, wRet, wRetN, wAsg, wPar, wPar3, wIfS, wIf, wBt, tru, wAndT, wOrT, wNotT, wAndV, wOrV, wNotV, wBin, wUn, uNeg, wCall, wCB, wM, gAppend, gPopAt, gPop, wVar, wC, wNil, wCons, wTup, wLst, wDrop, wPut, wBits, wDisp, wPairs, wYes, wCont, wBreak, wFor, wLc, wLc2, wVal, valK, wRng1, wRng2, wKeys, wIsi, tyD, wSl, wNoPart, wPart, startD, asg, asgs, asgK, oAdd, oSub, oMul, oDiv, oMod, oShl, oShr, oInt, oInt0, oRel, oLt, oLe, oGt, oGe, oIn, oIdx, bLen, bInt, bAbs, bMax, bMin, bSum, bAll, bAny, bSorted, bTuple, intsOf, blsOf, List.map_cons, List.map_nil, List.cons_append, List.nil_append, List.length_cons, List.length_nil, List.getElem?_cons_zero, List.getElem?_cons_succ, List.set_cons_zero, List.set_cons_succ, List.replicate_succ, List.replicate_zero, Nat.reduceSub, Nat.reduceAdd, Nat.zero_add, wipeD, put_same, atI_0, atI_1, atI_2, atI_3, atI_4, oEq_str, oEq_int, oEq_bl, flat_int, flat_str, inD_nil, inD_cons, eqF_str, eqF_int, List.all_cons, List.all_nil, Bool.and_true, Bool.true_and, Bool.or_false, decide_eq_true_eq, PD.wTru, sp_column_part, sp_number_part, sp_gap_part, sp_product_part, true_and, and_true, kc, kst]
      refine sq ?_
      simp (decide := true) only [wNext, wRet, wRetN, wAsg, wPar, wPar3, wIfS, wIf, wBt, tru, wAndT, wOrT, wNotT, wAndV, wOrV, wNotV, wBin, wUn, uNeg, wCall, wCB, wM, gAppend, gPopAt, gPop, wVar, wC, wNil, wCons, wTup, wLst, wDrop, wPut, wBits, wDisp, wPairs, wYes, wCont, wBreak, wFor, wLc, wLc2, wVal, valK, wRng1, wRng2, wKeys, wIsi, tyD, wSl, wNoPart, wPart, startD, asg, asgs, asgK, oAdd, oSub, oMul, oDiv, oMod, oShl, oShr, oInt, oInt0, oRel, oLt, oLe, oGt, oGe, oIn, oIdx, bLen, bInt, bAbs, bMax, bMin, bSum, bAll, bAny, bSorted, bTuple, intsOf, blsOf, List.map_cons, List.map_nil, List.cons_append, List.nil_append, List.length_cons, List.length_nil, List.getElem?_cons_zero, List.getElem?_cons_succ, List.set_cons_zero, List.set_cons_succ, List.replicate_succ, List.replicate_zero, Nat.reduceSub, Nat.reduceAdd, Nat.zero_add, wipeD, put_same, atI_0, atI_1, atI_2, atI_3, atI_4, oEq_str, oEq_int, oEq_bl, flat_int, flat_str, inD_nil, inD_cons, eqF_str, eqF_int, List.all_cons, List.all_nil, Bool.and_true, Bool.true_and, Bool.or_false, decide_eq_true_eq, PD.wTru, sp_column_part, sp_number_part, sp_gap_part, sp_product_part, true_and, and_true, kc, kst]
      refine ⟨divw m1 (by omega), 0, ?_, m1, ret_here ?_⟩
      · unfold ixN; rw [if_pos (Int.le_refl 0), if_pos (by omega)]; rfl
      · rw [put_put]
        have z := q (v % many) (v / many :: cs1) sd (Int.emod_nonneg _ (by omega)) (Int.emod_lt_of_pos _ m1) (stt_put hne h3 h4)
        rw [put_self (show put S c (.lst ((v / many :: cs1).map D.int)) st = some (.lst [.ref c, .int sd]) by rw [put_ne hne]; exact h1)] at z
        exact z
end K83

namespace K83
open PySem PySem.Spec PyProof.Rows L2 PD

/-! ### the law: first loop -/
def lawL1B : WS := wSeq (wDrop (wM gAppend (wVar 5) (wCons (wTup (wCons (wTup (wCons (wC (.str "alpha")) (wCons (wVar 7) (wNil)))) (wCons (wBin oSub (wBin oAdd (wVar 9) (wVar 10)) (wC (.int 1))) (wCons (wVar 4) (wNil))))) (wNil)))) (wSeq (wDrop (wM gAppend (wVar 5) (wCons (wTup (wCons (wTup (wCons (wC (.str "zero")) (wCons (wVar 7) (wNil)))) (wCons (wBin oSub (wCall sp__law_power (wCons (wVar 4) (wCons (wVar 8) (wNil)))) (wCall sp__law_power (wCons (wBin oSub (wVar 4) (wC (.int 1))) (wCons (wVar 8) (wNil))))) (wCons (wCall sp__law_power (wCons (wVar 4) (wCons (wVar 8) (wNil)))) (wNil))))) (wNil)))) (wSeq (wDrop (wM gAppend (wVar 5) (wCons (wTup (wCons (wTup (wCons (wC (.str "rounds")) (wCons (wVar 7) (wNil)))) (wCons (wBin oSub (wCall sp__law_power (wCons (wVar 4) (wCons (wVar 8) (wNil)))) (wCall sp__law_power (wCons (wBin oAdd (wBin oSub (wVar 4) (wVar 11)) (wC (.int 1))) (wCons (wVar 8) (wNil))))) (wCons (wCall sp__law_power (wCons (wVar 4) (wCons (wVar 8) (wNil)))) (wNil))))) (wNil)))) (wSeq (wIfS (wBt (wBin oNe (wCall sp_domain_reads (wCons (wVar 7) (wCons (wVar 3) (wNil)))) (wBin oAdd (wBin oAdd (wBin oMul (wVar 8) (wVar 11)) (wVar 12)) (wVar 13)))) (wRet (wC (.bl false))) (wNext)) (wAsg (wBin oAdd (wBin oAdd (wBin oAdd (wVar 6) (wBin oMul (wVar 8) (wVar 11))) (wVar 12)) (wVar 13)) (.nm 6)))))
def sumTo {α : Type} (f : α → Int) (l : List α) (i : Nat) : Int := ((l.take i).map f).sum
theorem sumTo_next {α : Type} {f : α → Int} {l : List α} {i : Nat} {x : α} (h : l[i]? = some x) : sumTo f l (i + 1) = sumTo f l i + f x := by
  unfold sumTo
  rw [take_next h, List.map_append, List.sum_append]
  simp
theorem dom_rows {n : Nat} {i : Nat} {x : D} (h : (domRows n)[i]? = some x) : ∃ d r s, domsS[i]? = some d ∧ x = domRow d n r s (mszOf d) (firstMany d) (secondMany d) ∧ r + s = (ruleN d : Nat) ∧ Dom d := by
  have hi : i < 4 := (List.getElem?_eq_some_iff.mp h).1
  have : i = 0 ∨ i = 1 ∨ i = 2 ∨ i = 3 := by omega
  have r1 : ((ruleN "rows" : Nat) : Int) = 23 + 3 := by decide +kernel
  have r2 : ((ruleN "cells" : Nat) : Int) = 3 + 1 := by decide +kernel
  have r3 : ((ruleN "code" : Nat) : Int) = 1 + 1 := by decide +kernel
  have r4 : ((ruleN "times" : Nat) : Int) = 1 + 1 := by decide +kernel
  rcases this with rfl | rfl | rfl | rfl
  · cases h; exact ⟨"rows", 23, 3, rfl, rfl, r1.symm, .inl rfl⟩
  · cases h; exact ⟨"cells", 3, 1, rfl, rfl, r2.symm, .inr (.inl rfl)⟩
  · cases h; exact ⟨"code", 1, 1, rfl, rfl, r3.symm, .inr (.inr (.inl rfl))⟩
  · cases h; exact ⟨"times", 1, 1, rfl, rfl, r4.symm, .inr (.inr (.inr rfl))⟩
theorem oNe_int {a b : Int} {S : Sto} {Q : KD} (h : a = b) (q : Q (.bl false) S) : oNe (.int a) (.int b) S Q := by
  subst h
  unfold oNe
  show Q (.bl (!(decide (a = a)))) S
  rw [decide_eq_true rfl]; exact q
theorem law_l1 {E : DE} {n : Nat} {p : Int} (hn : Nn n) (hp : Prm p) {S0 S : Sto} {u : Addr} {d0 s0 t0 : D} (nu : S0 u = none) (ex : Ext S0 S) (hu : S u = some (.lst [])) {ok : Sto → Prop} (hok : ∀ S', (∃ xs, S' u = some (.lst xs)) → Ext S0 S' → ok S') {q7 q8 q9 q10 q11 q12 q13 q14 q15 q16 q17 q18 q19 q20 q21 q22 q23 : Option D}
    (hE : ∀ ρ' S', Ext S0 S' → S' u = some (.lst (domsS.flatMap (partsD n p))) → (∃ q7 q8 q9 q10 q11 q12 q13 q14 q15 q16 q17 q18 q19 q20 q21 q22 q23 : Option D, ρ' = [some d0, some s0, some t0, some (.int (n : Nat)), some (.int p), some (.ref u), some (.int (12 + (drL n).sum)), q7, q8, q9, q10, q11, q12, q13, q14, q15, q16, q17, q18, q19, q20, q21, q22, q23]) → E.nx ρ' S') :
    loopD ok (.tup [.nm 7, .nm 8, .nm 9, .nm 10, .nm 11, .nm 12, .nm 13]) lawL1B (domRows n) E [some d0, some s0, some t0, some (.int (n : Nat)), some (.int p), some (.ref u), some (.int 12), q7, q8, q9, q10, q11, q12, q13, q14, q15, q16, q17, q18, q19, q20, q21, q22, q23] S := by
  obtain ⟨p1, p2⟩ := hp.lt
  have lz := line_ge
  refine loop_of (fun i ρ S' => Ext S0 S' ∧ S' u = some (.lst ((domsS.take i).flatMap (partsD n p))) ∧ ∃ q7 q8 q9 q10 q11 q12 q13 q14 q15 q16 q17 q18 q19 q20 q21 q22 q23 : Option D, ρ = [some d0, some s0, some t0, some (.int (n : Nat)), some (.int p), some (.ref u), some (.int (12 + sumTo (fun d => dreads d n) domsS i)), q7, q8, q9, q10, q11, q12, q13, q14, q15, q16, q17, q18, q19, q20, q21, q22, q23])
    ⟨ex, hu, _, _, _, _, _, _, _, _, _, _, _, _, _, _, _, _, _, rfl⟩ ?_ ?_
  · rintro i x ρ S' hx ⟨ex, k, q7, q8, q9, q10, q11, q12, q13, q14, q15, q16, q17, q18, q19, q20, q21, q22, q23, rfl⟩
    obtain ⟨d, r, s, e, rfl, hrs, dd⟩ := dom_rows hx
    have hi : i < 4 := (List.getElem?_eq_some_iff.mp e).1
    have hb := bits_le (d := d) hn
    have hm := msz_le d
    have hzz : ((domsS.take i).flatMap (partsD n p)).length ≤ 12 := by rw [pD_len, List.length_take]; show 3 * min i 4 ≤ 12; omega
    have mm : CMulX ((bitsOf d n : Nat) : Int) (mszOf d) := mulz (by omega) (by omega)
    have er : p - mszOf d + 1 = p - (mszOf d - 1) := by omega
    have ers : r + s - 1 = (ruleN d : Nat) - 1 := by omega
    refine ⟨_, rfl, ?_⟩
    refine ⟨⟨_, k⟩, (show 2 ≤ sizeLine by decide), (show 3 ≤ sizeLine by decide), gApp k (by omega) ?_⟩
    refine ⟨⟨_, put_same⟩, (show 2 ≤ sizeLine by decide), p, bitsOf d n, rfl, by omega, lt700 p2, by omega, p - 1, bitsOf d n, rfl, by omega, lt700 (by omega), by omega, p, bitsOf d n, rfl, by omega, lt700 p2, by omega, (show 3 ≤ sizeLine by decide), gApp put_same (by rw [List.length_append]; show _ + 1 < _; omega) ?_⟩
    refine ⟨⟨_, put_same⟩, (show 2 ≤ sizeLine by decide), p, bitsOf d n, rfl, by omega, lt700 p2, by omega, p - mszOf d + 1, bitsOf d n, rfl, by omega, lt700 (by omega), by omega, p, bitsOf d n, rfl, by omega, lt700 p2, by omega, (show 3 ≤ sizeLine by decide), gApp put_same (by rw [List.length_append, List.length_append]; show _ + 1 + 1 < _; omega) ?_⟩
    refine ⟨d, n, rfl, dd, hn, mm, oNe_int ?_ ?_⟩
    · unfold dreads; omega
    · refine ⟨mm, ?_⟩
      rw [put3]
      have z : 12 + (sumTo (fun d => dreads d n) domsS i + dreads d n) = 12 + sumTo (fun d => dreads d n) domsS i + ((bitsOf d n : Nat) : Int) * mszOf d + firstMany d + secondMany d := by unfold dreads; omega
      refine ⟨hok _ ⟨_, put_same⟩ (Ext.chg ex nu), Ext.chg ex nu, ?_, ?_⟩
      · rw [put_same, flat_take e, List.append_assoc, List.append_assoc, er, hrs]; rfl
      · rw [sumTo_next e, z]
        exact ⟨_, _, _, _, _, _, _, _, _, _, _, _, _, _, _, _, _, rfl⟩
  · rintro ρ S' ⟨ex, k, q7, q8, q9, q10, q11, q12, q13, q14, q15, q16, q17, q18, q19, q20, q21, q22, q23, rfl⟩
    exact hE _ S' ex k ⟨_, _, _, _, _, _, _, _, _, _, _, _, _, _, _, _, _, rfl⟩
end K83

namespace K83
open PySem PySem.Spec PyProof.Rows L2 PD

/-! ### the law: second loop -/
def lawL2B : WS := wSeq (wPar 16 17 (wCons (wTup (wCons (wBin oIdx (wVar 15) (wC (.int 0))) (wCons (wBin oIdx (wTup (wCons (wC (.str "first")) (wCons (wC (.str "second")) (wNil)))) (wBin oSub (wVar 14) (wC (.int 5)))) (wNil)))) (wCons (wBin oIdx (wVar 15) (wVar 14)) (wNil)))) (wSeq (wAsg (wCall sp__law_size (wCons (wBin oIdx (wVar 15) (wC (.int 1))) (wNil))) (.tup ((.nm 18) :: (.nm 11) :: [ ]))) (wSeq (wDrop (wM gAppend (wVar 5) (wCons (wTup (wCons (wBin oAdd (wTup (wCons (wC (.str "eta")) (wNil))) (wVar 16)) (wCons (wBin oSub (wVar 17) (wC (.int 1))) (wCons (wVar 4) (wNil))))) (wNil)))) (wSeq (wDrop (wM gAppend (wVar 5) (wCons (wTup (wCons (wBin oAdd (wTup (wCons (wC (.str "far")) (wNil))) (wVar 16)) (wCons (wBin oAdd (wVar 11) (wC (.int 1))) (wCons (wVar 4) (wNil))))) (wNil)))) (wSeq (wDrop (wM gAppend (wVar 5) (wCons (wTup (wCons (wBin oAdd (wTup (wCons (wC (.str "spots")) (wNil))) (wVar 16)) (wCons (wCall sp__law_power (wCons (wCall sp__law_spots (wCons (wVar 11) (wCons (wVar 4) (wNil)))) (wCons (wC (.int 20)) (wNil)))) (wCons (wCall sp__law_power (wCons (wVar 4) (wCons (wC (.int 20)) (wNil)))) (wNil))))) (wNil)))) (wSeq (wAsg (wBin oSub (wBits (wBin oMul (wC (.int 4)) (wVar 11))) (wC (.int 1))) (.nm 19)) (wSeq (wIfS (wBt (wBin oNe (wCall sp_book_reads (wCons (wVar 16) (wCons (wVar 3) (wNil)))) (wBin oAdd (wBin oMul (wC (.int 2)) (wVar 11)) (wBin oMul (wC (.int 20)) (wBin oAdd (wBin oMul (wVar 18) (wVar 17)) (wVar 19)))))) (wRet (wC (.bl false))) (wNext)) (wAsg (wBin oAdd (wBin oAdd (wVar 6) (wBin oMul (wC (.int 2)) (wVar 11))) (wBin oMul (wC (.int 20)) (wBin oAdd (wBin oMul (wVar 18) (wVar 17)) (wVar 19)))) (.nm 6))))))))
theorem idx_tup {ds : List D} {i : Int} {d : D} {S : Sto} {Q : KD} (e : atI ds i = some d) (q : Q d S) : oIdx (.tup ds) (.int i) S Q := by
  unfold oIdx
  simp only [e]
  exact q
def telN (i : Nat) : Str := if i = 0 then "first" else "second"
theorem name_at {i j : Nat} {d : Str} (hi : i < 2) (h : domsS[j]? = some d) : namesL[4 * i + j]? = some (d, telN i) := by
  have hj : j < 4 := (List.getElem?_eq_some_iff.mp h).1
  have h1 : i = 0 ∨ i = 1 := by omega
  have h2 : j = 0 ∨ j = 1 ∨ j = 2 ∨ j = 3 := by omega
  rcases h1 with rfl | rfl <;> rcases h2 with rfl | rfl | rfl | rfl <;> (cases h; rfl)
theorem tel_ok (i : Nat) : Tl (telN i) := by unfold telN; split; exact .inl rfl; exact .inr rfl
def OutL (n : Nat) (p : Int) (k : Nat) : List D := domsS.flatMap (partsD n p) ++ (namesL.take k).flatMap (partsN n p)
def rdT (n k : Nat) : Int := 12 + (drL n).sum + sumTo (fun q : Str × Str => readsOf q.1 q.2 n) namesL k
theorem law_l2 {E : DE} {n : Nat} {p : Int} (hn : Nn n) (hp : Prm p) {i : Nat} (hi2 : i < 2) {S0 S : Sto} {u : Addr} {d0 s0 t0 : D} (nu : S0 u = none) (ex : Ext S0 S) (hu : S u = some (.lst (OutL n p (4 * i)))) {ok : Sto → Prop} (hok : ∀ S', (∃ xs, S' u = some (.lst xs)) → Ext S0 S' → ok S')
    {q7 q8 q9 q10 q11 q12 q13 q15 q16 q17 q18 q19 q20 q21 q22 q23 : Option D}
    (hE : ∀ ρ' S', Ext S0 S' → S' u = some (.lst (OutL n p (4 * i + 4))) → (∃ q7 q8 q9 q10 q11 q12 q13 q14 q15 q16 q17 q18 q19 q20 q21 q22 q23 : Option D, ρ' = [some d0, some s0, some t0, some (.int (n : Nat)), some (.int p), some (.ref u), some (.int (rdT n (4 * i + 4))), q7, q8, q9, q10, q11, q12, q13, q14, q15, q16, q17, q18, q19, q20, q21, q22, q23]) → E.nx ρ' S') :
    loopD ok (.nm 15) lawL2B (domRows n) E [some d0, some s0, some t0, some (.int (n : Nat)), some (.int p), some (.ref u), some (.int (rdT n (4 * i))), q7, q8, q9, q10, q11, q12, q13, some (.int (5 + (i : Nat))), q15, q16, q17, q18, q19, q20, q21, q22, q23] S := by
  obtain ⟨p1, p2⟩ := hp.lt
  have lz := line_ge
  refine loop_of (fun j ρ S' => Ext S0 S' ∧ S' u = some (.lst (OutL n p (4 * i + j))) ∧ ∃ q7 q8 q9 q10 q11 q12 q13 q15 q16 q17 q18 q19 q20 q21 q22 q23 : Option D, ρ = [some d0, some s0, some t0, some (.int (n : Nat)), some (.int p), some (.ref u), some (.int (rdT n (4 * i + j))), q7, q8, q9, q10, q11, q12, q13, some (.int (5 + (i : Nat))), q15, q16, q17, q18, q19, q20, q21, q22, q23])
    ⟨ex, hu, _, _, _, _, _, _, _, _, _, _, _, _, _, _, _, _, rfl⟩ ?_ ?_
  · rintro j x ρ S' hx ⟨ex, k, q7, q8, q9, q10, q11, q12, q13, q15, q16, q17, q18, q19, q20, q21, q22, q23, rfl⟩
    obtain ⟨d, r, s, e, rfl, hrs, dd⟩ := dom_rows hx
    have hj : j < 4 := (List.getElem?_eq_some_iff.mp e).1
    have hb := bits_le (d := d) hn
    have hs := sz_le hb
    have hh := hi_le hb
    have hw := wrong_lt hs.1 hs.2 hp
    have tt := tel_ok i
    have hm := many_le dd tt
    have hpl := path_le hb
    have na := name_at hi2 e
    have hzz : (OutL n p (4 * i + j)).length ≤ 36 := by unfold OutL; rw [List.length_append, pD_len, pN_len, List.length_take]; show 3 * 4 + 3 * min (4 * i + j) 8 ≤ 36; omega
    have tsel : atI [D.str "first", D.str "second"] ((5 + (i : Nat) : Int) - 5) = some (.str (telN i)) := by
      have h1 : i = 0 ∨ i = 1 := by omega
      rcases h1 with rfl | rfl <;> rfl
    have msel : atI [D.str d, D.int (bitsOf d n : Nat), D.int r, D.int s, D.int (mszOf d), D.int (firstMany d), D.int (secondMany d)] (5 + (i : Nat) : Int) = some (.int (manyN d (telN i) : Nat)) := by
      have h1 : i = 0 ∨ i = 1 := by omega
      rcases dd with rfl | rfl | rfl | rfl <;> rcases h1 with rfl | rfl <;> rfl
    have c1 : CMulX 4 ((szOf (bitsOf d n) : Nat) : Int) := mulz (by decide) (by omega)
    have c2 : CMulX 2 ((szOf (bitsOf d n) : Nat) : Int) := mulz (by decide) (by omega)
    have c3 : CMulX ((2 ^ hi (bitsOf d n) : Nat) : Int) ((manyN d (telN i) : Nat) : Int) := mulz (by rw [Int.natAbs_natCast]; omega) (by omega)
    have hro : ((2 ^ K83.hi (bitsOf d n) : Nat) : Int) * ((manyN d (telN i) : Nat) : Int) = rowsOf d (telN i) n := by unfold rowsOf; rw [Int.mul_comm]
    refine ⟨_, rfl, ?_⟩
    have hrw := rows_le dd tt hn
    have c4 : CMulX 20 (((2 ^ hi (bitsOf d n) : Nat) : Int) * ((manyN d (telN i) : Nat) : Int) + ((Builtin.Int.intBits (4 * (szOf (bitsOf d n) : Nat)) : Nat) - 1)) := by
      rw [hro]
      exact mulz (by decide) (by omega)
    refine ⟨(show 2 ≤ sizeLine by decide), idx_tup tsel ⟨(show 2 ≤ sizeLine by decide), idx_tup msel ?_⟩⟩
    refine ⟨bitsOf d n, rfl, hb, ?_⟩
    refine ⟨⟨_, k⟩, (show 1 ≤ sizeLine by decide), (show 1 + 2 ≤ sizeLine by decide), (show 3 ≤ sizeLine by decide), gApp k (by omega) ?_⟩
    refine ⟨⟨_, put_same⟩, (show 1 ≤ sizeLine by decide), (show 1 + 2 ≤ sizeLine by decide), (show 3 ≤ sizeLine by decide), gApp put_same (by rw [List.length_append]; show _ + 1 < _; omega) ?_⟩
    refine ⟨⟨_, put_same⟩, (show 1 ≤ sizeLine by decide), (show 1 + 2 ≤ sizeLine by decide), szOf (bitsOf d n), p, rfl, hs.1, hs.2, by omega, by omega, wrong (szOf (bitsOf d n)) p, 20, rfl, hw.1, Int.lt_trans hw.2 (by decide), by decide, p, 20, rfl, by omega, lt700 p2, by decide, (show 3 ≤ sizeLine by decide), gApp put_same (by rw [List.length_append, List.length_append]; show _ + 1 + 1 < _; omega) ?_⟩
    refine ⟨c1, ?_⟩
    refine ⟨d, telN i, n, rfl, dd, tt, hn, c2, c3, c4, oNe_int ?_ ?_⟩
    · show readsOf d (telN i) n = 2 * ((szOf (bitsOf d n) : Nat) : Int) + 20 * (((2 ^ hi (bitsOf d n) : Nat) : Int) * ((manyN d (telN i) : Nat) : Int) + ((Builtin.Int.intBits (4 * (szOf (bitsOf d n) : Nat)) : Nat) - 1))
      rw [hro]; rfl
    · refine ⟨c2, c3, c4, ?_⟩
      rw [put3]
      have z : rdT n (4 * i + (j + 1)) = rdT n (4 * i + j) + 2 * ((szOf (bitsOf d n) : Nat) : Int) + 20 * (((2 ^ hi (bitsOf d n) : Nat) : Int) * ((manyN d (telN i) : Nat) : Int) + ((Builtin.Int.intBits (4 * (szOf (bitsOf d n) : Nat)) : Nat) - 1)) := by
        rw [hro]
        unfold rdT
        rw [show 4 * i + (j + 1) = (4 * i + j) + 1 by omega, sumTo_next na]
        show _ = _
        unfold readsOf
        dsimp only
        omega
      refine ⟨hok _ ⟨_, put_same⟩ (Ext.chg ex nu), Ext.chg ex nu, ?_, ?_⟩
      · rw [put_same]
        unfold OutL
        rw [show 4 * i + (j + 1) = (4 * i + j) + 1 by omega, flat_take na, List.append_assoc, List.append_assoc, List.append_assoc]; rfl
      · rw [z]
        exact ⟨_, _, _, _, _, _, _, _, _, _, _, _, _, _, _, _, rfl⟩
  · rintro ρ S' ⟨ex, k, q7, q8, q9, q10, q11, q12, q13, q15, q16, q17, q18, q19, q20, q21, q22, q23, rfl⟩
    exact hE _ S' ex k ⟨_, _, _, _, _, _, _, _, _, _, _, _, _, _, _, _, _, rfl⟩
end K83

namespace K83
open PySem PySem.Spec PyProof.Rows L2 PD

/-! ### the law: what is asked behind the loops -/
def lawR4 : WS := wSeq (wIfS (wOrT (wNotT (wTru (wCall (sp_sm 4) (wCons (wCall sp_talk_parts (wCons (wVar 3) (wCons (wVar 4) (wNil)))) (wCons (wVar 5) (wNil)))))) (wOrT (wBt (wBin oNe (wCall sp_talk_reads (wCons (wVar 3) (wNil))) (wVar 6))) (wBt (wBin oNe (wCall sp_run_numbers (wCons (wVar 3) (wNil))) (wBin oAdd (wBin oMul (wC (.int 30)) (wBin oShl (wC (.int 1)) (wVar 3))) (wC (.int 192))))))) (wRet (wC (.bl false))) (wNext)) (wSeq (wAsg (wCall sp_belief_parts (wCons (wVar 3) (wCons (wVar 4) (wNil)))) (.nm 20)) (wSeq (wIfS (wOrT (wNotT (wTru (wCall (sp_sm 4) (wCons (wSl (wVar 20) (wPart (wC (.int 3))) (wNoPart)) (wCons (wLc (wVal (wVar 5)) (.tup ((.nm 16) :: (.nm 22) :: (.nm 23) :: [ ])) (wYes) (wTup (wCons (wVar 16) (wCons (wCall sp_lowest_share (wCons (wVar 22) (wCons (wVar 23) (wNil)))) (wNil)))) [ 16 , 22 , 23 ]) (wNil)))))) (wBt (wBin oNe (wLc (wVal (wSl (wVar 20) (wNoPart) (wPart (wC (.int 3))))) (.tup ((.nm 16) :: (.nm 21) :: [ ])) (wYes) (wVar 16) [ 16 , 21 ]) (wLst (wCons (wTup (wCons (wC (.str "lot")) (wCons (wC (.str "cells")) (wNil)))) (wCons (wTup (wCons (wC (.str "lot")) (wCons (wC (.str "code")) (wNil)))) (wCons (wTup (wCons (wC (.str "lot")) (wCons (wC (.str "times")) (wNil)))) (wNil)))))))) (wRet (wC (.bl false))) (wNext)) (wIfS (wNotT (wTru (wCall (sp_sm 4) (wCons (wCall sp_belief_share (wCons (wVar 3) (wCons (wVar 4) (wNil)))) (wCons (wCall sp_shares_added (wCons (wLc (wVal (wVar 20)) (.tup ((.nm 16) :: (.nm 21) :: [ ])) (wYes) (wVar 21) [ 16 , 21 ]) (wNil))) (wNil)))))) (wRet (wC (.bl false))) (wNext))))
def lawRest : WS := wSeq (wPar 5 6 (wCons (wLst (wNil)) (wCons (wC (.int 12)) (wNil)))) (wSeq (wFor (wVal (wCall sp__law_domains (wCons (wVar 3) (wNil)))) (.tup ((.nm 7) :: (.nm 8) :: (.nm 9) :: (.nm 10) :: (.nm 11) :: (.nm 12) :: (.nm 13) :: [ ])) (wSeq (wDrop (wM gAppend (wVar 5) (wCons (wTup (wCons (wTup (wCons (wC (.str "alpha")) (wCons (wVar 7) (wNil)))) (wCons (wBin oSub (wBin oAdd (wVar 9) (wVar 10)) (wC (.int 1))) (wCons (wVar 4) (wNil))))) (wNil)))) (wSeq (wDrop (wM gAppend (wVar 5) (wCons (wTup (wCons (wTup (wCons (wC (.str "zero")) (wCons (wVar 7) (wNil)))) (wCons (wBin oSub (wCall sp__law_power (wCons (wVar 4) (wCons (wVar 8) (wNil)))) (wCall sp__law_power (wCons (wBin oSub (wVar 4) (wC (.int 1))) (wCons (wVar 8) (wNil))))) (wCons (wCall sp__law_power (wCons (wVar 4) (wCons (wVar 8) (wNil)))) (wNil))))) (wNil)))) (wSeq (wDrop (wM gAppend (wVar 5) (wCons (wTup (wCons (wTup (wCons (wC (.str "rounds")) (wCons (wVar 7) (wNil)))) (wCons (wBin oSub (wCall sp__law_power (wCons (wVar 4) (wCons (wVar 8) (wNil)))) (wCall sp__law_power (wCons (wBin oAdd (wBin oSub (wVar 4) (wVar 11)) (wC (.int 1))) (wCons (wVar 8) (wNil))))) (wCons (wCall sp__law_power (wCons (wVar 4) (wCons (wVar 8) (wNil)))) (wNil))))) (wNil)))) (wSeq (wIfS (wBt (wBin oNe (wCall sp_domain_reads (wCons (wVar 7) (wCons (wVar 3) (wNil)))) (wBin oAdd (wBin oAdd (wBin oMul (wVar 8) (wVar 11)) (wVar 12)) (wVar 13)))) (wRet (wC (.bl false))) (wNext)) (wAsg (wBin oAdd (wBin oAdd (wBin oAdd (wVar 6) (wBin oMul (wVar 8) (wVar 11))) (wVar 12)) (wVar 13)) (.nm 6))))))) (wSeq (wFor (wVal (wTup (wCons (wC (.int 5)) (wCons (wC (.int 6)) (wNil))))) (.nm 14) (wFor (wVal (wCall sp__law_domains (wCons (wVar 3) (wNil)))) (.nm 15) (wSeq (wPar 16 17 (wCons (wTup (wCons (wBin oIdx (wVar 15) (wC (.int 0))) (wCons (wBin oIdx (wTup (wCons (wC (.str "first")) (wCons (wC (.str "second")) (wNil)))) (wBin oSub (wVar 14) (wC (.int 5)))) (wNil)))) (wCons (wBin oIdx (wVar 15) (wVar 14)) (wNil)))) (wSeq (wAsg (wCall sp__law_size (wCons (wBin oIdx (wVar 15) (wC (.int 1))) (wNil))) (.tup ((.nm 18) :: (.nm 11) :: [ ]))) (wSeq (wDrop (wM gAppend (wVar 5) (wCons (wTup (wCons (wBin oAdd (wTup (wCons (wC (.str "eta")) (wNil))) (wVar 16)) (wCons (wBin oSub (wVar 17) (wC (.int 1))) (wCons (wVar 4) (wNil))))) (wNil)))) (wSeq (wDrop (wM gAppend (wVar 5) (wCons (wTup (wCons (wBin oAdd (wTup (wCons (wC (.str "far")) (wNil))) (wVar 16)) (wCons (wBin oAdd (wVar 11) (wC (.int 1))) (wCons (wVar 4) (wNil))))) (wNil)))) (wSeq (wDrop (wM gAppend (wVar 5) (wCons (wTup (wCons (wBin oAdd (wTup (wCons (wC (.str "spots")) (wNil))) (wVar 16)) (wCons (wCall sp__law_power (wCons (wCall sp__law_spots (wCons (wVar 11) (wCons (wVar 4) (wNil)))) (wCons (wC (.int 20)) (wNil)))) (wCons (wCall sp__law_power (wCons (wVar 4) (wCons (wC (.int 20)) (wNil)))) (wNil))))) (wNil)))) (wSeq (wAsg (wBin oSub (wBits (wBin oMul (wC (.int 4)) (wVar 11))) (wC (.int 1))) (.nm 19)) (wSeq (wIfS (wBt (wBin oNe (wCall sp_book_reads (wCons (wVar 16) (wCons (wVar 3) (wNil)))) (wBin oAdd (wBin oMul (wC (.int 2)) (wVar 11)) (wBin oMul (wC (.int 20)) (wBin oAdd (wBin oMul (wVar 18) (wVar 17)) (wVar 19)))))) (wRet (wC (.bl false))) (wNext)) (wAsg (wBin oAdd (wBin oAdd (wVar 6) (wBin oMul (wC (.int 2)) (wVar 11))) (wBin oMul (wC (.int 20)) (wBin oAdd (wBin oMul (wVar 18) (wVar 17)) (wVar 19)))) (.nm 6))))))))))) (wSeq (wIfS (wOrT (wNotT (wTru (wCall (sp_sm 4) (wCons (wCall sp_talk_parts (wCons (wVar 3) (wCons (wVar 4) (wNil)))) (wCons (wVar 5) (wNil)))))) (wOrT (wBt (wBin oNe (wCall sp_talk_reads (wCons (wVar 3) (wNil))) (wVar 6))) (wBt (wBin oNe (wCall sp_run_numbers (wCons (wVar 3) (wNil))) (wBin oAdd (wBin oMul (wC (.int 30)) (wBin oShl (wC (.int 1)) (wVar 3))) (wC (.int 192))))))) (wRet (wC (.bl false))) (wNext)) (wSeq (wAsg (wCall sp_belief_parts (wCons (wVar 3) (wCons (wVar 4) (wNil)))) (.nm 20)) (wSeq (wIfS (wOrT (wNotT (wTru (wCall (sp_sm 4) (wCons (wSl (wVar 20) (wPart (wC (.int 3))) (wNoPart)) (wCons (wLc (wVal (wVar 5)) (.tup ((.nm 16) :: (.nm 22) :: (.nm 23) :: [ ])) (wYes) (wTup (wCons (wVar 16) (wCons (wCall sp_lowest_share (wCons (wVar 22) (wCons (wVar 23) (wNil)))) (wNil)))) [ 16 , 22 , 23 ]) (wNil)))))) (wBt (wBin oNe (wLc (wVal (wSl (wVar 20) (wNoPart) (wPart (wC (.int 3))))) (.tup ((.nm 16) :: (.nm 21) :: [ ])) (wYes) (wVar 16) [ 16 , 21 ]) (wLst (wCons (wTup (wCons (wC (.str "lot")) (wCons (wC (.str "cells")) (wNil)))) (wCons (wTup (wCons (wC (.str "lot")) (wCons (wC (.str "code")) (wNil)))) (wCons (wTup (wCons (wC (.str "lot")) (wCons (wC (.str "times")) (wNil)))) (wNil)))))))) (wRet (wC (.bl false))) (wNext)) (wIfS (wNotT (wTru (wCall (sp_sm 4) (wCons (wCall sp_belief_share (wCons (wVar 3) (wCons (wVar 4) (wNil)))) (wCons (wCall sp_shares_added (wCons (wLc (wVal (wVar 20)) (.tup ((.nm 16) :: (.nm 21) :: [ ])) (wYes) (wVar 21) [ 16 , 21 ]) (wNil))) (wNil)))))) (wRet (wC (.bl false))) (wNext)))))))
theorem plain_part {n : Nat} {p : Int} (hn : Nn n) (hp : Prm p) : (partsL n p).all (plainB 3) = true ∧ (partsL n p).all (lenB 3) = true := by
  refine ⟨List.all_eq_true.mpr fun x hx => ?_, List.all_eq_true.mpr fun x hx => ?_⟩
  all_goals
    rcases List.mem_append.mp hx with hx | hx
    · obtain ⟨d, hd, hx⟩ := List.mem_flatMap.mp hx
      simp only [partsD, List.mem_cons, List.not_mem_nil, or_false] at hx
      rcases hx with rfl | rfl | rfl <;> rfl
    · obtain ⟨q, hq, hx⟩ := List.mem_flatMap.mp hx
      simp only [partsN, List.mem_cons, List.not_mem_nil, or_false] at hx
      rcases hx with rfl | rfl | rfl <;> rfl
theorem plain_low {n P : Nat} (hn : Nn n) (hp : Prm (P : Nat)) : ((partsL n (P : Nat)).map lowPart).all (plainB 3) = true ∧ ((partsL n (P : Nat)).map lowPart).all (lenB 3) = true := by
  refine ⟨List.all_eq_true.mpr fun x hx => ?_, List.all_eq_true.mpr fun x hx => ?_⟩
  all_goals
    obtain ⟨y, hy, rfl⟩ := List.mem_map.mp hx
    rcases List.mem_append.mp hy with hy | hy
    · obtain ⟨d, hd, hy⟩ := List.mem_flatMap.mp hy
      simp only [partsD, List.mem_cons, List.not_mem_nil, or_false] at hy
      rcases hy with rfl | rfl | rfl <;> rfl
    · obtain ⟨q, hq, hy⟩ := List.mem_flatMap.mp hy
      simp only [partsN, List.mem_cons, List.not_mem_nil, or_false] at hy
      rcases hy with rfl | rfl | rfl <;> rfl
theorem cut_to {xs : List D} {k : Nat} (h : k ≤ xs.length) : PD.cutD xs none (some (k : Int)) = xs.take k := by
  unfold PD.cutD
  rw [HT.sIx_nat, Nat.min_eq_left h, HT.sIx_none, List.drop_zero, Nat.sub_zero]
theorem bel_cut (n P : Nat) : PD.cutD (belL n P) (some 3) none = (partsL n (P : Nat)).map lowPart := by
  have z := cut_from (xs := belL n P) (k := 3) (by rw [bel_len]; decide)
  refine z.trans ?_
  unfold belL
  rfl
theorem bel_cut2 (n P : Nat) : PD.cutD (belL n P) none (some 3) = lotsD n P := by
  have z := cut_to (xs := belL n P) (k := 3) (by rw [bel_len]; decide)
  refine z.trans ?_
  unfold belL
  rfl
def lotP : PyData := .list [.tuple [.str "lot", .str "cells"], .tuple [.str "lot", .str "code"], .tuple [.str "lot", .str "times"]]
theorem dat3 {S : Sto} {a : Addr} (h : S a = some (.lst [.tup [.str "lot", .str "cells"], .tup [.str "lot", .str "code"], .tup [.str "lot", .str "times"]])) : Dat S (.ref a) lotP :=
  .lst h (.cons (.tup (.cons (.str _) (.cons (.str _) .nil))) (.cons (.tup (.cons (.str _) (.cons (.str _) .nil))) (.cons (.tup (.cons (.str _) (.cons (.str _) .nil))) .nil)))
theorem oNe_dat {S : Sto} {a b : Addr} {d : PyData} {Q : KD} (h1 : Dat S (.ref a) d) (h2 : Dat S (.ref b) d) (s : SeqAt.shaped d = true) (h : PyData.eqv d d = true) (q : Q (.bl false) S) : oNe (.ref a) (.ref b) S Q := by
  unfold oNe
  refine ⟨d, d, h1, h2, s, s, ?_⟩
  rw [h]; exact q
theorem nott {w : WT} {ρ : PD.Env} {S : Sto} {Q : Bool → Sto → Prop} (h : w ρ S fun c S1 => Q (!c) S1) : wNotT w ρ S Q := h
theorem law_r4 {E : DE} {n P : Nat} (hn : Nn n) (hp : Prm (P : Nat)) {S0 S : Sto} {u : Addr} {d0 s0 t0 : D} (ex : Ext S0 S) (hu : S u = some (.lst (partsL n (P : Nat))))
    {q7 q8 q9 q10 q11 q12 q13 q14 q15 q16 q17 q18 q19 q20 q21 q22 q23 : Option D}
    (hE : ∀ ρ' S', Ext S0 S' → (∃ r2 r3 r4 r5 r6 q7 q8 q9 q10 q11 q12 q13 q14 q15 q16 q17 q18 q19 q20 q21 q22 q23 : Option D, ρ' = [some d0, some s0, r2, r3, r4, r5, r6, q7, q8, q9, q10, q11, q12, q13, q14, q15, q16, q17, q18, q19, q20, q21, q22, q23]) → E.nx ρ' S') :
    lawR4 E [some d0, some s0, some t0, some (.int (n : Nat)), some (.int (P : Nat)), some (.ref u), some (.int (treads n)), q7, q8, q9, q10, q11, q12, q13, q14, q15, q16, q17, q18, q19, q20, q21, q22, q23] S := by
  have lz := line_ge
  obtain ⟨p1, p2⟩ := hp.lt
  obtain ⟨pl1, pl2⟩ := plain_part hn hp
  obtain ⟨pl3, pl4⟩ := plain_low hn hp
  -- the parts of the talk, the numbers read
  refine ⟨n, P, rfl, hn, hp, newE ex fun a1 S1 x1 y1 k1 => ?_⟩
  refine ⟨.ref a1, .ref u, rfl, ⟨by decide, .inr ⟨a1, u, _, rfl, rfl, k1, y1 _ _ hu, (by rw [parts_len]; decide), pl1, pl2⟩⟩, ?_⟩
  refine ⟨n, rfl, hn, oNe_int rfl ?_⟩
  have e2n : (1 : Int) * 2 ^ ((n : Nat) : Int).toNat = ((2 ^ n : Nat) : Int) := by simp
  have hp2 : (2 ^ n : Nat) ≤ 256 := by rcases up_to_8 hn with rfl | rfl | rfl | rfl | rfl | rfl | rfl | rfl <;> decide
  have cm : CMulX 30 ((1 : Int) * 2 ^ ((n : Nat) : Int).toNat) := by rw [e2n]; exact mulz (by decide) (by rw [Int.natAbs_natCast]; omega)
  refine ⟨n, rfl, hn, shl_small (i := 1) (by decide) (by obtain ⟨a, b⟩ := hn; omega), cm, oNe_int (show (30 : Int) * ((2 ^ n : Nat) : Int) + 192 = 30 * ((1 : Int) * 2 ^ ((n : Nat) : Int).toNat) + 192 by rw [e2n]) ?_⟩
  -- belief
  refine ⟨n, P, rfl, hn, hp, newE x1 fun a2 S2 x2 y2 k2 => ?_⟩
  refine ⟨_, k2, newE x2 fun a3 S3 x3 y3 k3 => ?_⟩
  refine lc_var (i := 5) (d := .ref u) ?_ ?_
  · rfl
  refine val_lst (y3 _ _ (y2 _ _ (y1 _ _ hu))) ?_
  have hu3 := y3 _ _ (y2 _ _ (y1 _ _ hu))
  have k2' := y3 _ _ k2
  refine PD.comp_map lowPart (fun x S4 Q1 hm ex4 q1 => ?_) (fun S4 ex4 => ex4 _ _ hu3) (by rw [List.length_nil, parts_len]; omega) fun S4 x4 => newE (x3.trans x4) fun a5 S5 x5 y5 k5 => ?_
  · obtain ⟨l, a, b, rfl, h0, h1, h2, h3⟩ := parts_good hn hp x hm
    have e1 : a = ((a.toNat : Nat) : Int) := by omega
    have e2 : b = ((b.toNat : Nat) : Int) := by omega
    have hz : b.toNat < 2 ^ 9000 := by
      have : b.toNat < 2 ^ 700 := by
        have e3 : ((2 : Int) ^ 700) = ((2 ^ 700 : Nat) : Int) := by norm_cast
        omega
      exact Nat.lt_of_lt_of_le this (Nat.pow_le_pow_right (by decide) (by decide))
    refine ⟨_, rfl, a.toNat, b.toNat, ?_, by omega, hz, (show 2 ≤ sizeLine by decide), q1 S4 (Ext.refl _)⟩
    show [D.int a, D.int b] = _
    rw [← e1, ← e2]
  · have y35 := x4.trans y5
    have k3' : S5 a3 = some (.lst ((partsL n (P : Nat)).map lowPart)) := by rw [y35 _ _ k3, bel_cut]
    have k5' : S5 a5 = some (.lst ((partsL n (P : Nat)).map lowPart)) := k5
    have k2'' := y35 _ _ k2'
    refine ⟨.ref a3, .ref a5, rfl, ⟨by decide, .inr ⟨a3, a5, _, rfl, rfl, k3', k5', (by rw [List.length_map, parts_len]; decide), pl3, pl4⟩⟩, ?_⟩
    refine ⟨_, k2'', newE x5 fun a6 S6 x6 y6 k6 => val_lst k6 ?_⟩
    have k6' : S6 a6 = some (.lst (lotsD n P)) := by rw [k6, bel_cut2]
    refine PD.comp_map (fun x => match x with | .tup [u, _] => u | d => d) (fun x S7 Q1 hm ex7 q1 => ?_) (fun S7 ex7 => ex7 _ _ k6) (by show 0 + (PD.cutD (belL n P) none (some 3)).length ≤ sizeLine; rw [bel_cut2]; show 0 + 3 ≤ sizeLine; decide) fun S7 x7 => newE (x6.trans x7) fun a8 S8 x8 y8 k8 => ?_
    · have hm : x ∈ PD.cutD (belL n P) none (some 3) := hm
      rw [bel_cut2] at hm
      obtain ⟨l, _, rfl⟩ := List.mem_map.mp hm
      exact ⟨_, rfl, q1 S7 (Ext.refl _)⟩
    · have k8' : S8 a8 = some (.lst [.tup [.str "lot", .str "cells"], .tup [.str "lot", .str "code"], .tup [.str "lot", .str "times"]]) := by
        rw [k8]
        show some (O.lst ([] ++ (PD.cutD (belL n P) none (some 3)).map _)) = _
        rw [bel_cut2]; rfl
      have k2a := y8 _ _ (x7 _ _ (y6 _ _ k2''))
      refine ⟨(show 2 ≤ sizeLine by decide), (show 2 ≤ sizeLine by decide), (show 2 ≤ sizeLine by decide), (show 3 ≤ sizeLine by decide), newE x8 fun a9 S9 x9 y9 k9 => ?_⟩
      refine oNe_dat (d := lotP) (dat3 (y9 _ _ k8')) (dat3 k9) (by decide +kernel) (by decide +kernel) ?_
      have k2b := y9 _ _ k2a
      -- the sum of all
      refine ⟨n, P, rfl, hn, hp, ?_⟩
      refine lc_var (i := 20) (d := .ref a2) ?_ ?_
      · rfl
      refine val_lst k2b ?_
      refine PD.comp_map sndD (fun x S10 Q1 hm ex10 q1 => ?_) (fun S10 ex10 => ex10 _ _ k2b) (by rw [List.length_nil, bel_len]; omega) fun S10 x10 => newE (x9.trans x10) fun a11 S11 x11 y11 k11 => ?_
      · obtain ⟨u', v', rfl⟩ := bel_pair hn hp x hm
        exact ⟨_, rfl, q1 S10 (Ext.refl _)⟩
      · have k11' : S11 a11 = some (.lst ((belS n P).map prD)) := by rw [k11, ← bel_snd hn hp]; rfl
        refine ⟨a11, belS n P, rfl, k11', bel_ok hn hp, ?_⟩
        refine ⟨_, _, rfl, ⟨by decide, .inl ⟨rfl, rfl, rfl⟩⟩, ?_⟩
        exact hE _ S11 x11 ⟨_, _, _, _, _, _, _, _, _, _, _, _, _, _, _, _, _, _, _, _, _, _, rfl⟩
end K83

namespace K83
open PySem PySem.Spec PyProof.Rows L2 PD

theorem out0 (n : Nat) (p : Int) : OutL n p 0 = domsS.flatMap (partsD n p) := by unfold OutL; rw [List.take_zero, List.flatMap_nil, List.append_nil]
theorem rdT0 (n : Nat) : rdT n 0 = 12 + (drL n).sum := by simp [rdT, sumTo]
theorem rdT8 (n : Nat) : rdT n 8 = treads n := rfl
theorem out8 (n : Nat) (p : Int) : OutL n p 8 = partsL n p := rfl
theorem law_rest {E : DE} {n P : Nat} (hn : Nn n) (hp : Prm (P : Nat)) {S : Sto} {d0 s0 t0 : D}
    {q5 q6 q7 q8 q9 q10 q11 q12 q13 q14 q15 q16 q17 q18 q19 q20 q21 q22 q23 : Option D}
    (hE : ∀ ρ' S', Ext S S' → (∃ r2 r3 r4 r5 r6 q7 q8 q9 q10 q11 q12 q13 q14 q15 q16 q17 q18 q19 q20 q21 q22 q23 : Option D, ρ' = [some d0, some s0, r2, r3, r4, r5, r6, q7, q8, q9, q10, q11, q12, q13, q14, q15, q16, q17, q18, q19, q20, q21, q22, q23]) → E.nx ρ' S') :
    lawRest E [some d0, some s0, some t0, some (.int (n : Nat)), some (.int (P : Nat)), q5, q6, q7, q8, q9, q10, q11, q12, q13, q14, q15, q16, q17, q18, q19, q20, q21, q22, q23] S := by
  refine ⟨(show 0 ≤ sizeLine by decide), fun u S1 nu e1 => ?_⟩
  have k1 : S1 u = some (.lst []) := by rw [e1, put_same]
  refine ⟨n, rfl, fun l S2 nl e2 => ?_⟩
  have kl : S2 l = some (.lst (domRows n)) := by rw [e2, put_same]
  have x1 : Ext S S1 := by rw [e1]; exact Ext.put nu
  have Sl : S l = none := x1.none nl
  have ul : u ≠ l := pne k1 nl
  have nu0 : put S l (.lst (domRows n)) u = none := by rw [put_ne ul]; exact nu
  have x2 : Ext (put S l (.lst (domRows n))) S2 := by rw [e2]; exact Ext.both x1
  have k2 : S2 u = some (.lst []) := by rw [e2, put_ne ul]; exact k1
  refine val_lst kl (law_l1 hn hp nu0 x2 k2 (fun S' _ e => e _ _ put_same) ?_)
  rintro ρ S3 x3 k3 ⟨q7, q8, q9, q10, q11, q12, q13, q14, q15, q16, q17, q18, q19, q20, q21, q22, q23, rfl⟩
  have x3' : Ext S S3 := (Ext.put Sl).trans x3
  clear x1 x2 x3 k2 kl nu0 e1 e2 k1 nl Sl ul
  -- the tellings
  refine ⟨(show 2 ≤ sizeLine by decide), ?_⟩
  refine loop_of (fun i ρ S' => Ext S S' ∧ S' u = some (.lst (OutL n (P : Nat) (4 * i))) ∧ ∃ q7 q8 q9 q10 q11 q12 q13 q14 q15 q16 q17 q18 q19 q20 q21 q22 q23 : Option D, ρ = [some d0, some s0, some t0, some (.int (n : Nat)), some (.int (P : Nat)), some (.ref u), some (.int (rdT n (4 * i))), q7, q8, q9, q10, q11, q12, q13, q14, q15, q16, q17, q18, q19, q20, q21, q22, q23])
    ⟨x3', k3.trans (by rw [Nat.mul_zero, out0]), by rw [Nat.mul_zero, rdT0]; exact ⟨q7, q8, q9, q10, q11, q12, q13, q14, q15, q16, q17, q18, q19, q20, q21, q22, q23, rfl⟩⟩ ?_ ?_
  · rintro i x ρ S4 hx ⟨x4, k4, q7, q8, q9, q10, q11, q12, q13, q14, q15, q16, q17, q18, q19, q20, q21, q22, q23, rfl⟩
    have hi : i < 2 := (List.getElem?_eq_some_iff.mp hx).1
    have hx : x = .int (5 + (i : Nat)) := by
      have h1 : i = 0 ∨ i = 1 := by omega
      rcases h1 with rfl | rfl <;> (cases hx; rfl)
    subst hx
    refine ⟨_, rfl, ?_⟩
    refine ⟨n, rfl, fun l S5 nl e5 => ?_⟩
    have kl : S5 l = some (.lst (domRows n)) := by rw [e5, put_same]
    have Sl : S l = none := x4.none nl
    have ul : u ≠ l := pne k4 nl
    have nu0 : put S l (.lst (domRows n)) u = none := by rw [put_ne ul]; exact nu
    have x5 : Ext (put S l (.lst (domRows n))) S5 := by rw [e5]; exact Ext.both x4
    have k5 : S5 u = some (.lst (OutL n (P : Nat) (4 * i))) := by rw [e5, put_ne ul]; exact k4
    refine val_lst kl (law_l2 hn hp hi nu0 x5 k5 (fun S' _ e => e _ _ put_same) ?_)
    rintro ρ S6 x6 k6 ⟨q7, q8, q9, q10, q11, q12, q13, q14, q15, q16, q17, q18, q19, q20, q21, q22, q23, rfl⟩
    exact ⟨trivial, (Ext.put Sl).trans x6, k6, _, _, _, _, _, _, _, _, _, _, _, _, _, _, _, _, _, rfl⟩
  · rintro ρ S4 ⟨x4, k4, q7, q8, q9, q10, q11, q12, q13, q14, q15, q16, q17, q18, q19, q20, q21, q22, q23, rfl⟩
    exact law_r4 hn hp x4 k4 hE
def sp_law : SpD := fun ds S Q => ∃ d ns, ds = [d] ∧ scr S d ns ∧ ns.length ≤ 1000 ∧ ∀ S', Q (.bl true) S'
theorem prm_sel {v : Int} (h0 : 0 ≤ v) (h1 : v < 3) : ∃ P : Nat, atI [D.int 1048583, D.int 2147483647, D.int 2147483629] v = some (.int (P : Nat)) ∧ Prm (P : Nat) := by
  have : v = 0 ∨ v = 1 ∨ v = 2 := by omega
  rcases this with rfl | rfl | rfl
  · exact ⟨1048583, rfl, .inl rfl⟩
  · exact ⟨2147483647, rfl, .inr (.inl rfl)⟩
  · exact ⟨2147483629, rfl, .inr (.inr rfl)⟩
def lawNx (d : D) (st c : Addr) (ρ : PD.Env) (S : Sto) : Prop := True ∧ (∃ cs sd, stt S st c cs sd) ∧ ∃ r2 r3 r4 r5 r6 q7 q8 q9 q10 q11 q12 q13 q14 q15 q16 q17 q18 q19 q20 q21 q22 q23 : Option D, ρ = [some d, some (.ref st), r2, r3, r4, r5, r6, q7, q8, q9, q10, q11, q12, q13, q14, q15, q16, q17, q18, q19, q20, q21, q22, q23]
theorem vc_law : VC sp_law (F_law.ws (g__law_state := sp__law_state) (g__law_draw := sp__law_draw) (g__law_domains := sp__law_domains) (g__law_power := sp__law_power) (g_domain_reads := sp_domain_reads) (g__law_size := sp__law_size) (g__law_spots := sp__law_spots) (g_book_reads := sp_book_reads) (g__law_same := sp_sm 4) (g_talk_parts := sp_talk_parts) (g_talk_reads := sp_talk_reads) (g_run_numbers := sp_run_numbers) (g_belief_parts := sp_belief_parts) (g_lowest_share := sp_lowest_share) (g_shares_added := sp_shares_added) (g_belief_share := sp_belief_share)) F_law.N 1 := by
  rintro ds S Q ⟨d, ns, rfl, hd, hz, q⟩
  refine ⟨rfl, ?_⟩
  refine ⟨d, ns, rfl, hd, hz, fun st c cs sd S1 x1 ns1 nc1 hne hst => ?_⟩
  refine ⟨by decide, by decide, ?_⟩
  refine loop_of (fun i ρ S' => (∃ cs sd, stt S' st c cs sd) ∧ ∃ r2 r3 r4 r5 r6 q7 q8 q9 q10 q11 q12 q13 q14 q15 q16 q17 q18 q19 q20 q21 q22 q23 : Option D, ρ = [some d, some (.ref st), r2, r3, r4, r5, r6, q7, q8, q9, q10, q11, q12, q13, q14, q15, q16, q17, q18, q19, q20, q21, q22, q23])
    ⟨⟨cs, sd, hst⟩, _, _, _, _, _, _, _, _, _, _, _, _, _, _, _, _, _, _, _, _, _, _, rfl⟩ ?_ ?_
  · rintro i x ρ S2 hx ⟨⟨cs, sd, hst⟩, r2, r3, r4, r5, r6, q7, q8, q9, q10, q11, q12, q13, q14, q15, q16, q17, q18, q19, q20, q21, q22, q23, rfl⟩
    refine ⟨_, rfl, ?_⟩
    refine ⟨st, c, cs, sd, 8, rfl, hne, hst, by decide, by decide, fun v cs' sd' v0 v1 hst' => ?_⟩
    refine ⟨(show 3 ≤ sizeLine by decide), st, c, cs', sd', 3, rfl, hne, hst', by decide, by decide, fun v2 cs2 sd2 w0 w1 hst2 => ?_⟩
    obtain ⟨P, hsel, hP⟩ := prm_sel w0 w1
    refine idx_tup hsel ?_
    obtain ⟨n, hn, en⟩ : ∃ n : Nat, Nn n ∧ ((n : Nat) : Int) = 1 + v := ⟨(1 + v).toNat, ⟨by omega, by omega⟩, by omega⟩
    have z := law_rest (E := DE.mk (lawNx d st c) (ends Q).rt (fun ρ S => wRet (wC (.bl true)) (ends Q) ρ S) (lawNx d st c))
      (d0 := d) (s0 := .ref st) (t0 := x) (q5 := r5) (q6 := r6) (q7 := q7) (q8 := q8) (q9 := q9) (q10 := q10) (q11 := q11) (q12 := q12) (q13 := q13) (q14 := q14) (q15 := q15) (q16 := q16) (q17 := q17) (q18 := q18) (q19 := q19) (q20 := q20) (q21 := q21) (q22 := q22) (q23 := q23) hn hP
      (fun ρ' S' ex h => ⟨trivial, ⟨cs2, sd2, ex _ _ hst2.1, ex _ _ hst2.2.1, hst2.2.2⟩, h⟩)
    rw [en] at z
    exact z
  · rintro ρ S2 ⟨_, r2, r3, r4, r5, r6, q7, q8, q9, q10, q11, q12, q13, q14, q15, q16, q17, q18, q19, q20, q21, q22, q23, rfl⟩
    exact ⟨_, Ext.refl _, q _⟩
end K83

namespace K83
open PySem PySem.Spec PyProof.Rows L2 PD
/-! ### levels: each def keeps its promise -/
structure Has (K : PySem.W.Frag) (mg : Str → Option Value) (x : Str) (st : Stmt) : Prop where
  ex : ∃ f fd, FunD K x x (defArgs st) (defBody st) (defScope st) [] [] f fd ∧ mg x = some (.ref f)
structure Hs (K : PySem.W.Frag) (mg : Str → Option Value) : Prop where
  h_expression_degree : Has K mg "expression_degree" F_expression_degree.st
  h_expression_sum : Has K mg "expression_sum" F_expression_sum.st
  h_expression_by_powers : Has K mg "expression_by_powers" F_expression_by_powers.st
  h_message_size : Has K mg "message_size" F_message_size.st
  h_book_high : Has K mg "book_high" F_book_high.st
  h_book_size : Has K mg "book_size" F_book_size.st
  h_book_points : Has K mg "book_points" F_book_points.st
  h_book_height : Has K mg "book_height" F_book_height.st
  h_whole_power : Has K mg "whole_power" F_whole_power.st
  h_most_vanishing : Has K mg "most_vanishing" F_most_vanishing.st
  h_joined_expression : Has K mg "joined_expression" F_joined_expression.st
  h_near_radius : Has K mg "near_radius" F_near_radius.st
  h_spot_weights : Has K mg "spot_weights" F_spot_weights.st
  h_most_wrong_weight : Has K mg "most_wrong_weight" F_most_wrong_weight.st
  h_domain_bits : Has K mg "domain_bits" F_domain_bits.st
  h_told_many : Has K mg "told_many" F_told_many.st
  h_column_part : Has K mg "column_part" F_column_part.st
  h_number_part : Has K mg "number_part" F_number_part.st
  h_gap_part : Has K mg "gap_part" F_gap_part.st
  h_product_part : Has K mg "product_part" F_product_part.st
  h_row_rules : Has K mg "row_rules" F_row_rules.st
  h_mark_expression : Has K mg "mark_expression" F_mark_expression.st
  h_inverse_rule : Has K mg "inverse_rule" F_inverse_rule.st
  h_touch_parts : Has K mg "touch_parts" F_touch_parts.st
  h_touch_expression : Has K mg "touch_expression" F_touch_expression.st
  h_rows_domain_rules : Has K mg "rows_domain_rules" F_rows_domain_rules.st
  h_domain_rules : Has K mg "domain_rules" F_domain_rules.st
  h_share_expressions : Has K mg "share_expressions" F_share_expressions.st
  h_sum_roots : Has K mg "sum_roots" F_sum_roots.st
  h_greatest_sum_count : Has K mg "greatest_sum_count" F_greatest_sum_count.st
  h_book_names : Has K mg "book_names" F_book_names.st
  h_book_many : Has K mg "book_many" F_book_many.st
  h_book_rows : Has K mg "book_rows" F_book_rows.st
  h_domain_message_size : Has K mg "domain_message_size" F_domain_message_size.st
  h_book_reads : Has K mg "book_reads" F_book_reads.st
  h_domain_reads : Has K mg "domain_reads" F_domain_reads.st
  h_talk_reads : Has K mg "talk_reads" F_talk_reads.st
  h_run_numbers : Has K mg "run_numbers" F_run_numbers.st
  h_talk_parts : Has K mg "talk_parts" F_talk_parts.st
  h_lowest_share : Has K mg "lowest_share" F_lowest_share.st
  h_shares_added : Has K mg "shares_added" F_shares_added.st
  h_lot_many : Has K mg "lot_many" F_lot_many.st
  h_lot_share : Has K mg "lot_share" F_lot_share.st
  h_belief_parts : Has K mg "belief_parts" F_belief_parts.st
  h_belief_share : Has K mg "belief_share" F_belief_share.st
  h__law_state : Has K mg "_law_state" F__law_state.st
  h__law_draw : Has K mg "_law_draw" F__law_draw.st
  h__law_same : Has K mg "_law_same" F__law_same.st
  h__law_power : Has K mg "_law_power" F__law_power.st
  h__law_domains : Has K mg "_law_domains" F__law_domains.st
  h__law_size : Has K mg "_law_size" F__law_size.st
  h__law_spots : Has K mg "_law_spots" F__law_spots.st
section
variable {P : Program} {w : World} {K : PySem.W.Frag} {mg : Str → Option Value} {base : Heap}
theorem own_no {x : Str} {st : Stmt} {sp : SpD} {ps : List Str} (h : Has K mg x st) (no : ∀ ds S Q, ¬ sp ds S Q)
    (hb : ∀ (kV doc pm : Value) (an : Option Addr) (cdv ct : Value) (us : List Value), us.length = ps.length → bindArgs (PySem.W.fnOf x x (defArgs st) (defBody st) (defScope st) .none kV doc pm an cdv ct) ⟨us, []⟩ = pure (ps.zip us)) : Own P w K mg base 0 x sp := by
  obtain ⟨f, fd, F, hm⟩ := h.ex
  exact ⟨f, fd, ps, ⟨fun vs H Q E ⟨ds, S, Q0, r, s, q, l⟩ => (no _ _ _ q).elim, fun A outer s H args us vs Q E hr he hb hv ⟨ds, S, Q0, r, s0, q, l⟩ => (no _ _ _ q).elim⟩, hm, F.kp, F.bindsN hb⟩
theorem own_by {x : Str} {st : Stmt} {sp : SpD} {N ps : List Str} {k : Nat} {ws : WS} (h : Has K mg x st) (sc : FnScope N ps (defScope st)) (W : Walk P w K mg base k N x (defScope st) (defBody st) ws)
    (hb : ∀ (kV doc pm : Value) (an : Option Addr) (cdv ct : Value) (us : List Value), us.length = ps.length → bindArgs (PySem.W.fnOf x x (defArgs st) (defBody st) (defScope st) .none kV doc pm an cdv ct) ⟨us, []⟩ = pure (ps.zip us))
    (vc : VC sp ws N ps.length) : Own P w K mg base (k + 1) x sp := by
  obtain ⟨f, fd, F, hm⟩ := h.ex
  exact own_ok F sc W hm hb vc
theorem own_expression_degree (M : Mg K w mg) (H : Hs K mg) : ∀ j, Own P w K mg base j "expression_degree" (spDeg j)
  | 0 => own_no (ps := ["expression"]) H.h_expression_degree (fun ds S Q ⟨d, _, h, _⟩ => by unfold okEx at h; cases h) (fun _ _ _ _ _ _ us hl => match us, hl with | [_], _ => rfl)
  | j + 1 => own_by H.h_expression_degree F_expression_degree.sc (F_expression_degree.walk M (own_expression_degree M H j)) (fun _ _ _ _ _ _ us hl => match us, hl with | [_], _ => rfl) (vc_deg j)
theorem own_expression_sum (M : Mg K w mg) (H : Hs K mg) : Own P w K mg base 1 "expression_sum" sp_expression_sum :=
  own_by (k := 0) H.h_expression_sum F_expression_sum.sc (F_expression_sum.walk M ) (fun _ _ _ _ _ _ us hl => match us, hl with | [_], _ => rfl) vc_expression_sum
theorem own_expression_by_powers (M : Mg K w mg) (H : Hs K mg) : Own P w K mg base 2 "expression_by_powers" sp_expression_by_powers :=
  own_by (k := 1) H.h_expression_by_powers F_expression_by_powers.sc (F_expression_by_powers.walk M ((own_expression_sum M H).mono (by decide))) (fun _ _ _ _ _ _ us hl => match us, hl with | [_, _, _, _], _ => rfl) vc_expression_by_powers
theorem own_message_size (M : Mg K w mg) (H : Hs K mg) : Own P w K mg base 101 "message_size" sp_message_size :=
  own_by (k := 100) H.h_message_size F_message_size.sc (F_message_size.walk M ((own_expression_degree M H 100).mono (by decide))) (fun _ _ _ _ _ _ us hl => match us, hl with | [_], _ => rfl) vc_message_size
theorem own_book_high (M : Mg K w mg) (H : Hs K mg) : Own P w K mg base 1 "book_high" sp_book_high :=
  own_by (k := 0) H.h_book_high F_book_high.sc (F_book_high.walk M ) (fun _ _ _ _ _ _ us hl => match us, hl with | [_], _ => rfl) vc_book_high
theorem own_book_size (M : Mg K w mg) (H : Hs K mg) : Own P w K mg base 2 "book_size" sp_book_size :=
  own_by (k := 1) H.h_book_size F_book_size.sc (F_book_size.walk M ((own_book_high M H).mono (by decide))) (fun _ _ _ _ _ _ us hl => match us, hl with | [_], _ => rfl) vc_book_size
theorem own_book_points (M : Mg K w mg) (H : Hs K mg) : Own P w K mg base 3 "book_points" sp_book_points :=
  own_by (k := 2) H.h_book_points F_book_points.sc (F_book_points.walk M ((own_book_size M H).mono (by decide))) (fun _ _ _ _ _ _ us hl => match us, hl with | [_], _ => rfl) vc_book_points
theorem own_book_height (M : Mg K w mg) (H : Hs K mg) : Own P w K mg base 2 "book_height" sp_book_height :=
  own_by (k := 1) H.h_book_height F_book_height.sc (F_book_height.walk M ((own_book_high M H).mono (by decide))) (fun _ _ _ _ _ _ us hl => match us, hl with | [_, _], _ => rfl) vc_book_height
theorem own_whole_power (M : Mg K w mg) (H : Hs K mg) : Own P w K mg base 1 "whole_power" sp_whole_power :=
  own_by (k := 0) H.h_whole_power F_whole_power.sc (F_whole_power.walk M ) (fun _ _ _ _ _ _ us hl => match us, hl with | [_, _], _ => rfl) vc_whole_power
theorem own_most_vanishing (M : Mg K w mg) (H : Hs K mg) : Own P w K mg base 2 "most_vanishing" sp_most_vanishing :=
  own_by (k := 1) H.h_most_vanishing F_most_vanishing.sc (F_most_vanishing.walk M ((own_whole_power M H).mono (by decide))) (fun _ _ _ _ _ _ us hl => match us, hl with | [_, _], _ => rfl) vc_most_vanishing
theorem own_joined_expression (M : Mg K w mg) (H : Hs K mg) : Own P w K mg base 3 "joined_expression" sp_joined_expression :=
  own_by (k := 2) H.h_joined_expression F_joined_expression.sc (F_joined_expression.walk M ((own_expression_by_powers M H).mono (by decide))) (fun _ _ _ _ _ _ us hl => match us, hl with | [_, _, _, _, _], _ => rfl) vc_joined_expression
theorem own_near_radius (M : Mg K w mg) (H : Hs K mg) : Own P w K mg base 1 "near_radius" sp_near_radius :=
  own_by (k := 0) H.h_near_radius F_near_radius.sc (F_near_radius.walk M ) (fun _ _ _ _ _ _ us hl => match us, hl with | [_], _ => rfl) vc_near_radius
theorem own_spot_weights (M : Mg K w mg) (H : Hs K mg) : Own P w K mg base 1 "spot_weights" sp_spot_weights :=
  own_by (k := 0) H.h_spot_weights F_spot_weights.sc (F_spot_weights.walk M ) (fun _ _ _ _ _ _ us hl => match us, hl with | [_, _], _ => rfl) vc_spot_weights
theorem own_most_wrong_weight (M : Mg K w mg) (H : Hs K mg) : Own P w K mg base 2 "most_wrong_weight" sp_most_wrong_weight :=
  own_by (k := 1) H.h_most_wrong_weight F_most_wrong_weight.sc (F_most_wrong_weight.walk M ((own_spot_weights M H).mono (by decide)) ((own_near_radius M H).mono (by decide))) (fun _ _ _ _ _ _ us hl => match us, hl with | [_, _], _ => rfl) vc_most_wrong_weight
theorem own_domain_bits (M : Mg K w mg) (H : Hs K mg) : Own P w K mg base 1 "domain_bits" sp_domain_bits :=
  own_by (k := 0) H.h_domain_bits F_domain_bits.sc (F_domain_bits.walk M ) (fun _ _ _ _ _ _ us hl => match us, hl with | [_, _], _ => rfl) vc_domain_bits
theorem own_told_many (M : Mg K w mg) (H : Hs K mg) : Own P w K mg base 1 "told_many" sp_told_many :=
  own_by (k := 0) H.h_told_many F_told_many.sc (F_told_many.walk M ) (fun _ _ _ _ _ _ us hl => match us, hl with | [_], _ => rfl) vc_told_many
theorem own_column_part (M : Mg K w mg) (H : Hs K mg) : Own P w K mg base 1 "column_part" sp_column_part :=
  own_by (k := 0) H.h_column_part F_column_part.sc (F_column_part.walk M ) (fun _ _ _ _ _ _ us hl => match us, hl with | [_], _ => rfl) vc_column_part
theorem own_number_part (M : Mg K w mg) (H : Hs K mg) : Own P w K mg base 1 "number_part" sp_number_part :=
  own_by (k := 0) H.h_number_part F_number_part.sc (F_number_part.walk M ) (fun _ _ _ _ _ _ us hl => match us, hl with | [_], _ => rfl) vc_number_part
theorem own_gap_part (M : Mg K w mg) (H : Hs K mg) : Own P w K mg base 1 "gap_part" sp_gap_part :=
  own_by (k := 0) H.h_gap_part F_gap_part.sc (F_gap_part.walk M ) (fun _ _ _ _ _ _ us hl => match us, hl with | [_, _], _ => rfl) vc_gap_part
theorem own_product_part (M : Mg K w mg) (H : Hs K mg) : Own P w K mg base 1 "product_part" sp_product_part :=
  own_by (k := 0) H.h_product_part F_product_part.sc (F_product_part.walk M ) (fun _ _ _ _ _ _ us hl => match us, hl with | [_, _], _ => rfl) vc_product_part
theorem own_row_rules (M : Mg K w mg) (H : Hs K mg) : Own P w K mg base 2 "row_rules" sp_row_rules :=
  own_by (k := 1) H.h_row_rules F_row_rules.sc (F_row_rules.walk M ((own_column_part M H).mono (by decide)) ((own_expression_sum M H).mono (by decide)) ((own_number_part M H).mono (by decide)) ((own_product_part M H).mono (by decide)) ((own_gap_part M H).mono (by decide))) (fun _ _ _ _ _ _ us hl => match us, hl with | [], _ => rfl) vc_row_rules
theorem own_mark_expression (M : Mg K w mg) (H : Hs K mg) : Own P w K mg base 3 "mark_expression" sp_mark_expression :=
  own_by (k := 2) H.h_mark_expression F_mark_expression.sc (F_mark_expression.walk M ((own_expression_by_powers M H).mono (by decide))) (fun _ _ _ _ _ _ us hl => match us, hl with | [_, _, _], _ => rfl) vc_mark_expression
theorem own_inverse_rule (M : Mg K w mg) (H : Hs K mg) : Own P w K mg base 2 "inverse_rule" sp_inverse_rule :=
  own_by (k := 1) H.h_inverse_rule F_inverse_rule.sc (F_inverse_rule.walk M ((own_gap_part M H).mono (by decide)) ((own_number_part M H).mono (by decide)) ((own_product_part M H).mono (by decide)) ((own_column_part M H).mono (by decide))) (fun _ _ _ _ _ _ us hl => match us, hl with | [_, _, _], _ => rfl) vc_inverse_rule
theorem own_touch_expression (M : Mg K w mg) (H : Hs K mg) : Own P w K mg base 2 "touch_expression" sp_touch_expression :=
  own_by (k := 1) H.h_touch_expression F_touch_expression.sc (F_touch_expression.walk M ((own_column_part M H).mono (by decide)) ((own_told_many M H).mono (by decide)) ((own_expression_sum M H).mono (by decide)) ((own_number_part M H).mono (by decide)) ((own_product_part M H).mono (by decide))) (fun _ _ _ _ _ _ us hl => match us, hl with | [_], _ => rfl) vc_touch_expression
theorem own_touch_parts (M : Mg K w mg) (H : Hs K mg) : Own P w K mg base 3 "touch_parts" sp_touch_parts :=
  own_by (k := 2) H.h_touch_parts F_touch_parts.sc (F_touch_parts.walk M ((own_column_part M H).mono (by decide)) ((own_number_part M H).mono (by decide)) ((own_touch_expression M H).mono (by decide))) (fun _ _ _ _ _ _ us hl => match us, hl with | [_], _ => rfl) vc_touch_parts
theorem own_rows_domain_rules (M : Mg K w mg) (H : Hs K mg) : Own P w K mg base 4 "rows_domain_rules" sp_rows_domain_rules :=
  own_by (k := 3) H.h_rows_domain_rules F_rows_domain_rules.sc (F_rows_domain_rules.walk M ((own_touch_parts M H).mono (by decide)) ((own_mark_expression M H).mono (by decide)) ((own_gap_part M H).mono (by decide)) ((own_column_part M H).mono (by decide)) ((own_touch_expression M H).mono (by decide)) ((own_row_rules M H).mono (by decide)) ((own_inverse_rule M H).mono (by decide))) (fun _ _ _ _ _ _ us hl => match us, hl with | [_, _, _], _ => rfl) vc_rows_domain_rules
theorem own_domain_rules (M : Mg K w mg) (H : Hs K mg) : Own P w K mg base 5 "domain_rules" sp_domain_rules :=
  own_by (k := 4) H.h_domain_rules F_domain_rules.sc (F_domain_rules.walk M ((own_rows_domain_rules M H).mono (by decide)) ((own_mark_expression M H).mono (by decide)) ((own_number_part M H).mono (by decide)) ((own_column_part M H).mono (by decide)) ((own_product_part M H).mono (by decide)) ((own_gap_part M H).mono (by decide)) ((own_inverse_rule M H).mono (by decide))) (fun _ _ _ _ _ _ us hl => match us, hl with | [_, _, _, _], _ => rfl) vc_domain_rules
theorem own_share_expressions (M : Mg K w mg) (H : Hs K mg) : Own P w K mg base 2 "share_expressions" sp_share_expressions :=
  own_by (k := 1) H.h_share_expressions F_share_expressions.sc (F_share_expressions.walk M ((own_expression_sum M H).mono (by decide)) ((own_column_part M H).mono (by decide)) ((own_gap_part M H).mono (by decide)) ((own_product_part M H).mono (by decide)) ((own_number_part M H).mono (by decide))) (fun _ _ _ _ _ _ us hl => match us, hl with | [_], _ => rfl) vc_share_expressions
theorem own_sum_roots (M : Mg K w mg) (H : Hs K mg) : Own P w K mg base 1 "sum_roots" sp_sum_roots :=
  own_by (k := 0) H.h_sum_roots F_sum_roots.sc (F_sum_roots.walk M ) (fun _ _ _ _ _ _ us hl => match us, hl with | [_, _], _ => rfl) vc_sum_roots
theorem own_greatest_sum_count (M : Mg K w mg) (H : Hs K mg) : Own P w K mg base 2 "greatest_sum_count" sp_greatest_sum_count :=
  own_by (k := 1) H.h_greatest_sum_count F_greatest_sum_count.sc (F_greatest_sum_count.walk M ((own_whole_power M H).mono (by decide)) ((own_sum_roots M H).mono (by decide))) (fun _ _ _ _ _ _ us hl => match us, hl with | [_, _, _], _ => rfl) vc_greatest_sum_count
theorem own_book_names (M : Mg K w mg) (H : Hs K mg) : Own P w K mg base 1 "book_names" sp_book_names :=
  own_by (k := 0) H.h_book_names F_book_names.sc (F_book_names.walk M ) (fun _ _ _ _ _ _ us hl => match us, hl with | [], _ => rfl) vc_book_names
theorem own_book_many (M : Mg K w mg) (H : Hs K mg) : Own P w K mg base 1 "book_many" sp_book_many :=
  own_by (k := 0) H.h_book_many F_book_many.sc (F_book_many.walk M ) (fun _ _ _ _ _ _ us hl => match us, hl with | [_], _ => rfl) vc_book_many
theorem own_book_rows (M : Mg K w mg) (H : Hs K mg) : Own P w K mg base 3 "book_rows" sp_book_rows :=
  own_by (k := 2) H.h_book_rows F_book_rows.sc (F_book_rows.walk M ((own_book_height M H).mono (by decide)) ((own_domain_bits M H).mono (by decide)) ((own_book_many M H).mono (by decide))) (fun _ _ _ _ _ _ us hl => match us, hl with | [_, _], _ => rfl) vc_book_rows
theorem own_domain_message_size (M : Mg K w mg) (H : Hs K mg) : Own P w K mg base 102 "domain_message_size" sp_domain_message_size :=
  own_by (k := 101) H.h_domain_message_size F_domain_message_size.sc (F_domain_message_size.walk M ((own_share_expressions M H).mono (by decide)) ((own_domain_rules M H).mono (by decide)) ((own_message_size M H).mono (by decide)) ((own_joined_expression M H).mono (by decide))) (fun _ _ _ _ _ _ us hl => match us, hl with | [_], _ => rfl) vc_domain_message_size
theorem own_book_reads (M : Mg K w mg) (H : Hs K mg) : Own P w K mg base 4 "book_reads" sp_book_reads :=
  own_by (k := 3) H.h_book_reads F_book_reads.sc (F_book_reads.walk M ((own_domain_bits M H).mono (by decide)) ((own_book_points M H).mono (by decide)) ((own_book_size M H).mono (by decide)) ((own_book_rows M H).mono (by decide))) (fun _ _ _ _ _ _ us hl => match us, hl with | [_, _], _ => rfl) vc_book_reads
theorem own_domain_reads (M : Mg K w mg) (H : Hs K mg) : Own P w K mg base 103 "domain_reads" sp_domain_reads :=
  own_by (k := 102) H.h_domain_reads F_domain_reads.sc (F_domain_reads.walk M ((own_domain_bits M H).mono (by decide)) ((own_domain_message_size M H).mono (by decide)) ((own_told_many M H).mono (by decide))) (fun _ _ _ _ _ _ us hl => match us, hl with | [_, _], _ => rfl) vc_domain_reads
theorem own_talk_reads (M : Mg K w mg) (H : Hs K mg) : Own P w K mg base 104 "talk_reads" sp_talk_reads :=
  own_by (k := 103) H.h_talk_reads F_talk_reads.sc (F_talk_reads.walk M ((own_domain_reads M H).mono (by decide)) ((own_book_names M H).mono (by decide)) ((own_book_reads M H).mono (by decide))) (fun _ _ _ _ _ _ us hl => match us, hl with | [_], _ => rfl) vc_talk_reads
theorem own_run_numbers (M : Mg K w mg) (H : Hs K mg) : Own P w K mg base 1 "run_numbers" sp_run_numbers :=
  own_by (k := 0) H.h_run_numbers F_run_numbers.sc (F_run_numbers.walk M ) (fun _ _ _ _ _ _ us hl => match us, hl with | [_], _ => rfl) vc_run_numbers
theorem own_talk_parts (M : Mg K w mg) (H : Hs K mg) : Own P w K mg base 103 "talk_parts" sp_talk_parts :=
  own_by (k := 102) H.h_talk_parts F_talk_parts.sc (F_talk_parts.walk M ((own_domain_message_size M H).mono (by decide)) ((own_domain_bits M H).mono (by decide)) ((own_domain_rules M H).mono (by decide)) ((own_share_expressions M H).mono (by decide)) ((own_whole_power M H).mono (by decide)) ((own_most_vanishing M H).mono (by decide)) ((own_greatest_sum_count M H).mono (by decide)) ((own_book_names M H).mono (by decide)) ((own_book_size M H).mono (by decide)) ((own_book_many M H).mono (by decide)) ((own_most_wrong_weight M H).mono (by decide))) (fun _ _ _ _ _ _ us hl => match us, hl with | [_, _], _ => rfl) vc_talk_parts
theorem own_lowest_share (M : Mg K w mg) (H : Hs K mg) : Own P w K mg base 1 "lowest_share" sp_lowest_share :=
  own_by (k := 0) H.h_lowest_share F_lowest_share.sc (F_lowest_share.walk M ) (fun _ _ _ _ _ _ us hl => match us, hl with | [_, _], _ => rfl) vc_lowest_share
theorem own_shares_added (M : Mg K w mg) (H : Hs K mg) : Own P w K mg base 2 "shares_added" sp_shares_added :=
  own_by (k := 1) H.h_shares_added F_shares_added.sc (F_shares_added.walk M ((own_lowest_share M H).mono (by decide))) (fun _ _ _ _ _ _ us hl => match us, hl with | [_], _ => rfl) vc_shares_added
theorem own_lot_many (M : Mg K w mg) (H : Hs K mg) : Own P w K mg base 1 "lot_many" sp_lot_many :=
  own_by (k := 0) H.h_lot_many F_lot_many.sc (F_lot_many.walk M ) (fun _ _ _ _ _ _ us hl => match us, hl with | [_, _], _ => rfl) vc_lot_many
theorem own_lot_share (M : Mg K w mg) (H : Hs K mg) : Own P w K mg base 2 "lot_share" sp_lot_share :=
  own_by (k := 1) H.h_lot_share F_lot_share.sc (F_lot_share.walk M ((own_lot_many M H).mono (by decide)) ((own_lowest_share M H).mono (by decide))) (fun _ _ _ _ _ _ us hl => match us, hl with | [_, _, _], _ => rfl) vc_lot_share
theorem own_belief_parts (M : Mg K w mg) (H : Hs K mg) : Own P w K mg base 104 "belief_parts" sp_belief_parts :=
  own_by (k := 103) H.h_belief_parts F_belief_parts.sc (F_belief_parts.walk M ((own_lot_share M H).mono (by decide)) ((own_talk_parts M H).mono (by decide)) ((own_lowest_share M H).mono (by decide))) (fun _ _ _ _ _ _ us hl => match us, hl with | [_, _], _ => rfl) vc_belief_parts
theorem own_belief_share (M : Mg K w mg) (H : Hs K mg) : Own P w K mg base 105 "belief_share" sp_belief_share :=
  own_by (k := 104) H.h_belief_share F_belief_share.sc (F_belief_share.walk M ((own_shares_added M H).mono (by decide)) ((own_belief_parts M H).mono (by decide))) (fun _ _ _ _ _ _ us hl => match us, hl with | [_, _], _ => rfl) vc_belief_share
theorem own__law_state (M : Mg K w mg) (H : Hs K mg) : Own P w K mg base 1 "_law_state" sp__law_state :=
  own_by (k := 0) H.h__law_state F__law_state.sc (F__law_state.walk M ) (fun _ _ _ _ _ _ us hl => match us, hl with | [_], _ => rfl) vc__law_state
theorem own__law_draw (M : Mg K w mg) (H : Hs K mg) : Own P w K mg base 1 "_law_draw" sp__law_draw :=
  own_by (k := 0) H.h__law_draw F__law_draw.sc (F__law_draw.walk M ) (fun _ _ _ _ _ _ us hl => match us, hl with | [_, _], _ => rfl) vc__law_draw
theorem own__law_same (M : Mg K w mg) (H : Hs K mg) : ∀ j, Own P w K mg base j "_law_same" (sp_sm j)
  | 0 => own_no (ps := ["told", "due"]) H.h__law_same (fun ds S Q ⟨x, y, _, ⟨h, _⟩, _⟩ => absurd h (by decide)) (fun _ _ _ _ _ _ us hl => match us, hl with | [_, _], _ => rfl)
  | j + 1 => own_by H.h__law_same F__law_same.sc (F__law_same.walk M (own__law_same M H j)) (fun _ _ _ _ _ _ us hl => match us, hl with | [_, _], _ => rfl) (vc__law_same j)
theorem own__law_power (M : Mg K w mg) (H : Hs K mg) : Own P w K mg base 1 "_law_power" sp__law_power :=
  own_by (k := 0) H.h__law_power F__law_power.sc (F__law_power.walk M ) (fun _ _ _ _ _ _ us hl => match us, hl with | [_, _], _ => rfl) vc__law_power
theorem own__law_domains (M : Mg K w mg) (H : Hs K mg) : Own P w K mg base 1 "_law_domains" sp__law_domains :=
  own_by (k := 0) H.h__law_domains F__law_domains.sc (F__law_domains.walk M ) (fun _ _ _ _ _ _ us hl => match us, hl with | [_], _ => rfl) vc__law_domains
theorem own__law_size (M : Mg K w mg) (H : Hs K mg) : Own P w K mg base 1 "_law_size" sp__law_size :=
  own_by (k := 0) H.h__law_size F__law_size.sc (F__law_size.walk M ) (fun _ _ _ _ _ _ us hl => match us, hl with | [_], _ => rfl) vc__law_size
theorem own__law_spots (M : Mg K w mg) (H : Hs K mg) : Own P w K mg base 1 "_law_spots" sp__law_spots :=
  own_by (k := 0) H.h__law_spots F__law_spots.sc (F__law_spots.walk M ) (fun _ _ _ _ _ _ us hl => match us, hl with | [_, _], _ => rfl) vc__law_spots
theorem law_ok (M : Mg K w mg) (H : Hs K mg) {f : Addr} {fd : FuncData} (F : FunD K "law" "law" (defArgs F_law.st) (defBody F_law.st) (defScope F_law.st) [] [] f fd) : FnOk P w K mg base CX0 106 f fd ["script"] (liftSp (K, w) sp_law) :=
  fn_ok (k := 105) F F_law.sc (F_law.walk M ((own__law_state M H).mono (by decide)) ((own__law_draw M H).mono (by decide)) ((own__law_domains M H).mono (by decide)) ((own__law_power M H).mono (by decide)) ((own_domain_reads M H).mono (by decide)) ((own__law_size M H).mono (by decide)) ((own__law_spots M H).mono (by decide)) ((own_book_reads M H).mono (by decide)) ((own__law_same M H 4).mono (by decide)) ((own_talk_parts M H).mono (by decide)) ((own_talk_reads M H).mono (by decide)) ((own_run_numbers M H).mono (by decide)) ((own_belief_parts M H).mono (by decide)) ((own_lowest_share M H).mono (by decide)) ((own_shares_added M H).mono (by decide)) ((own_belief_share M H).mono (by decide))) vc_law
end
end K83

namespace K83
open PySem PySem.Spec PyProof.Rows L2 PD
def nm0 : List PySem.Str := ["CODE_TIMES", "expression_degree", "expression_sum", "expression_by_powers", "message_size", "book_high", "book_size", "book_points", "book_height", "SPOTS", "whole_power", "most_vanishing", "joined_expression", "near_radius", "spot_weights", "most_wrong_weight", "WORDS", "MOST_CODE", "COLUMNS", "TOUCHES", "PLACE", "DOMAINS", "FIRST_MANY", "SECOND_MANY", "FIXED_MANY", "domain_bits", "told_many", "column_part", "number_part", "gap_part"]
def nm1 : List PySem.Str := ["product_part", "row_rules", "mark_expression", "inverse_rule", "touch_parts", "touch_expression", "rows_domain_rules", "domain_rules", "share_expressions", "sum_roots", "greatest_sum_count", "TELLINGS", "book_names", "book_many", "book_rows", "domain_message_size", "book_reads", "domain_reads", "talk_reads", "run_numbers", "talk_parts", "LOT_WIDTHS", "lowest_share", "shares_added", "lot_many", "lot_share", "belief_parts", "belief_share", "_law_state", "_law_draw"]
def nm2 : List PySem.Str := ["_law_same", "_law_power", "_law_domains", "_law_size", "_law_spots"]
def names : List PySem.Str := nm0 ++ nm1 ++ nm2
def d_expression_degree : He.DefD := ⟨("expression_degree", none), "expression_degree", "expression_degree", defArgs F_expression_degree.st, defBody F_expression_degree.st, defScope F_expression_degree.st, [], []⟩
def d_expression_sum : He.DefD := ⟨("expression_sum", none), "expression_sum", "expression_sum", defArgs F_expression_sum.st, defBody F_expression_sum.st, defScope F_expression_sum.st, [], []⟩
def d_expression_by_powers : He.DefD := ⟨("expression_by_powers", none), "expression_by_powers", "expression_by_powers", defArgs F_expression_by_powers.st, defBody F_expression_by_powers.st, defScope F_expression_by_powers.st, [], []⟩
def d_message_size : He.DefD := ⟨("message_size", none), "message_size", "message_size", defArgs F_message_size.st, defBody F_message_size.st, defScope F_message_size.st, [], []⟩
def d_book_high : He.DefD := ⟨("book_high", none), "book_high", "book_high", defArgs F_book_high.st, defBody F_book_high.st, defScope F_book_high.st, [], []⟩
def d_book_size : He.DefD := ⟨("book_size", none), "book_size", "book_size", defArgs F_book_size.st, defBody F_book_size.st, defScope F_book_size.st, [], []⟩
def d_book_points : He.DefD := ⟨("book_points", none), "book_points", "book_points", defArgs F_book_points.st, defBody F_book_points.st, defScope F_book_points.st, [], []⟩
def d_book_height : He.DefD := ⟨("book_height", none), "book_height", "book_height", defArgs F_book_height.st, defBody F_book_height.st, defScope F_book_height.st, [], []⟩
def d_whole_power : He.DefD := ⟨("whole_power", none), "whole_power", "whole_power", defArgs F_whole_power.st, defBody F_whole_power.st, defScope F_whole_power.st, [], []⟩
def d_most_vanishing : He.DefD := ⟨("most_vanishing", none), "most_vanishing", "most_vanishing", defArgs F_most_vanishing.st, defBody F_most_vanishing.st, defScope F_most_vanishing.st, [], []⟩
def d_joined_expression : He.DefD := ⟨("joined_expression", none), "joined_expression", "joined_expression", defArgs F_joined_expression.st, defBody F_joined_expression.st, defScope F_joined_expression.st, [], []⟩
def d_near_radius : He.DefD := ⟨("near_radius", none), "near_radius", "near_radius", defArgs F_near_radius.st, defBody F_near_radius.st, defScope F_near_radius.st, [], []⟩
def d_spot_weights : He.DefD := ⟨("spot_weights", none), "spot_weights", "spot_weights", defArgs F_spot_weights.st, defBody F_spot_weights.st, defScope F_spot_weights.st, [], []⟩
def d_most_wrong_weight : He.DefD := ⟨("most_wrong_weight", none), "most_wrong_weight", "most_wrong_weight", defArgs F_most_wrong_weight.st, defBody F_most_wrong_weight.st, defScope F_most_wrong_weight.st, [], []⟩
def d_domain_bits : He.DefD := ⟨("domain_bits", none), "domain_bits", "domain_bits", defArgs F_domain_bits.st, defBody F_domain_bits.st, defScope F_domain_bits.st, [], []⟩
def d_told_many : He.DefD := ⟨("told_many", none), "told_many", "told_many", defArgs F_told_many.st, defBody F_told_many.st, defScope F_told_many.st, [], []⟩
def d_column_part : He.DefD := ⟨("column_part", none), "column_part", "column_part", defArgs F_column_part.st, defBody F_column_part.st, defScope F_column_part.st, [], []⟩
def d_number_part : He.DefD := ⟨("number_part", none), "number_part", "number_part", defArgs F_number_part.st, defBody F_number_part.st, defScope F_number_part.st, [], []⟩
def d_gap_part : He.DefD := ⟨("gap_part", none), "gap_part", "gap_part", defArgs F_gap_part.st, defBody F_gap_part.st, defScope F_gap_part.st, [], []⟩
def d_product_part : He.DefD := ⟨("product_part", none), "product_part", "product_part", defArgs F_product_part.st, defBody F_product_part.st, defScope F_product_part.st, [], []⟩
def d_row_rules : He.DefD := ⟨("row_rules", none), "row_rules", "row_rules", defArgs F_row_rules.st, defBody F_row_rules.st, defScope F_row_rules.st, [], []⟩
def d_mark_expression : He.DefD := ⟨("mark_expression", none), "mark_expression", "mark_expression", defArgs F_mark_expression.st, defBody F_mark_expression.st, defScope F_mark_expression.st, [], []⟩
def d_inverse_rule : He.DefD := ⟨("inverse_rule", none), "inverse_rule", "inverse_rule", defArgs F_inverse_rule.st, defBody F_inverse_rule.st, defScope F_inverse_rule.st, [], []⟩
def d_touch_parts : He.DefD := ⟨("touch_parts", none), "touch_parts", "touch_parts", defArgs F_touch_parts.st, defBody F_touch_parts.st, defScope F_touch_parts.st, [], []⟩
def d_touch_expression : He.DefD := ⟨("touch_expression", none), "touch_expression", "touch_expression", defArgs F_touch_expression.st, defBody F_touch_expression.st, defScope F_touch_expression.st, [], []⟩
def d_rows_domain_rules : He.DefD := ⟨("rows_domain_rules", none), "rows_domain_rules", "rows_domain_rules", defArgs F_rows_domain_rules.st, defBody F_rows_domain_rules.st, defScope F_rows_domain_rules.st, [], []⟩
def d_domain_rules : He.DefD := ⟨("domain_rules", none), "domain_rules", "domain_rules", defArgs F_domain_rules.st, defBody F_domain_rules.st, defScope F_domain_rules.st, [], []⟩
def d_share_expressions : He.DefD := ⟨("share_expressions", none), "share_expressions", "share_expressions", defArgs F_share_expressions.st, defBody F_share_expressions.st, defScope F_share_expressions.st, [], []⟩
def d_sum_roots : He.DefD := ⟨("sum_roots", none), "sum_roots", "sum_roots", defArgs F_sum_roots.st, defBody F_sum_roots.st, defScope F_sum_roots.st, [], []⟩
def d_greatest_sum_count : He.DefD := ⟨("greatest_sum_count", none), "greatest_sum_count", "greatest_sum_count", defArgs F_greatest_sum_count.st, defBody F_greatest_sum_count.st, defScope F_greatest_sum_count.st, [], []⟩
def d_book_names : He.DefD := ⟨("book_names", none), "book_names", "book_names", defArgs F_book_names.st, defBody F_book_names.st, defScope F_book_names.st, [], []⟩
def d_book_many : He.DefD := ⟨("book_many", none), "book_many", "book_many", defArgs F_book_many.st, defBody F_book_many.st, defScope F_book_many.st, [], []⟩
def d_book_rows : He.DefD := ⟨("book_rows", none), "book_rows", "book_rows", defArgs F_book_rows.st, defBody F_book_rows.st, defScope F_book_rows.st, [], []⟩
def d_domain_message_size : He.DefD := ⟨("domain_message_size", none), "domain_message_size", "domain_message_size", defArgs F_domain_message_size.st, defBody F_domain_message_size.st, defScope F_domain_message_size.st, [], []⟩
def d_book_reads : He.DefD := ⟨("book_reads", none), "book_reads", "book_reads", defArgs F_book_reads.st, defBody F_book_reads.st, defScope F_book_reads.st, [], []⟩
def d_domain_reads : He.DefD := ⟨("domain_reads", none), "domain_reads", "domain_reads", defArgs F_domain_reads.st, defBody F_domain_reads.st, defScope F_domain_reads.st, [], []⟩
def d_talk_reads : He.DefD := ⟨("talk_reads", none), "talk_reads", "talk_reads", defArgs F_talk_reads.st, defBody F_talk_reads.st, defScope F_talk_reads.st, [], []⟩
def d_run_numbers : He.DefD := ⟨("run_numbers", none), "run_numbers", "run_numbers", defArgs F_run_numbers.st, defBody F_run_numbers.st, defScope F_run_numbers.st, [], []⟩
def d_talk_parts : He.DefD := ⟨("talk_parts", none), "talk_parts", "talk_parts", defArgs F_talk_parts.st, defBody F_talk_parts.st, defScope F_talk_parts.st, [], []⟩
def d_lowest_share : He.DefD := ⟨("lowest_share", none), "lowest_share", "lowest_share", defArgs F_lowest_share.st, defBody F_lowest_share.st, defScope F_lowest_share.st, [], []⟩
def d_shares_added : He.DefD := ⟨("shares_added", none), "shares_added", "shares_added", defArgs F_shares_added.st, defBody F_shares_added.st, defScope F_shares_added.st, [], []⟩
def d_lot_many : He.DefD := ⟨("lot_many", none), "lot_many", "lot_many", defArgs F_lot_many.st, defBody F_lot_many.st, defScope F_lot_many.st, [], []⟩
def d_lot_share : He.DefD := ⟨("lot_share", none), "lot_share", "lot_share", defArgs F_lot_share.st, defBody F_lot_share.st, defScope F_lot_share.st, [], []⟩
def d_belief_parts : He.DefD := ⟨("belief_parts", none), "belief_parts", "belief_parts", defArgs F_belief_parts.st, defBody F_belief_parts.st, defScope F_belief_parts.st, [], []⟩
def d_belief_share : He.DefD := ⟨("belief_share", none), "belief_share", "belief_share", defArgs F_belief_share.st, defBody F_belief_share.st, defScope F_belief_share.st, [], []⟩
def d__law_state : He.DefD := ⟨("_law_state", none), "_law_state", "_law_state", defArgs F__law_state.st, defBody F__law_state.st, defScope F__law_state.st, [], []⟩
def d__law_draw : He.DefD := ⟨("_law_draw", none), "_law_draw", "_law_draw", defArgs F__law_draw.st, defBody F__law_draw.st, defScope F__law_draw.st, [], []⟩
def d__law_same : He.DefD := ⟨("_law_same", none), "_law_same", "_law_same", defArgs F__law_same.st, defBody F__law_same.st, defScope F__law_same.st, [], []⟩
def d__law_power : He.DefD := ⟨("_law_power", none), "_law_power", "_law_power", defArgs F__law_power.st, defBody F__law_power.st, defScope F__law_power.st, [], []⟩
def d__law_domains : He.DefD := ⟨("_law_domains", none), "_law_domains", "_law_domains", defArgs F__law_domains.st, defBody F__law_domains.st, defScope F__law_domains.st, [], []⟩
def d__law_size : He.DefD := ⟨("_law_size", none), "_law_size", "_law_size", defArgs F__law_size.st, defBody F__law_size.st, defScope F__law_size.st, [], []⟩
def d__law_spots : He.DefD := ⟨("_law_spots", none), "_law_spots", "_law_spots", defArgs F__law_spots.st, defBody F__law_spots.st, defScope F__law_spots.st, [], []⟩
def d_law : He.DefD := ⟨("law", none), "law", "law", defArgs F_law.st, defBody F_law.st, defScope F_law.st, [], []⟩
def fn : List He.DefD := [d_expression_degree, d_expression_sum, d_expression_by_powers, d_message_size, d_book_high, d_book_size, d_book_points, d_book_height, d_whole_power, d_most_vanishing, d_joined_expression, d_near_radius, d_spot_weights, d_most_wrong_weight, d_domain_bits, d_told_many, d_column_part, d_number_part, d_gap_part, d_product_part, d_row_rules, d_mark_expression, d_inverse_rule, d_touch_parts, d_touch_expression, d_rows_domain_rules, d_domain_rules, d_share_expressions, d_sum_roots, d_greatest_sum_count, d_book_names, d_book_many, d_book_rows, d_domain_message_size, d_book_reads, d_domain_reads, d_talk_reads, d_run_numbers, d_talk_parts, d_lowest_share, d_shares_added, d_lot_many, d_lot_share, d_belief_parts, d_belief_share, d__law_state, d__law_draw, d__law_same, d__law_power, d__law_domains, d__law_size, d__law_spots, d_law]
def fa0 : List He.Fa := [.glo "expression_degree", .glo "expression_sum", .glo "expression_by_powers", .glo "message_size", .glo "book_high", .glo "book_size", .glo "book_points", .glo "book_height", .glo "whole_power", .glo "most_vanishing", .glo "joined_expression", .glo "near_radius", .glo "spot_weights", .glo "most_wrong_weight", .glo "domain_bits", .glo "told_many", .glo "column_part", .glo "number_part", .glo "gap_part", .glo "product_part", .glo "row_rules", .glo "mark_expression", .glo "inverse_rule", .glo "touch_parts", .glo "touch_expression"]
def fa1 : List He.Fa := [.glo "rows_domain_rules", .glo "domain_rules", .glo "share_expressions", .glo "sum_roots", .glo "greatest_sum_count", .glo "book_names", .glo "book_many", .glo "book_rows", .glo "domain_message_size", .glo "book_reads", .glo "domain_reads", .glo "talk_reads", .glo "run_numbers", .glo "talk_parts", .glo "lowest_share", .glo "shares_added", .glo "lot_many", .glo "lot_share", .glo "belief_parts", .glo "belief_share", .glo "_law_state", .glo "_law_draw", .glo "_law_same", .glo "_law_power", .glo "_law_domains"]
def fa2 : List He.Fa := [.glo "_law_size", .glo "_law_spots", .glo "law", .free "abs", .free "all", .free "bool", .free "int", .free "isinstance", .free "len", .free "list", .free "max", .free "min", .free "range", .free "sorted", .free "str", .free "sum", .free "tuple", .int "CODE_TIMES" 4, .int "WORDS" 14, .int "PLACE" 15, .int "COLUMNS" 30, .int "TOUCHES" 5, .int "SPOTS" 20, .int "MOST_CODE" 64, .glo "TELLINGS"]
def fa3 : List He.Fa := [.glo "DOMAINS", .glo "FIRST_MANY", .glo "SECOND_MANY", .glo "FIXED_MANY", .glo "LOT_WIDTHS"]
def fa : List He.Fa := fa0 ++ fa1 ++ fa2 ++ fa3
def tbs : List He.Tab := [(fun K => He.ga K "FIRST_MANY", ["rows", "cells", "code", "times"]), (fun K => He.ga K "SECOND_MANY", ["rows", "cells", "code", "times"]), (fun K => He.ga K "FIXED_MANY", ["rows", "cells", "code", "times"]), (fun K => He.ga K "LOT_WIDTHS", ["cells", "code", "times"])]
def exB (K : PySem.W.Frag) : Bool := (He.tupB K "TELLINGS" [.str "first", .str "second"] && (He.tupB K "DOMAINS" [.str "rows", .str "cells", .str "code", .str "times"] && (He.valsB K (He.ga K "FIRST_MANY") [("rows", .int 30), ("cells", .int 2), ("code", .int 1), ("times", .int 1)] && (He.valsB K (He.ga K "SECOND_MANY") [("rows", .int 16), ("cells", .int 2), ("code", .int 1), ("times", .int 1)] && (He.valsB K (He.ga K "FIXED_MANY") [("rows", .int 1), ("cells", .int 5), ("code", .int 15), ("times", .int 1)] && (He.valsB K (He.ga K "LOT_WIDTHS") [("cells", .int 4), ("code", .int 15), ("times", .int 1)] && true))))))
abbrev R : PySem.W.OpenRow := PySem.W.OpenLaw.row PySem.Challenge.rw_readslittle_k83_whole_parts_of_what_is_b
abbrev qv : Program := PySem.W.view R.prog [78]
abbrev hk : PySem.W.Hook := He.hookX 4 fa fn tbs [] exB
def ob (s : PySem.W.SharedT) : He.AlX := He.obsX 4 fa fn tbs [] exB (HandSHeadRun.getT s)
theorem ob_eq (s : PySem.W.SharedT) : ob s = hk.obs s.abs := He.obsX_eq (HandSHeadRun.getT_eq s)
theorem run0 (w : World) : HandSHeadRun.RunEq R qv hk ob 8000 names (w.withFollow "special-get-raises" false) := by
  intro os
  kernel_rfl
theorem run1 (w : World) : HandSHeadRun.RunEq R qv hk ob 8000 names (w.withFollow "special-get-raises" true) := by
  intro os
  kernel_rfl
theorem run (w : World) : HandSHeadRun.RunEq R qv hk ob 8000 names w := PySem.W.byRow2 "special-get-raises" (P := fun w => HandSHeadRun.RunEq R qv hk ob 8000 names w) run0 run1 w
theorem tab_eq {fa : List He.Fa} {fn : List He.DefD} {ts : List He.Tab} {w : World} {K : PySem.W.Frag} (c : He.SaysT fa fn ts w K) (i : Nat) {t : He.Tab} (h : ts[i]? = some t := by rfl) : He.dicW K (t.1 K) = some (He.keysIn w.params t.2) := by
  have e : ts.map (fun t => He.dicW K (t.1 K)) = ts.map fun t => some (He.keysIn w.params t.2) := congrArg (fun z : He.AlT => z.2) c
  have e2 : (ts.map fun t => He.dicW K (t.1 K))[i]? = (ts.map fun t => some (He.keysIn w.params t.2))[i]? := by rw [e]
  rw [List.getElem?_map, List.getElem?_map, h] at e2
  exact Option.some.inj e2
theorem kd_ok {w : World} {K : PySem.W.Frag} {a : Addr} {ks : List Str} {x : Str} {v : V} (h : He.dicW K a = some (He.keysIn w.params ks)) (hv : ∃ u, PySem.W.nsIn K a x = some (some u) ∧ RelV v u) : KDct K w a x v := by
  obtain ⟨es, n, h1, h2, h3⟩ := dicW_inv h
  obtain ⟨u, e, r⟩ := hv
  exact ⟨es, n, u, h1, He.keysLit_of h3, e, r⟩
theorem mg_ok {w : World} {K : PySem.W.Frag} {h : Heap} {mg : Str → Option Value} (X : K.In h) (G : h.Ns mainGlobals mg) (c : He.SaysT fa fn tbs w K) (m : exB K = true) : Mg K w mg := by
  have d := c.d
  unfold exB at m
  simp only [Bool.and_eq_true] at m
  obtain ⟨m0, m1, m2, m3, m4, m5, _⟩ := m
  exact {
    n_abs := He.free_ok X G (d.fact 53 (f := .free "abs") rfl)
    n_all := He.free_ok X G (d.fact 54 (f := .free "all") rfl)
    n_bool := He.free_ok X G (d.fact 55 (f := .free "bool") rfl)
    n_int := He.free_ok X G (d.fact 56 (f := .free "int") rfl)
    n_isinstance := He.free_ok X G (d.fact 57 (f := .free "isinstance") rfl)
    n_len := He.free_ok X G (d.fact 58 (f := .free "len") rfl)
    n_list := He.free_ok X G (d.fact 59 (f := .free "list") rfl)
    n_max := He.free_ok X G (d.fact 60 (f := .free "max") rfl)
    n_min := He.free_ok X G (d.fact 61 (f := .free "min") rfl)
    n_range := He.free_ok X G (d.fact 62 (f := .free "range") rfl)
    n_sorted := He.free_ok X G (d.fact 63 (f := .free "sorted") rfl)
    n_str := He.free_ok X G (d.fact 64 (f := .free "str") rfl)
    n_sum := He.free_ok X G (d.fact 65 (f := .free "sum") rfl)
    n_tuple := He.free_ok X G (d.fact 66 (f := .free "tuple") rfl)
    g_CODE_TIMES := by obtain ⟨t, ht⟩ := He.int_ok X G (d.fact 67 (f := .int "CODE_TIMES" 4) rfl); exact ⟨_, .int 4, ht, ⟨t, rfl⟩, fun _ => DR.int⟩
    g_FIRST_MANY := ⟨_, .ref (He.ga K "FIRST_MANY"), He.glo_ok X G (d.fact 76 (f := .glo "FIRST_MANY") rfl), rfl, fun H => by unfold DR; exact ⟨_, _, rfl, (.cons (kd_ok (tab_eq c 0) (He.valsB_ok m2 (List.mem_iff_getElem.mpr ⟨0, by decide, rfl⟩))) (.cons (kd_ok (tab_eq c 0) (He.valsB_ok m2 (List.mem_iff_getElem.mpr ⟨1, by decide, rfl⟩))) (.cons (kd_ok (tab_eq c 0) (He.valsB_ok m2 (List.mem_iff_getElem.mpr ⟨2, by decide, rfl⟩))) (.cons (kd_ok (tab_eq c 0) (He.valsB_ok m2 (List.mem_iff_getElem.mpr ⟨3, by decide, rfl⟩))) .nil)))), (DRs.cons DR.int (DRs.cons DR.int (DRs.cons DR.int (DRs.cons DR.int DRs.nil))))⟩⟩
    g_SECOND_MANY := ⟨_, .ref (He.ga K "SECOND_MANY"), He.glo_ok X G (d.fact 77 (f := .glo "SECOND_MANY") rfl), rfl, fun H => by unfold DR; exact ⟨_, _, rfl, (.cons (kd_ok (tab_eq c 1) (He.valsB_ok m3 (List.mem_iff_getElem.mpr ⟨0, by decide, rfl⟩))) (.cons (kd_ok (tab_eq c 1) (He.valsB_ok m3 (List.mem_iff_getElem.mpr ⟨1, by decide, rfl⟩))) (.cons (kd_ok (tab_eq c 1) (He.valsB_ok m3 (List.mem_iff_getElem.mpr ⟨2, by decide, rfl⟩))) (.cons (kd_ok (tab_eq c 1) (He.valsB_ok m3 (List.mem_iff_getElem.mpr ⟨3, by decide, rfl⟩))) .nil)))), (DRs.cons DR.int (DRs.cons DR.int (DRs.cons DR.int (DRs.cons DR.int DRs.nil))))⟩⟩
    g_WORDS := by obtain ⟨t, ht⟩ := He.int_ok X G (d.fact 68 (f := .int "WORDS" 14) rfl); exact ⟨_, .int 14, ht, ⟨t, rfl⟩, fun _ => DR.int⟩
    g_PLACE := by obtain ⟨t, ht⟩ := He.int_ok X G (d.fact 69 (f := .int "PLACE" 15) rfl); exact ⟨_, .int 15, ht, ⟨t, rfl⟩, fun _ => DR.int⟩
    g_COLUMNS := by obtain ⟨t, ht⟩ := He.int_ok X G (d.fact 70 (f := .int "COLUMNS" 30) rfl); exact ⟨_, .int 30, ht, ⟨t, rfl⟩, fun _ => DR.int⟩
    g_TOUCHES := by obtain ⟨t, ht⟩ := He.int_ok X G (d.fact 71 (f := .int "TOUCHES" 5) rfl); exact ⟨_, .int 5, ht, ⟨t, rfl⟩, fun _ => DR.int⟩
    g_FIXED_MANY := ⟨_, .ref (He.ga K "FIXED_MANY"), He.glo_ok X G (d.fact 78 (f := .glo "FIXED_MANY") rfl), rfl, fun H => by unfold DR; exact ⟨_, _, rfl, (.cons (kd_ok (tab_eq c 2) (He.valsB_ok m4 (List.mem_iff_getElem.mpr ⟨0, by decide, rfl⟩))) (.cons (kd_ok (tab_eq c 2) (He.valsB_ok m4 (List.mem_iff_getElem.mpr ⟨1, by decide, rfl⟩))) (.cons (kd_ok (tab_eq c 2) (He.valsB_ok m4 (List.mem_iff_getElem.mpr ⟨2, by decide, rfl⟩))) (.cons (kd_ok (tab_eq c 2) (He.valsB_ok m4 (List.mem_iff_getElem.mpr ⟨3, by decide, rfl⟩))) .nil)))), (DRs.cons DR.int (DRs.cons DR.int (DRs.cons DR.int (DRs.cons DR.int DRs.nil))))⟩⟩
    g_TELLINGS := ⟨_, .ref (He.ga K "TELLINGS"), He.glo_ok X G (d.fact 74 (f := .glo "TELLINGS") rfl), rfl, fun H => DR.tup (He.tupB_ok m0 H) (DRs.cons DR.str (DRs.cons DR.str DRs.nil))⟩
    g_DOMAINS := ⟨_, .ref (He.ga K "DOMAINS"), He.glo_ok X G (d.fact 75 (f := .glo "DOMAINS") rfl), rfl, fun H => DR.tup (He.tupB_ok m1 H) (DRs.cons DR.str (DRs.cons DR.str (DRs.cons DR.str (DRs.cons DR.str DRs.nil))))⟩
    g_SPOTS := by obtain ⟨t, ht⟩ := He.int_ok X G (d.fact 72 (f := .int "SPOTS" 20) rfl); exact ⟨_, .int 20, ht, ⟨t, rfl⟩, fun _ => DR.int⟩
    g_MOST_CODE := by obtain ⟨t, ht⟩ := He.int_ok X G (d.fact 73 (f := .int "MOST_CODE" 64) rfl); exact ⟨_, .int 64, ht, ⟨t, rfl⟩, fun _ => DR.int⟩
    g_LOT_WIDTHS := ⟨_, .ref (He.ga K "LOT_WIDTHS"), He.glo_ok X G (d.fact 79 (f := .glo "LOT_WIDTHS") rfl), rfl, fun H => by unfold DR; exact ⟨_, _, rfl, (.cons (kd_ok (tab_eq c 3) (He.valsB_ok m5 (List.mem_iff_getElem.mpr ⟨0, by decide, rfl⟩))) (.cons (kd_ok (tab_eq c 3) (He.valsB_ok m5 (List.mem_iff_getElem.mpr ⟨1, by decide, rfl⟩))) (.cons (kd_ok (tab_eq c 3) (He.valsB_ok m5 (List.mem_iff_getElem.mpr ⟨2, by decide, rfl⟩))) .nil))), (DRs.cons DR.int (DRs.cons DR.int (DRs.cons DR.int DRs.nil)))⟩⟩
    k_LOT_WIDTHS := ⟨_, He.glo_ok X G (d.fact 79 (f := .glo "LOT_WIDTHS") rfl), tab_eq c 3⟩
  }
theorem hs_ok {w : World} {K : PySem.W.Frag} {h : Heap} {mg : Str → Option Value} (X : K.In h) (G : h.Ns mainGlobals mg) (c : He.SaysD fa fn K) : Hs K mg := {
    h_expression_degree := by obtain ⟨fd, F⟩ := c.def_ 0 (d := d_expression_degree) rfl; exact ⟨_, fd, F, He.glo_ok X G (c.fact 0 (f := .glo "expression_degree") rfl)⟩
    h_expression_sum := by obtain ⟨fd, F⟩ := c.def_ 1 (d := d_expression_sum) rfl; exact ⟨_, fd, F, He.glo_ok X G (c.fact 1 (f := .glo "expression_sum") rfl)⟩
    h_expression_by_powers := by obtain ⟨fd, F⟩ := c.def_ 2 (d := d_expression_by_powers) rfl; exact ⟨_, fd, F, He.glo_ok X G (c.fact 2 (f := .glo "expression_by_powers") rfl)⟩
    h_message_size := by obtain ⟨fd, F⟩ := c.def_ 3 (d := d_message_size) rfl; exact ⟨_, fd, F, He.glo_ok X G (c.fact 3 (f := .glo "message_size") rfl)⟩
    h_book_high := by obtain ⟨fd, F⟩ := c.def_ 4 (d := d_book_high) rfl; exact ⟨_, fd, F, He.glo_ok X G (c.fact 4 (f := .glo "book_high") rfl)⟩
    h_book_size := by obtain ⟨fd, F⟩ := c.def_ 5 (d := d_book_size) rfl; exact ⟨_, fd, F, He.glo_ok X G (c.fact 5 (f := .glo "book_size") rfl)⟩
    h_book_points := by obtain ⟨fd, F⟩ := c.def_ 6 (d := d_book_points) rfl; exact ⟨_, fd, F, He.glo_ok X G (c.fact 6 (f := .glo "book_points") rfl)⟩
    h_book_height := by obtain ⟨fd, F⟩ := c.def_ 7 (d := d_book_height) rfl; exact ⟨_, fd, F, He.glo_ok X G (c.fact 7 (f := .glo "book_height") rfl)⟩
    h_whole_power := by obtain ⟨fd, F⟩ := c.def_ 8 (d := d_whole_power) rfl; exact ⟨_, fd, F, He.glo_ok X G (c.fact 8 (f := .glo "whole_power") rfl)⟩
    h_most_vanishing := by obtain ⟨fd, F⟩ := c.def_ 9 (d := d_most_vanishing) rfl; exact ⟨_, fd, F, He.glo_ok X G (c.fact 9 (f := .glo "most_vanishing") rfl)⟩
    h_joined_expression := by obtain ⟨fd, F⟩ := c.def_ 10 (d := d_joined_expression) rfl; exact ⟨_, fd, F, He.glo_ok X G (c.fact 10 (f := .glo "joined_expression") rfl)⟩
    h_near_radius := by obtain ⟨fd, F⟩ := c.def_ 11 (d := d_near_radius) rfl; exact ⟨_, fd, F, He.glo_ok X G (c.fact 11 (f := .glo "near_radius") rfl)⟩
    h_spot_weights := by obtain ⟨fd, F⟩ := c.def_ 12 (d := d_spot_weights) rfl; exact ⟨_, fd, F, He.glo_ok X G (c.fact 12 (f := .glo "spot_weights") rfl)⟩
    h_most_wrong_weight := by obtain ⟨fd, F⟩ := c.def_ 13 (d := d_most_wrong_weight) rfl; exact ⟨_, fd, F, He.glo_ok X G (c.fact 13 (f := .glo "most_wrong_weight") rfl)⟩
    h_domain_bits := by obtain ⟨fd, F⟩ := c.def_ 14 (d := d_domain_bits) rfl; exact ⟨_, fd, F, He.glo_ok X G (c.fact 14 (f := .glo "domain_bits") rfl)⟩
    h_told_many := by obtain ⟨fd, F⟩ := c.def_ 15 (d := d_told_many) rfl; exact ⟨_, fd, F, He.glo_ok X G (c.fact 15 (f := .glo "told_many") rfl)⟩
    h_column_part := by obtain ⟨fd, F⟩ := c.def_ 16 (d := d_column_part) rfl; exact ⟨_, fd, F, He.glo_ok X G (c.fact 16 (f := .glo "column_part") rfl)⟩
    h_number_part := by obtain ⟨fd, F⟩ := c.def_ 17 (d := d_number_part) rfl; exact ⟨_, fd, F, He.glo_ok X G (c.fact 17 (f := .glo "number_part") rfl)⟩
    h_gap_part := by obtain ⟨fd, F⟩ := c.def_ 18 (d := d_gap_part) rfl; exact ⟨_, fd, F, He.glo_ok X G (c.fact 18 (f := .glo "gap_part") rfl)⟩
    h_product_part := by obtain ⟨fd, F⟩ := c.def_ 19 (d := d_product_part) rfl; exact ⟨_, fd, F, He.glo_ok X G (c.fact 19 (f := .glo "product_part") rfl)⟩
    h_row_rules := by obtain ⟨fd, F⟩ := c.def_ 20 (d := d_row_rules) rfl; exact ⟨_, fd, F, He.glo_ok X G (c.fact 20 (f := .glo "row_rules") rfl)⟩
    h_mark_expression := by obtain ⟨fd, F⟩ := c.def_ 21 (d := d_mark_expression) rfl; exact ⟨_, fd, F, He.glo_ok X G (c.fact 21 (f := .glo "mark_expression") rfl)⟩
    h_inverse_rule := by obtain ⟨fd, F⟩ := c.def_ 22 (d := d_inverse_rule) rfl; exact ⟨_, fd, F, He.glo_ok X G (c.fact 22 (f := .glo "inverse_rule") rfl)⟩
    h_touch_parts := by obtain ⟨fd, F⟩ := c.def_ 23 (d := d_touch_parts) rfl; exact ⟨_, fd, F, He.glo_ok X G (c.fact 23 (f := .glo "touch_parts") rfl)⟩
    h_touch_expression := by obtain ⟨fd, F⟩ := c.def_ 24 (d := d_touch_expression) rfl; exact ⟨_, fd, F, He.glo_ok X G (c.fact 24 (f := .glo "touch_expression") rfl)⟩
    h_rows_domain_rules := by obtain ⟨fd, F⟩ := c.def_ 25 (d := d_rows_domain_rules) rfl; exact ⟨_, fd, F, He.glo_ok X G (c.fact 25 (f := .glo "rows_domain_rules") rfl)⟩
    h_domain_rules := by obtain ⟨fd, F⟩ := c.def_ 26 (d := d_domain_rules) rfl; exact ⟨_, fd, F, He.glo_ok X G (c.fact 26 (f := .glo "domain_rules") rfl)⟩
    h_share_expressions := by obtain ⟨fd, F⟩ := c.def_ 27 (d := d_share_expressions) rfl; exact ⟨_, fd, F, He.glo_ok X G (c.fact 27 (f := .glo "share_expressions") rfl)⟩
    h_sum_roots := by obtain ⟨fd, F⟩ := c.def_ 28 (d := d_sum_roots) rfl; exact ⟨_, fd, F, He.glo_ok X G (c.fact 28 (f := .glo "sum_roots") rfl)⟩
    h_greatest_sum_count := by obtain ⟨fd, F⟩ := c.def_ 29 (d := d_greatest_sum_count) rfl; exact ⟨_, fd, F, He.glo_ok X G (c.fact 29 (f := .glo "greatest_sum_count") rfl)⟩
    h_book_names := by obtain ⟨fd, F⟩ := c.def_ 30 (d := d_book_names) rfl; exact ⟨_, fd, F, He.glo_ok X G (c.fact 30 (f := .glo "book_names") rfl)⟩
    h_book_many := by obtain ⟨fd, F⟩ := c.def_ 31 (d := d_book_many) rfl; exact ⟨_, fd, F, He.glo_ok X G (c.fact 31 (f := .glo "book_many") rfl)⟩
    h_book_rows := by obtain ⟨fd, F⟩ := c.def_ 32 (d := d_book_rows) rfl; exact ⟨_, fd, F, He.glo_ok X G (c.fact 32 (f := .glo "book_rows") rfl)⟩
    h_domain_message_size := by obtain ⟨fd, F⟩ := c.def_ 33 (d := d_domain_message_size) rfl; exact ⟨_, fd, F, He.glo_ok X G (c.fact 33 (f := .glo "domain_message_size") rfl)⟩
    h_book_reads := by obtain ⟨fd, F⟩ := c.def_ 34 (d := d_book_reads) rfl; exact ⟨_, fd, F, He.glo_ok X G (c.fact 34 (f := .glo "book_reads") rfl)⟩
    h_domain_reads := by obtain ⟨fd, F⟩ := c.def_ 35 (d := d_domain_reads) rfl; exact ⟨_, fd, F, He.glo_ok X G (c.fact 35 (f := .glo "domain_reads") rfl)⟩
    h_talk_reads := by obtain ⟨fd, F⟩ := c.def_ 36 (d := d_talk_reads) rfl; exact ⟨_, fd, F, He.glo_ok X G (c.fact 36 (f := .glo "talk_reads") rfl)⟩
    h_run_numbers := by obtain ⟨fd, F⟩ := c.def_ 37 (d := d_run_numbers) rfl; exact ⟨_, fd, F, He.glo_ok X G (c.fact 37 (f := .glo "run_numbers") rfl)⟩
    h_talk_parts := by obtain ⟨fd, F⟩ := c.def_ 38 (d := d_talk_parts) rfl; exact ⟨_, fd, F, He.glo_ok X G (c.fact 38 (f := .glo "talk_parts") rfl)⟩
    h_lowest_share := by obtain ⟨fd, F⟩ := c.def_ 39 (d := d_lowest_share) rfl; exact ⟨_, fd, F, He.glo_ok X G (c.fact 39 (f := .glo "lowest_share") rfl)⟩
    h_shares_added := by obtain ⟨fd, F⟩ := c.def_ 40 (d := d_shares_added) rfl; exact ⟨_, fd, F, He.glo_ok X G (c.fact 40 (f := .glo "shares_added") rfl)⟩
    h_lot_many := by obtain ⟨fd, F⟩ := c.def_ 41 (d := d_lot_many) rfl; exact ⟨_, fd, F, He.glo_ok X G (c.fact 41 (f := .glo "lot_many") rfl)⟩
    h_lot_share := by obtain ⟨fd, F⟩ := c.def_ 42 (d := d_lot_share) rfl; exact ⟨_, fd, F, He.glo_ok X G (c.fact 42 (f := .glo "lot_share") rfl)⟩
    h_belief_parts := by obtain ⟨fd, F⟩ := c.def_ 43 (d := d_belief_parts) rfl; exact ⟨_, fd, F, He.glo_ok X G (c.fact 43 (f := .glo "belief_parts") rfl)⟩
    h_belief_share := by obtain ⟨fd, F⟩ := c.def_ 44 (d := d_belief_share) rfl; exact ⟨_, fd, F, He.glo_ok X G (c.fact 44 (f := .glo "belief_share") rfl)⟩
    h__law_state := by obtain ⟨fd, F⟩ := c.def_ 45 (d := d__law_state) rfl; exact ⟨_, fd, F, He.glo_ok X G (c.fact 45 (f := .glo "_law_state") rfl)⟩
    h__law_draw := by obtain ⟨fd, F⟩ := c.def_ 46 (d := d__law_draw) rfl; exact ⟨_, fd, F, He.glo_ok X G (c.fact 46 (f := .glo "_law_draw") rfl)⟩
    h__law_same := by obtain ⟨fd, F⟩ := c.def_ 47 (d := d__law_same) rfl; exact ⟨_, fd, F, He.glo_ok X G (c.fact 47 (f := .glo "_law_same") rfl)⟩
    h__law_power := by obtain ⟨fd, F⟩ := c.def_ 48 (d := d__law_power) rfl; exact ⟨_, fd, F, He.glo_ok X G (c.fact 48 (f := .glo "_law_power") rfl)⟩
    h__law_domains := by obtain ⟨fd, F⟩ := c.def_ 49 (d := d__law_domains) rfl; exact ⟨_, fd, F, He.glo_ok X G (c.fact 49 (f := .glo "_law_domains") rfl)⟩
    h__law_size := by obtain ⟨fd, F⟩ := c.def_ 50 (d := d__law_size) rfl; exact ⟨_, fd, F, He.glo_ok X G (c.fact 50 (f := .glo "_law_size") rfl)⟩
    h__law_spots := by obtain ⟨fd, F⟩ := c.def_ 51 (d := d__law_spots) rfl; exact ⟨_, fd, F, He.glo_ok X G (c.fact 51 (f := .glo "_law_spots") rfl)⟩
  }
theorem law_facts {P : Program} {w : World} {K : PySem.W.Frag} {h : Heap} {mg : Str → Option Value} {f : Addr} (X : K.In h) (G : h.Ns mainGlobals mg) (hfa : mg ("law" : Str) = some (.ref f)) (c : He.SaysT fa fn tbs w K) (m : exB K = true) :
    ∃ fd : FuncData, (∀ (s : Shared) (v : Value), BindsTo s fd ⟨[v], []⟩ [("script", v)]) ∧ ∀ base : Heap, K.In base → base.Ns mainGlobals mg → FnOk P w K mg base CX0 106 f fd ["script"] (liftSp (K, w) sp_law) := by
  obtain ⟨fd, F⟩ := c.d.def_ 52 (d := d_law) rfl
  have e := hfa.symm.trans (He.glo_ok X G (c.d.fact 52 (f := .glo "law") rfl))
  cases e
  have b := FunD.bindsA (ps := ["script"]) F fun _ _ _ _ _ _ us hl => match us, hl with | [_], _ => rfl
  exact ⟨fd, fun s v => b s [v] rfl, fun base _ _ => law_ok (mg_ok X G c m) (hs_ok (w := w) X G c.d) F⟩
theorem scr_of {K : PySem.W.Frag} {w : World} {H : Hp} {a : Addr} {ns : List Int} (ho : Only H) (h : SqL K H a (ns.map V.int)) : SqF K H a (ns.map V.int) := by
  rcases h with (h | h) | h
  · rcases ho a with z | ⟨o, xs, z⟩ <;> (rw [h] at z; cases z)
  · exact .inl h
  · exact .inr h
theorem sp_of {K : PySem.W.Frag} {w : World} {H : Hp} {a : Addr} {ns : List Int} (hz : ns.length ≤ 63) (ho : Only H) (h : SqL K H a (ns.map V.int)) : liftSp (K, w) sp_law [.ref a] H (fun v _ => v = .bl true) fun _ _ _ => False := by
  refine ⟨[.rl (ns.map D.int)], fun _ => none, fun d _ => d = .bl true, ?_, fun a o e => (by cases e), ?_, ?_⟩
  · exact DRs.cons (DR.rl (scr_of (w := w) ho h) (DRs.of_ints ns)) DRs.nil
  · exact ⟨_, ns, rfl, .inl rfl, by omega, fun _ => rfl⟩
  · rintro d S' v H' r s p rfl
    exact r.bl_of
end K83
open PySem PySem.W PySem.Calls PyProof.Rows
theorem PySem.Challenge.cw_readslittle_k83_whole_parts_of_what_is_b_holds : PySem.Challenge.rw_readslittle_k83_whole_parts_of_what_is_b.Holds := by
  w_on; o_law
  refine HandSHeadRun.head_any (r := OpenLaw.row PySem.Challenge.rw_readslittle_k83_whole_parts_of_what_is_b) (q := view (OpenLaw.row PySem.Challenge.rw_readslittle_k83_whole_parts_of_what_is_b).prog [78]) (H := K83.hk) (ob := K83.ob) (M := 8000) (loose := K83.names) (d := HandSHeadRun.topDef (OpenLaw.row PySem.Challenge.rw_readslittle_k83_whole_parts_of_what_is_b).prog 78) (kwd := []) K83.ob_eq
    (by kernel_rfl) (fun s => by kernel_rfl) K83.run (by kernel_rfl) (by kernel_rfl) (by kernel_rfl) (by rfl) (by first | assumption | decide +kernel) (by decide +kernel) ⟨rfl, rfl, rfl, rfl, rfl, by decide +kernel⟩ ?hw ?hc
  case hw => w_witness2
  case hc =>
    refine L2.walk_ofE (l := PySem.Challenge.rw_readslittle_k83_whole_parts_of_what_is_b) (n := 63) (k := 106) (x := "script") (CX := L2.CX0) rfl (by decide) (by kernel_rfl) ⟨rfl, by decide, by decide⟩ ?F (fun _ _ _ _ z => z)
    intro w mg fa h Y G hmg0
    obtain ⟨K, KX, c⟩ := Y
    have hmg : mg ("law" : PySem.Str) = some (.ref fa) := by
      have e : (HandSHeadRun.topDef (OpenLaw.row PySem.Challenge.rw_readslittle_k83_whole_parts_of_what_is_b).prog 78).name = ("law" : PySem.Str) := by kernel_rfl
      rw [← e]
      exact hmg0
    obtain ⟨fd, hb, hF⟩ := K83.law_facts (P := (PySem.Challenge.rw_readslittle_k83_whole_parts_of_what_is_b).prog) (w := w) KX G hmg c.t c.more
    exact ⟨K, fd, _, KX, hb, fun H a ns hl ho hS => K83.sp_of hl ho hS, hF⟩
