import PyProof.Rows.All
import Wide.All
import OpenK.AllK
import Wide.FinOn
import HandS.ForMost
import HandS.Exc
import HandS.ExcOwn
import HandS.WordsExc
import HandS.TryOnly
import HandS.Conv
import HandS.SortInts
import HandS.TupAny
import HandS.Walk
import HandS.Zip
import HandS.Deep
import PyProof.StrBlock2
import HandS.Gcd
import HandS.Text
import HandS.IsInst
import KE.GoesZip
import KE.GoesMore
import HandS.More
import HandS.HeadHook2
import HandS.HeadEnd
import HandS.Head1
import HandS.Defaults
import KE.KStateDown
import HandS.Head0
import HandS.Head2
import HandS.HeadHook1
import HandS.HeadHook3
import HandS.HeadHook4
import PySem.Challenge.RW_matedsquares_k57_words_of_a_session
set_option Elab.async false
set_option linter.all false
set_option maxRecDepth 100000
set_option maxHeartbeats 0
/-! MiA: data, what stands for data in the abstract heap, owned and shared parts, the state of a frame. -/
namespace Mi
open PySem L2

/-! ### data -/
inductive D where
  | non
  | bl (b : Bool)
  | int (i : Int)
  | str (s : Str)
  | lst (ds : List D)
  | tup (ds : List D)
  | dK (ks : List Key) (ds : List D)
  | dT (ks : List (List Key)) (ds : List D)

/-- an exception: its class, the field it carries -/
structure Xc where
  cls : Str
  arg : Option (Str × D) := none

/-- the answer of a mirror -/
inductive R (α : Type) where
  | ok (a : α)
  | ex (x : Xc)
  | stuck

def R.bind {α β : Type} (r : R α) (f : α → R β) : R β := match r with
  | .ok a => f a
  | .ex x => .ex x
  | .stuck => .stuck
@[simp] theorem R.bind_ok {α β : Type} (a : α) (f : α → R β) : (R.ok a).bind f = f a := rfl
@[simp] theorem R.bind_ex {α β : Type} (x : Xc) (f : α → R β) : (R.ex x : R α).bind f = .ex x := rfl
@[simp] theorem R.bind_stuck {α β : Type} (f : α → R β) : (R.stuck : R α).bind f = .stuck := rfl
theorem R.bind_eq_ok {α β : Type} {r : R α} {f : α → R β} {b : β} (h : r.bind f = .ok b) : ∃ a, r = .ok a ∧ f a = .ok b := by
  cases r with
  | ok a => exact ⟨a, rfl, h⟩
  | ex x => cases h
  | stuck => cases h

abbrev Rho := List (Option D)
abbrev ME := Rho → R D
abbrev MT := Rho → R Bool
abbrev MA := Rho → R (List D)

/-! ### what stands for data -/
section
variable (F : Hp)
mutual
def RepD : D → V → Prop
  | .non, v => v = .non
  | .bl b, v => v = .bl b
  | .int i, v => v = .int i
  | .str s, v => v = .str s
  | .lst ds, v => ∃ a vs, v = .ref a ∧ F a = some (.lst vs) ∧ RepL ds vs
  | .tup ds, v => ∃ a vs, v = .ref a ∧ F a = some (.tup vs) ∧ RepL ds vs
  | .dK ks ds, v => ∃ a kvs, v = .ref a ∧ F a = some (.dK kvs) ∧ kvs.map (·.1) = ks ∧ RepL ds (kvs.map (·.2))
  | .dT ks ds, v => ∃ a kvs, v = .ref a ∧ F a = some (.dT kvs) ∧ kvs.map (·.1) = ks ∧ RepL ds (kvs.map (·.2))
def RepL : List D → List V → Prop
  | [], vs => vs = []
  | d :: ds, vs => ∃ v r, vs = v :: r ∧ RepD d v ∧ RepL ds r
end
end
section
variable {K : PySem.W.Frag} {F F' : Hp}
theorem SqT.up {a : Addr} {xs : List V} (h : ∀ a o, F a = some o → F' a = some o) (s : SqT K F a xs) : SqT K F' a xs := by
  rcases s with (s | ⟨o, s⟩) | s
  · exact .inl (.inl (h _ _ s))
  · exact .inl (.inr ⟨o, h _ _ s⟩)
  · exact .inr s
mutual
theorem RepD.up (h : ∀ a o, F a = some o → F' a = some o) : ∀ (d : D) (v : V), RepD F d v → RepD F' d v
  | .non, _, r => r
  | .bl _, _, r => r
  | .int _, _, r => r
  | .str _, _, r => r
  | .lst ds, _, ⟨a, vs, e, s, l⟩ => ⟨a, vs, e, h _ _ s, RepL.up h ds vs l⟩
  | .tup ds, _, ⟨a, vs, e, s, l⟩ => ⟨a, vs, e, h _ _ s, RepL.up h ds vs l⟩
  | .dK ks ds, _, ⟨a, kvs, e, s, k, l⟩ => ⟨a, kvs, e, h _ _ s, k, RepL.up h ds _ l⟩
  | .dT ks ds, _, ⟨a, kvs, e, s, k, l⟩ => ⟨a, kvs, e, h _ _ s, k, RepL.up h ds _ l⟩
theorem RepL.up (h : ∀ a o, F a = some o → F' a = some o) : ∀ (ds : List D) (vs : List V), RepL F ds vs → RepL F' ds vs
  | [], _, r => r
  | d :: ds, _, ⟨v, r, e, h1, h2⟩ => ⟨v, r, e, RepD.up h d v h1, RepL.up h ds r h2⟩
end
theorem RepL.len : ∀ (ds : List D) (vs : List V), RepL F ds vs → vs.length = ds.length
  | [], _, r => by rw [show _ = [] from r]; rfl
  | d :: ds, _, ⟨v, r, e, h1, h2⟩ => by rw [e, List.length_cons, List.length_cons, RepL.len ds r h2]
theorem RepL.get : ∀ {ds : List D} {vs : List V} {i : Nat} {d : D}, RepL F ds vs → ds[i]? = some d → ∃ v, vs[i]? = some v ∧ RepD F d v
  | [], _, _, _, _, e => by simp at e
  | d :: ds, _, 0, _, ⟨v, r, e, h1, h2⟩, g => by
    simp at g
    subst g
    exact ⟨v, by rw [e]; rfl, h1⟩
  | d :: ds, _, i + 1, _, ⟨v, r, e, h1, h2⟩, g => by
    obtain ⟨w, q1, q2⟩ := RepL.get (i := i) h2 (by simpa using g)
    exact ⟨w, by rw [e]; simpa using q1, q2⟩
theorem RepL.at : ∀ {ds : List D} {vs : List V} {i : Nat} {v : V}, RepL F ds vs → vs[i]? = some v → ∃ d, ds[i]? = some d ∧ RepD F d v
  | [], _, _, _, r, e => by rw [show _ = [] from r] at e; simp at e
  | d :: ds, _, 0, _, ⟨v, r, e, h1, h2⟩, g => by
    rw [e] at g
    simp at g
    subst g
    exact ⟨d, rfl, h1⟩
  | d :: ds, _, i + 1, _, ⟨v, r, e, h1, h2⟩, g => by
    rw [e] at g
    obtain ⟨w, q1, q2⟩ := RepL.at (i := i) h2 (by simpa using g)
    exact ⟨w, by simpa using q1, q2⟩
theorem RepL.nil : RepL F [] [] := rfl
theorem RepL.cons {d : D} {v : V} {ds : List D} {vs : List V} (h : RepD F d v) (t : RepL F ds vs) : RepL F (d :: ds) (v :: vs) := ⟨v, vs, rfl, h, t⟩
theorem RepL.append : ∀ {ds es : List D} {vs ws : List V}, RepL F ds vs → RepL F es ws → RepL F (ds ++ es) (vs ++ ws)
  | [], _, _, _, r, t => by rw [show _ = [] from r]; exact t
  | d :: ds, _, _, _, ⟨v, r, e, h1, h2⟩, t => by rw [e]; exact ⟨v, _, rfl, h1, RepL.append h2 t⟩
theorem RepL.take : ∀ {ds : List D} {vs : List V} (n : Nat), RepL F ds vs → RepL F (ds.take n) (vs.take n)
  | _, _, 0, _ => rfl
  | [], _, n + 1, r => by rw [show _ = [] from r]; rfl
  | d :: ds, _, n + 1, ⟨v, r, e, h1, h2⟩ => by rw [e]; exact ⟨v, _, rfl, h1, RepL.take n h2⟩
theorem RepL.drop : ∀ {ds : List D} {vs : List V} (n : Nat), RepL F ds vs → RepL F (ds.drop n) (vs.drop n)
  | _, _, 0, r => r
  | [], _, n + 1, r => by rw [show _ = [] from r]; rfl
  | d :: ds, _, n + 1, ⟨v, r, e, h1, h2⟩ => by rw [e]; exact RepL.drop n h2
theorem RepL.set {d : D} {v : V} (h : RepD F d v) : ∀ {ds : List D} {vs : List V} (i : Nat), RepL F ds vs → RepL F (ds.set i d) (vs.set i v)
  | [], _, _, r => by rw [show _ = [] from r]; rfl
  | e :: ds, _, 0, ⟨w, r, eq, h1, h2⟩ => by rw [eq]; exact ⟨v, r, rfl, h, h2⟩
  | e :: ds, _, i + 1, ⟨w, r, eq, h1, h2⟩ => by rw [eq]; exact ⟨w, _, rfl, h1, RepL.set h i h2⟩
theorem RepL.reverse : ∀ {ds : List D} {vs : List V}, RepL F ds vs → RepL F ds.reverse vs.reverse
  | [], _, r => by rw [show _ = [] from r]; rfl
  | d :: ds, _, ⟨v, r, e, h1, h2⟩ => by
    rw [e, List.reverse_cons, List.reverse_cons]
    exact (RepL.reverse h2).append ⟨v, [], rfl, h1, rfl⟩
theorem RepL.ints : ∀ {ns : List Int} {vs : List V}, RepL F (ns.map D.int) vs → vs = ns.map V.int
  | [], _, r => r
  | n :: ns, _, ⟨v, r, e, h1, h2⟩ => by rw [e, show v = .int n from h1, RepL.ints h2]; rfl
theorem RepL.of_ints : ∀ (ns : List Int), RepL F (ns.map D.int) (ns.map V.int)
  | [] => rfl
  | n :: ns => ⟨_, _, rfl, rfl, RepL.of_ints ns⟩
theorem RepL.strs : ∀ {ns : List Str} {vs : List V}, RepL F (ns.map D.str) vs → vs = ns.map V.str
  | [], _, r => r
  | n :: ns, _, ⟨v, r, e, h1, h2⟩ => by rw [e, show v = .str n from h1, RepL.strs h2]; rfl
theorem RepL.of_strs : ∀ (ns : List Str), RepL F (ns.map D.str) (ns.map V.str)
  | [] => rfl
  | n :: ns => ⟨_, _, rfl, rfl, RepL.of_strs ns⟩
theorem RepL.bls : ∀ {ns : List Bool} {vs : List V}, RepL F (ns.map D.bl) vs → vs = ns.map V.bl
  | [], _, r => r
  | n :: ns, _, ⟨v, r, e, h1, h2⟩ => by rw [e, show v = .bl n from h1, RepL.bls h2]; rfl
end

/-! ### owned and shared -/
inductive Mk where
  | sh
  | ow (m : Mk)
abbrev Cn := Addr → Nat
def one (a : Addr) : Cn := fun b => if b = a then 1 else 0
/-- a list of values each standing by Rr for a datum -/
def RepU (Rr : D → V → Cn → Prop) : List D → List V → Cn → Prop
  | [], vs, c => vs = [] ∧ ∀ a, c a = 0
  | d :: ds, vs, c => ∃ v r c1 c2, vs = v :: r ∧ Rr d v c1 ∧ RepU Rr ds r c2 ∧ ∀ a, c a = c1 a + c2 a
def RepM (F H : Hp) : Mk → D → V → Cn → Prop
  | .sh, d, v, c => RepD F d v ∧ ∀ a, c a = 0
  | .ow m, d, v, c => ∃ a c', v = .ref a ∧ F a = none ∧ (∀ b, c b = one a b + c' b) ∧
      ((∃ ds vs, d = .lst ds ∧ H a = some (.lst vs) ∧ RepU (RepM F H m) ds vs c') ∨
       (∃ ds vs, d = .tup ds ∧ H a = some (.tup vs) ∧ RepU (RepM F H m) ds vs c') ∨
       (∃ ks ds kvs, d = .dK ks ds ∧ H a = some (.dK kvs) ∧ kvs.map (·.1) = ks ∧ RepU (RepM F H m) ds (kvs.map (·.2)) c') ∨
       (∃ ks ds kvs, d = .dT ks ds ∧ H a = some (.dT kvs) ∧ kvs.map (·.1) = ks ∧ RepU (RepM F H m) ds (kvs.map (·.2)) c'))
section
variable {K : PySem.W.Frag} {F F' H H' : Hp}
theorem RepU.mono {Rr Rs : D → V → Cn → Prop} : ∀ {ds : List D} {vs : List V} {c : Cn}, RepU Rr ds vs c → (∀ d v c1, (∀ a, c1 a ≤ c a) → Rr d v c1 → Rs d v c1) → RepU Rs ds vs c
  | [], _, _, h, _ => h
  | d :: ds, _, c, ⟨v, r, c1, c2, e, h1, h2, h3⟩, k =>
    ⟨v, r, c1, c2, e, k d v c1 (fun a => by rw [h3]; omega) h1, RepU.mono h2 (fun d' v' c' hc => k d' v' c' fun a => by rw [h3]; exact Nat.le_trans (hc a) (Nat.le_add_left _ _)), h3⟩
theorem RepM.stay : ∀ {m : Mk} {d : D} {v : V} {c : Cn}, RepM F H m d v c → (∀ a o, F a = some o → F' a = some o) → (∀ a, 0 < c a → H' a = H a ∧ F' a = none) → RepM F' H' m d v c
  | .sh, _, _, _, ⟨h1, h2⟩, hf, _ => ⟨RepD.up hf _ _ h1, h2⟩
  | .ow m, d, v, c, ⟨a, c', e, fa, hc, q⟩, hf, hk => by
    have ha : 0 < c a := by rw [hc]; unfold one; rw [if_pos rfl]; omega
    obtain ⟨k1, k2⟩ := hk a ha
    have hk' : ∀ c1 : Cn, (∀ b, c1 b ≤ c' b) → ∀ b, 0 < c1 b → H' b = H b ∧ F' b = none := fun c1 hle b hb => hk b (by rw [hc]; have := hle b; omega)
    refine ⟨a, c', e, k2, hc, ?_⟩
    rcases q with ⟨ds, vs, e1, e2, u⟩ | ⟨ds, vs, e1, e2, u⟩ | ⟨ks, ds, kvs, e1, e2, e3, u⟩ | ⟨ks, ds, kvs, e1, e2, e3, u⟩
    · exact .inl ⟨ds, vs, e1, k1.trans e2, u.mono fun d v c1 hle h => RepM.stay h hf (hk' c1 hle)⟩
    · exact .inr (.inl ⟨ds, vs, e1, k1.trans e2, u.mono fun d v c1 hle h => RepM.stay h hf (hk' c1 hle)⟩)
    · exact .inr (.inr (.inl ⟨ks, ds, kvs, e1, k1.trans e2, e3, u.mono fun d v c1 hle h => RepM.stay h hf (hk' c1 hle)⟩))
    · exact .inr (.inr (.inr ⟨ks, ds, kvs, e1, k1.trans e2, e3, u.mono fun d v c1 hle h => RepM.stay h hf (hk' c1 hle)⟩))
theorem RepU.has {Rr : D → V → Cn → Prop} {P : Addr → Prop} : ∀ {ds : List D} {vs : List V} {c : Cn}, RepU Rr ds vs c → (∀ d v c1, Rr d v c1 → ∀ a, 0 < c1 a → P a) → ∀ a, 0 < c a → P a
  | [], _, _, ⟨_, h⟩, _, a, ha => by rw [h] at ha; exact absurd ha (by decide)
  | d :: ds, _, c, ⟨v, r, c1, c2, e, h1, h2, h3⟩, k, a, ha => by
    rw [h3] at ha
    by_cases q : 0 < c1 a
    · exact k d v c1 h1 a q
    · exact RepU.has h2 k a (by omega)
/-- what is owned stands in the heap and is not shared -/
theorem RepM.has : ∀ {m : Mk} {d : D} {v : V} {c : Cn}, RepM F H m d v c → ∀ a, 0 < c a → H a ≠ none ∧ F a = none
  | .sh, _, _, _, ⟨_, h⟩, a, ha => by rw [h] at ha; exact absurd ha (by decide)
  | .ow m, d, v, c, ⟨a, c', e, fa, hc, q⟩, b, hb => by
    rw [hc] at hb
    by_cases hba : b = a
    · subst hba
      refine ⟨?_, fa⟩
      rcases q with ⟨ds, vs, e1, e2, u⟩ | ⟨ds, vs, e1, e2, u⟩ | ⟨ks, ds, kvs, e1, e2, e3, u⟩ | ⟨ks, ds, kvs, e1, e2, e3, u⟩ <;> (rw [e2]; exact fun z => nomatch z)
    · have h2 : 0 < c' b := by unfold one at hb; rw [if_neg hba] at hb; omega
      rcases q with ⟨ds, vs, e1, e2, u⟩ | ⟨ds, vs, e1, e2, u⟩ | ⟨ks, ds, kvs, e1, e2, e3, u⟩ | ⟨ks, ds, kvs, e1, e2, e3, u⟩ <;> exact u.has (fun d v c1 h => RepM.has h) b h2
theorem RepU.toL {Rr : D → V → Cn → Prop} {G : Hp} : ∀ {ds : List D} {vs : List V} {c : Cn}, RepU Rr ds vs c → (∀ d v c1, Rr d v c1 → RepD G d v) → RepL G ds vs
  | [], _, _, ⟨h, _⟩, _ => h
  | d :: ds, _, c, ⟨v, r, c1, c2, e, h1, h2, h3⟩, k => ⟨v, r, e, k d v c1 h1, RepU.toL h2 k⟩
/-- all of it read in the whole heap -/
theorem RepM.toD (hs : ∀ a o, F a = some o → H a = some o) : ∀ {m : Mk} {d : D} {v : V} {c : Cn}, RepM F H m d v c → RepD H d v
  | .sh, _, _, _, ⟨h, _⟩ => RepD.up hs _ _ h
  | .ow m, d, v, c, ⟨a, c', e, fa, hc, q⟩ => by
    rcases q with ⟨ds, vs, e1, e2, u⟩ | ⟨ds, vs, e1, e2, u⟩ | ⟨ks, ds, kvs, e1, e2, e3, u⟩ | ⟨ks, ds, kvs, e1, e2, e3, u⟩
    · subst e1; exact ⟨a, vs, e, e2, u.toL fun d v c1 h => RepM.toD hs h⟩
    · subst e1; exact ⟨a, vs, e, e2, u.toL fun d v c1 h => RepM.toD hs h⟩
    · subst e1; exact ⟨a, kvs, e, e2, e3, u.toL fun d v c1 h => RepM.toD hs h⟩
    · subst e1; exact ⟨a, kvs, e, e2, e3, u.toL fun d v c1 h => RepM.toD hs h⟩
/-- sharing what was owned: the shared heap takes over the owned addresses -/
def freeze (F H : Hp) (c : Cn) : Hp := fun a => if 0 < c a then H a else F a
theorem RepM.freeze {m : Mk} {d : D} {v : V} {c : Cn} (hs : ∀ a o, F a = some o → H a = some o) (h : RepM F H m d v c) : RepD (freeze F H c) d v := by
  have key : ∀ {m : Mk} {d : D} {v : V} {c1 : Cn}, RepM F H m d v c1 → (∀ a, c1 a ≤ c a) → RepD (Mi.freeze F H c) d v := by
    have hext : ∀ a o, F a = some o → Mi.freeze F H c a = some o := fun a o e => by
      unfold Mi.freeze
      by_cases q : 0 < c a
      · rw [if_pos q]; exact hs a o e
      · rw [if_neg q]; exact e
    have hat : ∀ {a : Addr} {o : HO}, 0 < c a → H a = some o → Mi.freeze F H c a = some o := fun {a o} q e => by unfold Mi.freeze; rw [if_pos q]; exact e
    intro m
    induction m with
    | sh => intro d v c1 h _; exact RepD.up hext _ _ h.1
    | ow m ih =>
      intro d v c1 ⟨a, c', e, fa, hc, q⟩ hle
      have ha : 0 < c a := by have := hle a; rw [hc] at this; unfold one at this; simp at this; omega
      have hle' : ∀ b, c' b ≤ c b := fun b => by have := hle b; rw [hc] at this; omega
      have lift : ∀ {ds : List D} {vs : List V} {c2 : Cn}, RepU (RepM F H m) ds vs c2 → (∀ b, c2 b ≤ c b) → RepL (Mi.freeze F H c) ds vs := by
        intro ds
        induction ds with
        | nil => intro vs c2 h _; exact h.1
        | cons d ds ihl =>
          intro vs c2 ⟨v, r, k1, k2, e, h1, h2, h3⟩ hle2
          exact ⟨v, r, e, ih h1 (fun b => by have := hle2 b; rw [h3] at this; omega), ihl h2 fun b => by have := hle2 b; rw [h3] at this; omega⟩
      rcases q with ⟨ds, vs, e1, e2, u⟩ | ⟨ds, vs, e1, e2, u⟩ | ⟨ks, ds, kvs, e1, e2, e3, u⟩ | ⟨ks, ds, kvs, e1, e2, e3, u⟩
      · subst e1; exact ⟨a, vs, e, hat ha e2, lift u hle'⟩
      · subst e1; exact ⟨a, vs, e, hat ha e2, lift u hle'⟩
      · subst e1; exact ⟨a, kvs, e, hat ha e2, e3, lift u hle'⟩
      · subst e1; exact ⟨a, kvs, e, hat ha e2, e3, lift u hle'⟩
  exact key h fun _ => Nat.le_refl _

/-! ### the frame's state -/
def RepE (F H : Hp) : List Mk → Rho → St → Cn → Prop
  | [], ρ, σ, c => ρ = [] ∧ σ = [] ∧ ∀ a, c a = 0
  | m :: μ, ρ, σ, c => ∃ o ρ' x σ' c1 c2, ρ = o :: ρ' ∧ σ = x :: σ' ∧ (match o with
      | none => ∀ a, c1 a = 0
      | some d => ∃ v, x = some v ∧ RepM F H m d v c1) ∧ RepE F H μ ρ' σ' c2 ∧ ∀ a, c a = c1 a + c2 a
theorem RepE.len : ∀ {μ : List Mk} {ρ : Rho} {σ : St} {c : Cn}, RepE F H μ ρ σ c → ρ.length = μ.length ∧ σ.length = μ.length
  | [], _, _, _, ⟨h1, h2, _⟩ => by rw [h1, h2]; exact ⟨rfl, rfl⟩
  | m :: μ, _, _, _, ⟨o, ρ', x, σ', c1, c2, e1, e2, h1, h2, h3⟩ => by
    obtain ⟨a, b⟩ := RepE.len h2
    rw [e1, e2, List.length_cons, List.length_cons, List.length_cons, a, b]
    exact ⟨rfl, rfl⟩
theorem RepE.stay : ∀ {μ : List Mk} {ρ : Rho} {σ : St} {c : Cn}, RepE F H μ ρ σ c → (∀ a o, F a = some o → F' a = some o) → (∀ a, 0 < c a → H' a = H a ∧ F' a = none) → RepE F' H' μ ρ σ c
  | [], _, _, _, h, _, _ => h
  | m :: μ, _, _, c, ⟨o, ρ', x, σ', c1, c2, e1, e2, h1, h2, h3⟩, hf, hk => by
    refine ⟨o, ρ', x, σ', c1, c2, e1, e2, ?_, RepE.stay h2 hf fun a ha => hk a (by rw [h3]; omega), h3⟩
    cases o with
    | none => exact h1
    | some d =>
      obtain ⟨v, ev, hv⟩ := h1
      exact ⟨v, ev, hv.stay hf fun a ha => hk a (by rw [h3]; omega)⟩
theorem RepE.has : ∀ {μ : List Mk} {ρ : Rho} {σ : St} {c : Cn}, RepE F H μ ρ σ c → ∀ a, 0 < c a → H a ≠ none ∧ F a = none
  | [], _, _, _, ⟨_, _, h⟩, a, ha => by rw [h] at ha; exact absurd ha (by decide)
  | m :: μ, _, _, c, ⟨o, ρ', x, σ', c1, c2, e1, e2, h1, h2, h3⟩, a, ha => by
    rw [h3] at ha
    by_cases q : 0 < c1 a
    · cases o with
      | none => rw [show c1 a = 0 from h1 a] at q; exact absurd q (by decide)
      | some d =>
        obtain ⟨v, ev, hv⟩ := h1
        exact hv.has a q
    · exact RepE.has h2 a (by omega)
/-- a slot taken out and put back -/
theorem RepE.slot : ∀ {μ : List Mk} {ρ : Rho} {σ : St} {c : Cn} {i : Nat} {m : Mk} {d : D}, RepE F H μ ρ σ c → μ[i]? = some m → ρ[i]? = some (some d) →
    ∃ (v : V) (c1 c2 : Cn), σ[i]? = some (some v) ∧ RepM F H m d v c1 ∧ (∀ a, c a = c1 a + c2 a) ∧
      ∀ (F' H' : Hp) (m' : Mk) (d' : D) (v' : V) (c' : Cn), RepM F' H' m' d' v' c' → (∀ a o, F a = some o → F' a = some o) → (∀ a, 0 < c2 a → H' a = H a ∧ F' a = none) →
        RepE F' H' (μ.set i m') (ρ.set i (some d')) (σ.set i (some v')) (fun a => c' a + c2 a)
  | [], _, _, _, _, _, _, _, e, _ => by simp at e
  | m :: μ, _, _, c, 0, m0, d, ⟨o, ρ', x, σ', c1, c2, e1, e2, h1, h2, h3⟩, em, ed => by
    rw [e1] at ed
    simp at em ed
    subst em ed
    obtain ⟨v, ev, hv⟩ := h1
    refine ⟨v, c1, c2, by rw [e2, ev]; rfl, hv, h3, fun F' H' m' d' v' c' r hf hk => ?_⟩
    rw [e1, e2]
    exact ⟨some d', ρ', some v', σ', c', c2, rfl, rfl, ⟨v', rfl, r⟩, h2.stay hf hk, fun _ => rfl⟩
  | m :: μ, _, _, c, i + 1, m0, d, ⟨o, ρ', x, σ', c1, c2, e1, e2, h1, h2, h3⟩, em, ed => by
    rw [e1] at ed
    obtain ⟨v, k1, k2, q1, q2, q3, q4⟩ := RepE.slot (i := i) h2 (by simpa using em) (by simpa using ed)
    refine ⟨v, k1, fun a => c1 a + k2 a, by rw [e2]; simpa using q1, q2, fun a => by have e3 := h3 a; have e4 := q3 a; show c a = k1 a + (c1 a + k2 a); omega, fun F' H' m' d' v' c' r hf hk => ?_⟩
    rw [e1, e2]
    refine ⟨o, _, x, _, c1, fun a => c' a + k2 a, rfl, rfl, ?_, q4 F' H' m' d' v' c' r hf fun a (ha : 0 < k2 a) => hk a (show 0 < c1 a + k2 a by omega), fun a => by show c' a + (c1 a + k2 a) = c1 a + (c' a + k2 a); omega⟩
    cases o with
    | none => exact h1
    | some d0 =>
      obtain ⟨v0, ev, hv⟩ := h1
      exact ⟨v0, ev, hv.stay hf fun a (ha : 0 < c1 a) => hk a (show 0 < c1 a + k2 a by omega)⟩
/-- a slot stored anew (what it held is dropped) -/
theorem RepE.put : ∀ {μ : List Mk} {ρ : Rho} {σ : St} {c : Cn} {i : Nat} {m : Mk} {d : D} {v : V} {cv : Cn}, RepE F H μ ρ σ c → i < μ.length → RepM F H m d v cv →
    ∃ c', RepE F H (μ.set i m) (ρ.set i (some d)) (σ.set i (some v)) c' ∧ ∀ a, c' a ≤ c a + cv a
  | [], _, _, _, _, _, _, _, _, _, e, _ => by simp at e
  | m0 :: μ, _, _, c, 0, m, d, v, cv, ⟨o, ρ', x, σ', c1, c2, e1, e2, h1, h2, h3⟩, _, r => by
    rw [e1, e2]
    exact ⟨fun a => cv a + c2 a, ⟨some d, ρ', some v, σ', cv, c2, rfl, rfl, ⟨v, rfl, r⟩, h2, fun _ => rfl⟩, fun a => by rw [h3]; show cv a + c2 a ≤ c1 a + c2 a + cv a; omega⟩
  | m0 :: μ, _, _, c, i + 1, m, d, v, cv, ⟨o, ρ', x, σ', c1, c2, e1, e2, h1, h2, h3⟩, hi, r => by
    rw [e1, e2]
    obtain ⟨c', q1, q2⟩ := RepE.put (i := i) h2 (by simpa using hi) r
    exact ⟨fun a => c1 a + c' a, ⟨o, _, x, _, c1, c', rfl, rfl, h1, q1, fun _ => rfl⟩, fun a => by rw [h3]; have := q2 a; show c1 a + c' a ≤ c1 a + c2 a + cv a; omega⟩
/-- a slot forgotten -/
theorem RepE.drop : ∀ {μ : List Mk} {ρ : Rho} {σ : St} {c : Cn} (i : Nat) (m : Mk) (x : Option V), RepE F H μ ρ σ c →
    ∃ c', RepE F H (μ.set i m) (ρ.set i none) (σ.set i x) c' ∧ ∀ a, c' a ≤ c a
  | [], _, _, c, i, m, x, ⟨h1, h2, h3⟩ => ⟨c, by rw [h1, h2]; exact ⟨rfl, rfl, h3⟩, fun _ => Nat.le_refl _⟩
  | m0 :: μ, _, _, c, 0, m, y, ⟨o, ρ', x, σ', c1, c2, e1, e2, h1, h2, h3⟩ => by
    rw [e1, e2]
    exact ⟨c2, ⟨none, ρ', y, σ', fun _ => 0, c2, rfl, rfl, fun _ => rfl, h2, fun _ => (Nat.zero_add _).symm⟩, fun a => by rw [h3]; omega⟩
  | m0 :: μ, _, _, c, i + 1, m, y, ⟨o, ρ', x, σ', c1, c2, e1, e2, h1, h2, h3⟩ => by
    rw [e1, e2]
    obtain ⟨c', q1, q2⟩ := RepE.drop (μ := μ) (ρ := ρ') (σ := σ') (c := c2) i m y h2
    exact ⟨fun a => c1 a + c' a, ⟨o, _, x, _, c1, c', rfl, rfl, h1, q1, fun _ => rfl⟩, fun a => by rw [h3]; have := q2 a; show c1 a + c' a ≤ c1 a + c2 a; omega⟩

structure Stt (μ : List Mk) (ρ : Rho) (σ : St) (F H : Hp) (c : Cn) : Prop where
  sub : ∀ a o, F a = some o → H a = some o
  env : RepE F H μ ρ σ c
  one : ∀ a, c a ≤ 1

/-- what an expression does to the heaps: all that stood stands; what is newly shared is new -/
structure Ev (F H F' H' : Hp) : Prop where
  ext : ∀ a o, F a = some o → F' a = some o
  sub : ∀ a o, F' a = some o → H' a = some o
  keep : ∀ a o, H a = some o → H' a = some o
  fnew : ∀ a, F' a ≠ none → F a ≠ none ∨ H a = none
theorem Ev.refl (h : ∀ a o, F a = some o → H a = some o) : Ev F H F H := ⟨fun _ _ e => e, h, fun _ _ e => e, fun _ e => .inl e⟩
theorem Ev.trans {F1 H1 F2 H2 : Hp} (a : Ev F H F1 H1) (b : Ev F1 H1 F2 H2) : Ev F H F2 H2 :=
  ⟨fun x o e => b.ext x o (a.ext x o e), b.sub, fun x o e => b.keep x o (a.keep x o e), fun x e => (b.fnew x e).elim (a.fnew x) fun q => .inr (by
    cases h : H x with
    | none => rfl
    | some o => rw [a.keep x o h] at q; cases q)⟩
/-- what is owned is let alone -/
theorem Ev.owned (e : Ev F H F' H') {c : Cn} (h : ∀ a, 0 < c a → H a ≠ none ∧ F a = none) : ∀ a, 0 < c a → H' a = H a ∧ F' a = none := fun a ha => by
  obtain ⟨h1, h2⟩ := h a ha
  refine ⟨?_, ?_⟩
  · cases q : H a with
    | none => exact absurd q h1
    | some o => exact e.keep a o q
  · cases q : F' a with
    | none => rfl
    | some o =>
      rcases e.fnew a (by rw [q]; exact fun z => nomatch z) with z | z
      · exact absurd h2 z
      · exact absurd z h1
theorem RepM.ev {m : Mk} {d : D} {v : V} {c : Cn} (r : RepM F H m d v c) (e : Ev F H F' H') : RepM F' H' m d v c := r.stay e.ext (e.owned r.has)
theorem Stt.ev {μ : List Mk} {ρ : Rho} {σ : St} {c : Cn} (s : Stt μ ρ σ F H c) (e : Ev F H F' H') : Stt μ ρ σ F' H' c := ⟨e.sub, s.env.stay e.ext (e.owned s.env.has), s.one⟩
/-- a new object, at once shared -/
theorem Ev.new {p : Addr} {o : HO} (hs : ∀ a o, F a = some o → H a = some o) (h : H p = none) : Ev F H (upd F p o) (upd H p o) where
  ext := fun a u e => by rw [upd_ne (ne_of_none (hs a u e) h)]; exact e
  sub := fun a u e => by
    by_cases q : a = p
    · subst q; rw [upd_same] at e ⊢; exact e
    · rw [upd_ne q] at e ⊢; exact hs a u e
  keep := fun a u e => by rw [upd_ne (ne_of_none e h)]; exact e
  fnew := fun a e => by
    by_cases q : a = p
    · exact .inr (by rw [q]; exact h)
    · rw [upd_ne q] at e; exact .inl e
/-- a new object, owned -/
theorem Ev.newO {p : Addr} {o : HO} (hs : ∀ a o, F a = some o → H a = some o) (h : H p = none) : Ev F H F (upd H p o) where
  ext := fun _ _ e => e
  sub := fun a u e => by rw [upd_ne (ne_of_none (hs a u e) h)]; exact hs a u e
  keep := fun a u e => by rw [upd_ne (ne_of_none e h)]; exact e
  fnew := fun a e => .inl e

/-- what a statement does: what was not owned stands -/
structure EvS (F H : Hp) (c : Cn) (F' H' : Hp) (c' : Cn) : Prop where
  ext : ∀ a o, F a = some o → F' a = some o
  keep : ∀ a o, H a = some o → c a = 0 → H' a = some o
  fnew : ∀ a, F' a ≠ none → F a ≠ none ∨ H a = none ∨ 0 < c a
  cnew : ∀ a, 0 < c' a → 0 < c a ∨ H a = none
theorem EvS.refl {c : Cn} : EvS F H c F H c := ⟨fun _ _ e => e, fun _ _ e _ => e, fun _ e => .inl e, fun _ e => .inl e⟩
theorem EvS.trans {F1 H1 F2 H2 : Hp} {c c1 c2 : Cn} (a : EvS F H c F1 H1 c1) (b : EvS F1 H1 c1 F2 H2 c2) : EvS F H c F2 H2 c2 where
  ext := fun x o e => b.ext x o (a.ext x o e)
  keep := fun x o e z => b.keep x o (a.keep x o e z) (by
    cases q : c1 x with
    | zero => rfl
    | succ n => rcases a.cnew x (by omega) with h | h
                · omega
                · rw [e] at h; cases h)
  fnew := fun x e => by
    rcases b.fnew x e with h | h | h
    · exact a.fnew x h
    · by_cases q : 0 < c x
      · exact .inr (.inr q)
      · cases hx : H x with
        | none => exact .inr (.inl rfl)
        | some o => rw [a.keep x o hx (by omega)] at h; cases h
    · rcases a.cnew x h with h | h
      · exact .inr (.inr h)
      · exact .inr (.inl h)
  cnew := fun x e => by
    rcases b.cnew x e with h | h
    · exact a.cnew x h
    · by_cases q : 0 < c x
      · exact .inl q
      · cases hx : H x with
        | none => exact .inr rfl
        | some o => rw [a.keep x o hx (by omega)] at h; cases h
theorem Ev.s {c c' : Cn} (e : Ev F H F' H') (hc : ∀ a, 0 < c' a → 0 < c a ∨ H a = none) : EvS F H c F' H' c' :=
  ⟨e.ext, fun a o q _ => e.keep a o q, fun a q => (e.fnew a q).elim .inl fun z => .inr (.inl z), hc⟩
theorem EvS.less {c c' c2 : Cn} (e : EvS F H c F' H' c') (h : ∀ a, c2 a ≤ c' a) : EvS F H c F' H' c2 := ⟨e.ext, e.keep, e.fnew, fun a q => e.cnew a (by have := h a; omega)⟩
/-- nothing owned ahead: as an expression -/
theorem EvS.ev {c' : Cn} (e : EvS F H (fun _ => 0) F' H' c') (hs : ∀ a o, F' a = some o → H' a = some o) : Ev F H F' H' :=
  ⟨e.ext, hs, fun a o q => e.keep a o q rfl, fun a q => (e.fnew a q).elim .inl fun z => z.elim .inr fun y => absurd y (by decide)⟩

/-! ### exceptions -/
def RepX (mg : Str → Option Value) (x : Xc) (cls : Value) (dd : Option Addr) (H : Hp) : Prop :=
  mg x.cls = some cls ∧ match x.arg with
    | none => dd = none
    | some (f, d) => ∃ a v, dd = some a ∧ H a = some (.xd [(f, v)]) ∧ ∀ (F : Hp), RepD F d v
end
end Mi
/-! MiB: expressions: the mirror's values against the readings. -/
namespace Mi
open PySem L2

def l1 (f : D → R D) (a : ME) : ME := fun ρ => (a ρ).bind f
def l2 (f : D → D → R D) (a b : ME) : ME := fun ρ => (a ρ).bind fun x => (b ρ).bind fun y => f x y
def mVar (i : Nat) : ME := fun ρ => match ρ[i]? with
  | some (some d) => .ok d
  | _ => .stuck
def mC (d : D) : ME := fun _ => .ok d
def mNil : MA := fun _ => .ok []
def mCons (e : ME) (r : MA) : MA := fun ρ => (e ρ).bind fun d => (r ρ).bind fun ds => .ok (d :: ds)
/-- a call of a built-in, of a def -/
def mCall (f : List D → R D) (r : MA) : ME := fun ρ => (r ρ).bind f
/-- within a comprehension nothing is let out -/
def noEx {α : Type} (r : R α) : R α := match r with
  | .ex _ => .stuck
  | r => r

section
variable (mg : Str → Option Value) (W : WX) (μ : List Mk)
/-- t answers as e does, with a value of its own (mask m) -/
def SimP (t : TE) (e : ME) (m : Mk) : Prop := ∀ ρ σ F H c, Stt μ ρ σ F H c → ∀ Q : VK,
  (∀ d v F' H' cv, e ρ = .ok d → Ev F H F' H' → RepM F' H' m d v cv → (∀ a, 0 < cv a → H a = none) → (∀ a, cv a ≤ 1) → Q v H') →
  (∀ x cls dd F' H', e ρ = .ex x → Ev F H F' H' → RepX mg x cls dd H' → W cls dd σ H') → e ρ ≠ .stuck → t σ H Q
/-- .. with a value to be read -/
def SimR (t : TE) (e : ME) : Prop := ∀ ρ σ F H c, Stt μ ρ σ F H c → ∀ Q : VK,
  (∀ d v F' H', e ρ = .ok d → Ev F H F' H' → RepD H' d v → Q v H') →
  (∀ x cls dd F' H', e ρ = .ex x → Ev F H F' H' → RepX mg x cls dd H' → W cls dd σ H') → e ρ ≠ .stuck → t σ H Q
def SimT (t : TT) (e : MT) : Prop := ∀ ρ σ F H c, Stt μ ρ σ F H c → ∀ Q : Bool → Hp → Prop,
  (∀ b F' H', e ρ = .ok b → Ev F H F' H' → Q b H') →
  (∀ x cls dd F' H', e ρ = .ex x → Ev F H F' H' → RepX mg x cls dd H' → W cls dd σ H') → e ρ ≠ .stuck → t σ H Q
/-- arguments, shared -/
def SimA (t : TA) (e : MA) : Prop := ∀ ρ σ F H c, Stt μ ρ σ F H c → ∀ Q : List V → Hp → Prop,
  (∀ ds vs F' H', e ρ = .ok ds → Ev F H F' H' → RepL F' ds vs → Q vs H') →
  (∀ x cls dd F' H', e ρ = .ex x → Ev F H F' H' → RepX mg x cls dd H' → W cls dd σ H') → e ρ ≠ .stuck → t σ H Q
/-- arguments, read -/
def SimAR (t : TA) (e : MA) : Prop := ∀ ρ σ F H c, Stt μ ρ σ F H c → ∀ Q : List V → Hp → Prop,
  (∀ ds vs F' H', e ρ = .ok ds → Ev F H F' H' → RepL H' ds vs → Q vs H') →
  (∀ x cls dd F' H', e ρ = .ex x → Ev F H F' H' → RepX mg x cls dd H' → W cls dd σ H') → e ρ ≠ .stuck → t σ H Q
end

section
variable {K : PySem.W.Frag} {mg : Str → Option Value} {W : WX} {μ : List Mk} {ta tb tc te : TE} {ea eb ec e : ME} {m : Mk}
theorem bind_stuck {α β : Type} {r : R α} {f : α → R β} (h : r.bind f ≠ .stuck) : r ≠ .stuck := fun e => h (by rw [e]; rfl)
theorem bind_ex {α β : Type} {r : R α} {f : α → R β} {x : Xc} (h : r = .ex x) : r.bind f = .ex x := by rw [h]; rfl
theorem SimP.toR (h : SimP mg W μ te e m) : SimR mg W μ te e := fun ρ σ F H c st Q q x ns =>
  h ρ σ F H c st Q (fun d v F' H' cv e1 ev r _ _ => q d v F' H' e1 ev (r.toD ev.sub)) x ns
/-- what was one's own may be shared -/
theorem SimP.fr (h : SimP mg W μ te e m) : SimP mg W μ te e .sh := fun ρ σ F H c st Q q x ns =>
  h ρ σ F H c st Q (fun d v F' H' cv e1 ev r new one => by
    have hz : ∀ a o, F' a = some o → freeze F' H' cv a = some o := fun a o f => by
      unfold freeze
      by_cases z : 0 < cv a
      · rw [if_pos z]; exact ev.sub a o f
      · rw [if_neg z]; exact f
    refine q d v (freeze F' H' cv) H' (fun _ => 0) e1 ⟨fun a o f => hz a o (ev.ext a o f), fun a o f => ?_, ev.keep, fun a f => ?_⟩ ⟨r.freeze ev.sub, fun _ => rfl⟩ (fun a z => absurd z (by decide)) fun _ => Nat.zero_le _
    · unfold freeze at f
      by_cases z : 0 < cv a
      · rw [if_pos z] at f; exact f
      · rw [if_neg z] at f; exact ev.sub a o f
    · unfold freeze at f
      by_cases z : 0 < cv a
      · exact .inr (new a z)
      · rw [if_neg z] at f; exact ev.fnew a f) x ns
theorem SimA.toR {t : TA} {r : MA} (h : SimA mg W μ t r) : SimAR mg W μ t r := fun ρ σ F H c st Q q x ns =>
  h ρ σ F H c st Q (fun ds vs F' H' e1 ev r => q ds vs F' H' e1 ev (RepL.up ev.sub _ _ r)) x ns

/-! ### names, constants -/
theorem sim_var {i : Nat} (hm : μ[i]? = some .sh) : SimP mg W μ (tVar i) (mVar i) .sh := fun ρ σ F H c st Q q x ns => by
  cases hr : ρ[i]? with
  | none => exact absurd (show mVar i ρ = .stuck by unfold mVar; rw [hr]) ns
  | some o =>
    cases o with
    | none => exact absurd (show mVar i ρ = .stuck by unfold mVar; rw [hr]) ns
    | some d =>
      obtain ⟨v, c1, c2, s1, r, _, _⟩ := st.env.slot hm hr
      exact ⟨v, s1, q d v F H (fun _ => 0) (by unfold mVar; rw [hr]) (Ev.refl st.sub) ⟨r.1, fun _ => rfl⟩ (fun a z => absurd z (by decide)) fun _ => Nat.zero_le _⟩
theorem simR_var {i : Nat} : SimR mg W μ (tVar i) (mVar i) := fun ρ σ F H c st Q q x ns => by
  cases hr : ρ[i]? with
  | none => exact absurd (show mVar i ρ = .stuck by unfold mVar; rw [hr]) ns
  | some o =>
    cases o with
    | none => exact absurd (show mVar i ρ = .stuck by unfold mVar; rw [hr]) ns
    | some d =>
      have hi : i < μ.length := by rw [← st.env.len.1]; exact (List.getElem?_eq_some_iff.mp hr).1
      obtain ⟨v, c1, c2, s1, r, _, _⟩ := st.env.slot (List.getElem?_eq_getElem hi) hr
      exact ⟨v, s1, q d v F H (by unfold mVar; rw [hr]) (Ev.refl st.sub) (r.toD st.sub)⟩
theorem sim_c {d : D} {v : V} (h : ∀ F, RepD F d v) : SimP mg W μ (tC v) (mC d) .sh := fun ρ σ F H c st Q q x ns =>
  q d v F H (fun _ => 0) rfl (Ev.refl st.sub) ⟨h F, fun _ => rfl⟩ (fun a z => absurd z (by decide)) fun _ => Nat.zero_le _
theorem sim_int {i : Int} : SimP mg W μ (tC (.int i)) (mC (.int i)) .sh := sim_c fun _ => rfl
theorem sim_bl {b : Bool} : SimP mg W μ (tC (.bl b)) (mC (.bl b)) .sh := sim_c fun _ => rfl
theorem sim_str {s : Str} : SimP mg W μ (tC (.str s)) (mC (.str s)) .sh := sim_c fun _ => rfl
theorem sim_non : SimP mg W μ (tC .non) (mC .non) .sh := sim_c fun _ => rfl

/-! ### operators by values -/
/-- a rule of two values against a function of two data: a scalar answer -/
def OpS (r : R2) (f : D → D → R D) : Prop := (∀ a b x, f a b ≠ .ex x) ∧ ∀ a b va vb (H : Hp) (Q : VK) d, RepD H a va → RepD H b vb → f a b = .ok d → (∀ v, (∀ F, RepD F d v) → Q v H) → r va vb H Q
/-- .. an answer that is shared, or new -/
def OpG (r : R2) (f : D → D → R D) : Prop := (∀ a b x, f a b ≠ .ex x) ∧ ∀ a b va vb (F H : Hp) (Q : VK) d, (∀ a o, F a = some o → H a = some o) → RepD F a va → RepD F b vb → f a b = .ok d →
  (∀ v F' H', Ev F H F' H' → RepD F' d v → Q v H') → r va vb H Q
theorem OpS.or1 {r r' : R2} {f f' : D → D → R D} (h : OpS r f) (h' : OpS r' f') (g : D → D → R D) (hg : ∀ a b d, g a b = .ok d → f a b = .ok d ∨ f' a b = .ok d) (gx : ∀ a b x, g a b ≠ .ex x) : OpS (fun x y H Q => r x y H Q ∨ r' x y H Q) g :=
  ⟨gx, fun a b va vb H Q d ra rb e q => (hg a b d e).elim (fun z => .inl (h.2 a b va vb H Q d ra rb z q)) fun z => .inr (h'.2 a b va vb H Q d ra rb z q)⟩
theorem OpS.g {r : R2} {f : D → D → R D} (h : OpS r f) : OpG r f := ⟨h.1, fun a b va vb F H Q d hs ra rb e q => h.2 a b va vb H Q d (RepD.up hs _ _ ra) (RepD.up hs _ _ rb) e fun v r => q v F H (Ev.refl hs) (r F)⟩
theorem OpG.or1 {r r' : R2} {f f' : D → D → R D} (h : OpG r f) (h' : OpG r' f') (g : D → D → R D) (hg : ∀ a b d, g a b = .ok d → f a b = .ok d ∨ f' a b = .ok d) (gx : ∀ a b x, g a b ≠ .ex x) : OpG (fun x y H Q => r x y H Q ∨ r' x y H Q) g :=
  ⟨gx, fun a b va vb F H Q d hs ra rb e q => (hg a b d e).elim (fun z => .inl (h.2 a b va vb F H Q d hs ra rb z q)) fun z => .inr (h'.2 a b va vb F H Q d hs ra rb z q)⟩
theorem sim_op {r : R2} {f : D → D → R D} (h : OpS r f) (ha : SimR mg W μ ta ea) (hb : SimR mg W μ tb eb) : SimP mg W μ (tOp r ta tb) (l2 f ea eb) .sh := fun ρ σ F H c st Q q x ns => by
  have ns1 : ea ρ ≠ .stuck := bind_stuck (f := fun x => (eb ρ).bind fun y => f x y) ns
  refine ha ρ σ F H c st _ (fun d1 v1 F1 H1 e1 ev1 r1 => ?_) (fun y cls dd F' H' e1 ev rx => x y cls dd F' H' (bind_ex e1) ev rx) ns1
  have k1 : l2 f ea eb ρ = (eb ρ).bind fun y => f d1 y := by unfold l2; rw [e1]; rfl
  rw [k1] at ns
  refine hb ρ σ F1 H1 c (st.ev ev1) _ (fun d2 v2 F2 H2 e2 ev2 r2 => ?_) (fun y cls dd F' H' e2 ev rx => x y cls dd F' H' (k1.trans (bind_ex e2)) (ev1.trans ev) rx) (bind_stuck ns)
  have k2 : l2 f ea eb ρ = f d1 d2 := by rw [k1, e2]; rfl
  rw [e2] at ns
  cases hf : f d1 d2 with
  | ok d =>
    refine h.2 d1 d2 v1 v2 H2 Q d (RepD.up ev2.keep _ _ r1) r2 hf fun v r => ?_
    exact q d v F2 H2 (fun _ => 0) (k2.trans hf) (ev1.trans ev2) ⟨r F2, fun _ => rfl⟩ (fun a z => absurd z (by decide)) fun _ => Nat.zero_le _
  | ex y => exact absurd hf (h.1 d1 d2 y)
  | stuck => exact absurd hf ns
theorem sim_opG {r : R2} {f : D → D → R D} (h : OpG r f) (ha : SimP mg W μ ta ea .sh) (hb : SimP mg W μ tb eb .sh) : SimP mg W μ (tOp r ta tb) (l2 f ea eb) .sh := fun ρ σ F H c st Q q x ns => by
  have ns1 : ea ρ ≠ .stuck := bind_stuck (f := fun x => (eb ρ).bind fun y => f x y) ns
  refine ha ρ σ F H c st _ (fun d1 v1 F1 H1 cv1 e1 ev1 r1 _ _ => ?_) (fun y cls dd F' H' e1 ev rx => x y cls dd F' H' (bind_ex e1) ev rx) ns1
  have k1 : l2 f ea eb ρ = (eb ρ).bind fun y => f d1 y := by unfold l2; rw [e1]; rfl
  rw [k1] at ns
  refine hb ρ σ F1 H1 c (st.ev ev1) _ (fun d2 v2 F2 H2 cv2 e2 ev2 r2 _ _ => ?_) (fun y cls dd F' H' e2 ev rx => x y cls dd F' H' (k1.trans (bind_ex e2)) (ev1.trans ev) rx) (bind_stuck ns)
  have k2 : l2 f ea eb ρ = f d1 d2 := by rw [k1, e2]; rfl
  rw [e2] at ns
  cases hf : f d1 d2 with
  | ok d =>
    refine h.2 d1 d2 v1 v2 F2 H2 Q d ev2.sub (RepD.up ev2.ext _ _ r1.1) r2.1 hf fun v F3 H3 ev3 r => ?_
    exact q d v F3 H3 (fun _ => 0) (k2.trans hf) ((ev1.trans ev2).trans ev3) ⟨r, fun _ => rfl⟩ (fun a z => absurd z (by decide)) fun _ => Nat.zero_le _
  | ex y => exact absurd hf (h.1 d1 d2 y)
  | stuck => exact absurd hf ns
/-- the answer of a read thing, read -/
def OpRd (r : R2) (f : D → D → R D) : Prop := (∀ a b x, f a b ≠ .ex x) ∧ ∀ a b va vb (H : Hp) (Q : VK) d, RepD H a va → RepD H b vb → f a b = .ok d → (∀ v, RepD H d v → Q v H) → r va vb H Q
theorem simR_op {r : R2} {f : D → D → R D} (h : OpRd r f) (ha : SimR mg W μ ta ea) (hb : SimR mg W μ tb eb) : SimR mg W μ (tOp r ta tb) (l2 f ea eb) := fun ρ σ F H c st Q q x ns => by
  have ns1 : ea ρ ≠ .stuck := bind_stuck (f := fun x => (eb ρ).bind fun y => f x y) ns
  refine ha ρ σ F H c st _ (fun d1 v1 F1 H1 e1 ev1 r1 => ?_) (fun y cls dd F' H' e1 ev rx => x y cls dd F' H' (bind_ex e1) ev rx) ns1
  have k1 : l2 f ea eb ρ = (eb ρ).bind fun y => f d1 y := by unfold l2; rw [e1]; rfl
  rw [k1] at ns
  refine hb ρ σ F1 H1 c (st.ev ev1) _ (fun d2 v2 F2 H2 e2 ev2 r2 => ?_) (fun y cls dd F' H' e2 ev rx => x y cls dd F' H' (k1.trans (bind_ex e2)) (ev1.trans ev) rx) (bind_stuck ns)
  have k2 : l2 f ea eb ρ = f d1 d2 := by rw [k1, e2]; rfl
  rw [e2] at ns
  cases hf : f d1 d2 with
  | ok d =>
    refine h.2 d1 d2 v1 v2 H2 Q d (RepD.up ev2.keep _ _ r1) r2 hf fun v r => ?_
    exact q d v F2 H2 (k2.trans hf) (ev1.trans ev2) r
  | ex y => exact absurd hf (h.1 d1 d2 y)
  | stuck => exact absurd hf ns
/-- a read scalar is one's own -/
def D.sc : D → R D
  | .non => .ok .non
  | .bl b => .ok (.bl b)
  | .int i => .ok (.int i)
  | .str s => .ok (.str s)
  | _ => .stuck
theorem D.sc_ok {d d' : D} (h : d.sc = .ok d') : d' = d ∧ ∀ {H F : Hp} {v : V}, RepD H d v → RepD F d v := by
  cases d <;> first | (cases h; exact ⟨rfl, fun r => r⟩) | cases h
theorem D.sc_ex {d : D} {x : Xc} : d.sc ≠ .ex x := by cases d <;> exact fun h => nomatch h
theorem SimR.sc (h : SimR mg W μ te e) : SimP mg W μ te (l1 D.sc e) .sh := fun ρ σ F H c st Q q x ns => by
  refine h ρ σ F H c st Q (fun d v F' H' e1 ev r => ?_) (fun y cls dd F' H' e1 ev rx => x y cls dd F' H' (bind_ex e1) ev rx) (bind_stuck (f := D.sc) ns)
  have k : l1 D.sc e ρ = d.sc := by unfold l1; rw [e1]; rfl
  cases hs : d.sc with
  | ok d' =>
    obtain ⟨rfl, hr⟩ := D.sc_ok hs
    exact q d' v F' H' (fun _ => 0) (k.trans hs) ev ⟨hr r, fun _ => rfl⟩ (fun a z => absurd z (by decide)) fun _ => Nat.zero_le _
  | ex y => exact absurd hs D.sc_ex
  | stuck => exact absurd (k.trans hs) ns
/-- one value -/
def UnS (r : V → Hp → VK → Prop) (f : D → R D) : Prop := (∀ a x, f a ≠ .ex x) ∧ ∀ a va (H : Hp) (Q : VK) d, RepD H a va → f a = .ok d → (∀ v, (∀ F, RepD F d v) → Q v H) → r va H Q
theorem sim_un {r : V → Hp → VK → Prop} {f : D → R D} (h : UnS r f) (ha : SimR mg W μ ta ea) : SimP mg W μ (tUn r ta) (l1 f ea) .sh := fun ρ σ F H c st Q q x ns => by
  refine ha ρ σ F H c st _ (fun d1 v1 F1 H1 e1 ev1 r1 => ?_) (fun y cls dd F' H' e1 ev rx => x y cls dd F' H' (bind_ex e1) ev rx) (bind_stuck (f := f) ns)
  have k1 : l1 f ea ρ = f d1 := by unfold l1; rw [e1]; rfl
  rw [k1] at ns
  cases hf : f d1 with
  | ok d => exact h.2 d1 v1 H1 Q d r1 hf fun v r => q d v F1 H1 (fun _ => 0) (k1.trans hf) ev1 ⟨r F1, fun _ => rfl⟩ (fun a z => absurd z (by decide)) fun _ => Nat.zero_le _
  | ex y => exact absurd hf (h.1 d1 y)
  | stuck => exact absurd hf ns

/-! ### arguments, built-ins -/
theorem sa_nil : SimA mg W μ tNil mNil := fun ρ σ F H c st Q q x ns => q [] [] F H rfl (Ev.refl st.sub) rfl
theorem sa_cons {t : TA} {r : MA} (h : SimP mg W μ te e .sh) (hr : SimA mg W μ t r) : SimA mg W μ (tCons te t) (mCons e r) := fun ρ σ F H c st Q q x ns => by
  refine h ρ σ F H c st _ (fun d1 v1 F1 H1 cv1 e1 ev1 r1 _ _ => ?_) (fun y cls dd F' H' e1 ev rx => x y cls dd F' H' (bind_ex e1) ev rx) (bind_stuck (f := fun d => (r ρ).bind fun ds => R.ok (d :: ds)) ns)
  have k1 : mCons e r ρ = (r ρ).bind fun ds => .ok (d1 :: ds) := by unfold mCons; rw [e1]; rfl
  rw [k1] at ns
  refine hr ρ σ F1 H1 c (st.ev ev1) _ (fun ds vs F2 H2 e2 ev2 r2 => ?_) (fun y cls dd F' H' e2 ev rx => x y cls dd F' H' (k1.trans (bind_ex e2)) (ev1.trans ev) rx) (bind_stuck ns)
  exact q (d1 :: ds) (v1 :: vs) F2 H2 (by rw [k1, e2]; rfl) (ev1.trans ev2) ⟨v1, vs, rfl, RepD.up ev2.ext _ _ r1.1, r2⟩
theorem sar_nil : SimAR mg W μ tNil mNil := fun ρ σ F H c st Q q x ns => q [] [] F H rfl (Ev.refl st.sub) rfl
theorem sar_cons {t : TA} {r : MA} (h : SimR mg W μ te e) (hr : SimAR mg W μ t r) : SimAR mg W μ (tCons te t) (mCons e r) := fun ρ σ F H c st Q q x ns => by
  refine h ρ σ F H c st _ (fun d1 v1 F1 H1 e1 ev1 r1 => ?_) (fun y cls dd F' H' e1 ev rx => x y cls dd F' H' (bind_ex e1) ev rx) (bind_stuck (f := fun d => (r ρ).bind fun ds => R.ok (d :: ds)) ns)
  have k1 : mCons e r ρ = (r ρ).bind fun ds => .ok (d1 :: ds) := by unfold mCons; rw [e1]; rfl
  rw [k1] at ns
  refine hr ρ σ F1 H1 c (st.ev ev1) _ (fun ds vs F2 H2 e2 ev2 r2 => ?_) (fun y cls dd F' H' e2 ev rx => x y cls dd F' H' (k1.trans (bind_ex e2)) (ev1.trans ev) rx) (bind_stuck ns)
  exact q (d1 :: ds) (v1 :: vs) F2 H2 (by rw [k1, e2]; rfl) (ev1.trans ev2) ⟨v1, vs, rfl, RepD.up ev2.keep _ _ r1, r2⟩
def CallS (r : List V → Hp → VK → Prop) (f : List D → R D) : Prop := (∀ a x, f a ≠ .ex x) ∧ ∀ ds vs (H : Hp) (Q : VK) d, RepL H ds vs → f ds = .ok d → (∀ v, (∀ F, RepD F d v) → Q v H) → r vs H Q
def CallG (r : List V → Hp → VK → Prop) (f : List D → R D) : Prop := (∀ a x, f a ≠ .ex x) ∧ ∀ ds vs (F H : Hp) (Q : VK) d, (∀ a o, F a = some o → H a = some o) → RepL F ds vs → f ds = .ok d →
  (∀ v F' H', Ev F H F' H' → RepD F' d v → Q v H') → r vs H Q
/-- .. a new object of one's own whose items are shared -/
def CallO (r : List V → Hp → VK → Prop) (f : List D → R D) : Prop := (∀ a x, f a ≠ .ex x) ∧ ∀ ds vs (F H : Hp) (Q : VK) d, (∀ a o, F a = some o → H a = some o) → RepL F ds vs → f ds = .ok d →
  (∀ v H' cv, Ev F H F H' → RepM F H' (.ow .sh) d v cv → (∀ a, 0 < cv a → H a = none) → (∀ a, cv a ≤ 1) → Q v H') → r vs H Q
theorem sim_cb {r : List V → Hp → VK → Prop} {f : List D → R D} {t : TA} {a : MA} (h : CallS r f) (ha : SimAR mg W μ t a) : SimP mg W μ (tCB r t) (mCall f a) .sh := fun ρ σ F H c st Q q x ns => by
  refine ha ρ σ F H c st _ (fun d1 v1 F1 H1 e1 ev1 r1 => ?_) (fun y cls dd F' H' e1 ev rx => x y cls dd F' H' (bind_ex e1) ev rx) (bind_stuck (f := f) ns)
  have k1 : mCall f a ρ = f d1 := by unfold mCall; rw [e1]; rfl
  rw [k1] at ns
  cases hf : f d1 with
  | ok d => exact h.2 d1 v1 H1 Q d r1 hf fun v r => q d v F1 H1 (fun _ => 0) (k1.trans hf) ev1 ⟨r F1, fun _ => rfl⟩ (fun a z => absurd z (by decide)) fun _ => Nat.zero_le _
  | ex y => exact absurd hf (h.1 d1 y)
  | stuck => exact absurd hf ns
theorem sim_cbG {r : List V → Hp → VK → Prop} {f : List D → R D} {t : TA} {a : MA} (h : CallG r f) (ha : SimA mg W μ t a) : SimP mg W μ (tCB r t) (mCall f a) .sh := fun ρ σ F H c st Q q x ns => by
  refine ha ρ σ F H c st _ (fun d1 v1 F1 H1 e1 ev1 r1 => ?_) (fun y cls dd F' H' e1 ev rx => x y cls dd F' H' (bind_ex e1) ev rx) (bind_stuck (f := f) ns)
  have k1 : mCall f a ρ = f d1 := by unfold mCall; rw [e1]; rfl
  rw [k1] at ns
  cases hf : f d1 with
  | ok d => exact h.2 d1 v1 F1 H1 Q d ev1.sub r1 hf fun v F2 H2 ev2 r => q d v F2 H2 (fun _ => 0) (k1.trans hf) (ev1.trans ev2) ⟨r, fun _ => rfl⟩ (fun a z => absurd z (by decide)) fun _ => Nat.zero_le _
  | ex y => exact absurd hf (h.1 d1 y)
  | stuck => exact absurd hf ns
theorem new_back {F H F1 H1 : Hp} (e : Ev F H F1 H1) {a : Addr} (h : H1 a = none) : H a = none := by
  cases q : H a with
  | none => rfl
  | some o => rw [e.keep a o q] at h; cases h
theorem sim_cbO {r : List V → Hp → VK → Prop} {f : List D → R D} {t : TA} {a : MA} (h : CallO r f) (ha : SimA mg W μ t a) : SimP mg W μ (tCB r t) (mCall f a) (.ow .sh) := fun ρ σ F H c st Q q x ns => by
  refine ha ρ σ F H c st _ (fun d1 v1 F1 H1 e1 ev1 r1 => ?_) (fun y cls dd F' H' e1 ev rx => x y cls dd F' H' (bind_ex e1) ev rx) (bind_stuck (f := f) ns)
  have k1 : mCall f a ρ = f d1 := by unfold mCall; rw [e1]; rfl
  rw [k1] at ns
  cases hf : f d1 with
  | ok d => exact h.2 d1 v1 F1 H1 Q d ev1.sub r1 hf fun v H2 cv ev2 r new one => q d v F1 H2 cv (k1.trans hf) (ev1.trans ev2) r (fun a z => new_back ev1 (new a z)) one
  | ex y => exact absurd hf (h.1 d1 y)
  | stuck => exact absurd hf ns
/-- a list of shared items, new -/
theorem RepM.newL {F H : Hp} {ds : List D} {vs : List V} {p : Addr} (hs : ∀ a o, F a = some o → H a = some o) (h : H p = none) (r : RepL F ds vs) : RepM F (upd H p (.lst vs)) (.ow .sh) (.lst ds) (.ref p) (one p) := by
  have fp : F p = none := by
    cases q : F p with
    | none => rfl
    | some o => rw [hs p o q] at h; cases h
  have lift : ∀ (ds : List D) (vs : List V), RepL F ds vs → RepU (RepM F (upd H p (.lst vs)) .sh) ds vs (fun _ => 0) → True := fun _ _ _ _ => trivial
  have go : ∀ (G : Hp) (ds : List D) (vs : List V), RepL F ds vs → RepU (RepM F G .sh) ds vs (fun _ => 0) := by
    intro G ds
    induction ds with
    | nil => intro vs r; exact ⟨r, fun _ => rfl⟩
    | cons d ds ih => intro vs ⟨v, r, e, h1, h2⟩; exact ⟨v, r, _, _, e, ⟨h1, fun _ => rfl⟩, ih r h2, fun _ => rfl⟩
  exact ⟨p, fun _ => 0, rfl, fp, fun _ => rfl, .inl ⟨ds, vs, rfl, upd_same, go _ ds vs r⟩⟩
theorem RepU.sh {F H : Hp} : ∀ {ds : List D} {vs : List V} {c : Cn}, RepU (RepM F H .sh) ds vs c → RepL F ds vs ∧ ∀ a, c a = 0
  | [], _, _, h => h
  | d :: ds, _, c, ⟨v, r, c1, c2, e, h1, h2, h3⟩ => by
    obtain ⟨q1, q2⟩ := RepU.sh h2
    exact ⟨⟨v, r, e, h1.1, q1⟩, fun a => by rw [h3, h1.2 a, q2 a]⟩
theorem RepU.of_sh {F H : Hp} : ∀ {ds : List D} {vs : List V}, RepL F ds vs → RepU (RepM F H .sh) ds vs (fun _ => 0)
  | [], _, r => ⟨r, fun _ => rfl⟩
  | d :: ds, _, ⟨v, r, e, h1, h2⟩ => ⟨v, r, _, _, e, ⟨h1, fun _ => rfl⟩, RepU.of_sh h2, fun _ => rfl⟩
theorem one_le (p : Addr) : ∀ a, one p a ≤ 1 := fun a => by unfold one; split <;> omega
theorem one_pos {p a : Addr} (h : 0 < one p a) : a = p := by
  unfold one at h
  by_cases q : a = p
  · exact q
  · rw [if_neg q] at h; exact absurd h (by decide)

/-! ### displays -/
def small (n : Nat) : Bool := Nat.ble n 100000
theorem small_le {n : Nat} (h : small n = true) : n ≤ sizeLine := Nat.le_trans (Nat.le_of_ble_eq_true h) (by decide)
theorem small_lt {n : Nat} (h : small n = true) : n < sizeLine := Nat.lt_of_le_of_lt (Nat.le_of_ble_eq_true h) (by decide)
def mLst (a : MA) : ME := fun ρ => (a ρ).bind fun ds => if small ds.length then .ok (.lst ds) else .stuck
def mTup (a : MA) : ME := fun ρ => (a ρ).bind fun ds => if small ds.length then .ok (.tup ds) else .stuck
theorem sim_lst {t : TA} {a : MA} (ha : SimA mg W μ t a) : SimP mg W μ (tLst t) (mLst a) (.ow .sh) := fun ρ σ F H c st Q q x ns => by
  refine ha ρ σ F H c st _ (fun d1 v1 F1 H1 e1 ev1 r1 => ?_) (fun y cls dd F' H' e1 ev rx => x y cls dd F' H' (bind_ex e1) ev rx) (bind_stuck (f := fun ds => if small ds.length then R.ok (D.lst ds) else R.stuck) ns)
  have k1 : mLst a ρ = if small d1.length then .ok (.lst d1) else .stuck := by unfold mLst; rw [e1]; rfl
  rw [k1] at ns
  by_cases hz : small d1.length = true
  · rw [if_pos hz] at k1
    refine ⟨by rw [RepL.len _ _ r1]; exact small_le hz, fun p hp => ?_⟩
    exact q _ _ F1 _ (one p) k1 (ev1.trans (Ev.newO ev1.sub hp)) (RepM.newL ev1.sub hp r1) (fun b z => by rw [one_pos z]; exact new_back ev1 hp) (one_le p)
  · rw [if_neg hz] at ns; exact absurd rfl ns
theorem sim_tup {t : TA} {a : MA} (ha : SimA mg W μ t a) : SimP mg W μ (tTup t) (mTup a) .sh := fun ρ σ F H c st Q q x ns => by
  refine ha ρ σ F H c st _ (fun d1 v1 F1 H1 e1 ev1 r1 => ?_) (fun y cls dd F' H' e1 ev rx => x y cls dd F' H' (bind_ex e1) ev rx) (bind_stuck (f := fun ds => if small ds.length then R.ok (D.tup ds) else R.stuck) ns)
  have k1 : mTup a ρ = if small d1.length then .ok (.tup d1) else .stuck := by unfold mTup; rw [e1]; rfl
  rw [k1] at ns
  by_cases hz : small d1.length = true
  · rw [if_pos hz] at k1
    refine ⟨by rw [RepL.len _ _ r1]; exact small_le hz, fun p hp => ?_⟩
    have ev2 := Ev.new (o := .tup v1) ev1.sub hp
    exact q _ _ _ _ (fun _ => 0) k1 (ev1.trans ev2) ⟨⟨p, v1, rfl, upd_same, RepL.up ev2.ext _ _ r1⟩, fun _ => rfl⟩ (fun a z => absurd z (by decide)) fun _ => Nat.zero_le _
  · rw [if_neg hz] at ns; exact absurd rfl ns
/-- {} -/
theorem sim_dnewK : SimP mg W μ tDNewK (mC (.dK [] [])) (.ow .sh) := fun ρ σ F H c st Q q x ns p hp => by
  have fp : F p = none := by
    cases z : F p with
    | none => rfl
    | some o => rw [st.sub p o z] at hp; cases hp
  exact q _ _ F _ (one p) rfl (Ev.newO st.sub hp) ⟨p, fun _ => 0, rfl, fp, fun _ => rfl, .inr (.inr (.inl ⟨[], [], [], rfl, upd_same, rfl, rfl, fun _ => rfl⟩))⟩ (fun b z => by rw [one_pos z]; exact hp) (one_le p)
theorem sim_dnewT : SimP mg W μ tDNewT (mC (.dT [] [])) (.ow .sh) := fun ρ σ F H c st Q q x ns p hp => by
  have fp : F p = none := by
    cases z : F p with
    | none => rfl
    | some o => rw [st.sub p o z] at hp; cases hp
  exact q _ _ F _ (one p) rfl (Ev.newO st.sub hp) ⟨p, fun _ => 0, rfl, fp, fun _ => rfl, .inr (.inr (.inr ⟨[], [], [], rfl, upd_same, rfl, rfl, fun _ => rfl⟩))⟩ (fun b z => by rw [one_pos z]; exact hp) (one_le p)

/-! ### tests -/
def D.toB : D → R Bool
  | .bl b => .ok b
  | _ => .stuck
def mB (e : ME) : MT := fun ρ => (e ρ).bind D.toB
def mAnd (a b : MT) : MT := fun ρ => (a ρ).bind fun x => if x then b ρ else .ok false
def mOr (a b : MT) : MT := fun ρ => (a ρ).bind fun x => if x then .ok true else b ρ
def mNot (a : MT) : MT := fun ρ => (a ρ).bind fun x => .ok (!x)
theorem D.toB_ok {d : D} {b : Bool} (h : d.toB = .ok b) : d = .bl b := by cases d <;> first | (cases h; rfl) | cases h
theorem D.toB_ex {d : D} {x : Xc} : d.toB ≠ .ex x := by cases d <;> exact fun h => nomatch h
variable {tA tB' : TT} {eA eB : MT}
theorem st_B (h : SimR mg W μ te e) : SimT mg W μ (L2.tB te) (mB e) := fun ρ σ F H c st Q q x ns => by
  refine h ρ σ F H c st _ (fun d v F' H' e1 ev r => ?_) (fun y cls dd F' H' e1 ev rx => x y cls dd F' H' (bind_ex e1) ev rx) (bind_stuck (f := D.toB) ns)
  have k : mB e ρ = d.toB := by unfold mB; rw [e1]; rfl
  cases hs : d.toB with
  | ok b =>
    have hd := D.toB_ok hs
    subst hd
    exact ⟨b, r, q b F' H' (k.trans hs) ev⟩
  | ex y => exact absurd hs D.toB_ex
  | stuck => exact absurd (k.trans hs) ns
theorem st_test (h : SimR mg W μ te e) : SimT mg W μ (tTest te) (mB e) := st_B h
theorem st_and (ha : SimT mg W μ tA eA) (hb : SimT mg W μ tB' eB) : SimT mg W μ (tAnd tA tB') (mAnd eA eB) := fun ρ σ F H c st Q q x ns => by
  refine ha ρ σ F H c st _ (fun b F' H' e1 ev => ?_) (fun y cls dd F' H' e1 ev rx => x y cls dd F' H' (bind_ex e1) ev rx) (bind_stuck (f := fun x => if x then eB ρ else .ok false) ns)
  have k : mAnd eA eB ρ = if b then eB ρ else .ok false := by unfold mAnd; rw [e1]; rfl
  cases b with
  | true => exact hb ρ σ F' H' c (st.ev ev) Q (fun b F2 H2 e2 ev2 => q b F2 H2 (k.trans e2) (ev.trans ev2)) (fun y cls dd F2 H2 e2 ev2 rx => x y cls dd F2 H2 (k.trans e2) (ev.trans ev2) rx) (fun z => ns (k.trans z))
  | false => exact q false F' H' k ev
theorem st_or (ha : SimT mg W μ tA eA) (hb : SimT mg W μ tB' eB) : SimT mg W μ (tOr tA tB') (mOr eA eB) := fun ρ σ F H c st Q q x ns => by
  refine ha ρ σ F H c st _ (fun b F' H' e1 ev => ?_) (fun y cls dd F' H' e1 ev rx => x y cls dd F' H' (bind_ex e1) ev rx) (bind_stuck (f := fun x => if x then .ok true else eB ρ) ns)
  have k : mOr eA eB ρ = if b then .ok true else eB ρ := by unfold mOr; rw [e1]; rfl
  cases b with
  | false => exact hb ρ σ F' H' c (st.ev ev) Q (fun b F2 H2 e2 ev2 => q b F2 H2 (k.trans e2) (ev.trans ev2)) (fun y cls dd F2 H2 e2 ev2 rx => x y cls dd F2 H2 (k.trans e2) (ev.trans ev2) rx) (fun z => ns (k.trans z))
  | true => exact q true F' H' k ev
theorem st_not (ha : SimT mg W μ tA eA) : SimT mg W μ (tNot tA) (mNot eA) := fun ρ σ F H c st Q q x ns => by
  refine ha ρ σ F H c st _ (fun b F' H' e1 ev => ?_) (fun y cls dd F' H' e1 ev rx => x y cls dd F' H' (bind_ex e1) ev rx) (bind_stuck (f := fun x => .ok (!x)) ns)
  exact q (!b) F' H' (by unfold mNot; rw [e1]; rfl) ev
/-- and, or, not as values -/
def mAndV (a b : ME) : ME := fun ρ => (a ρ).bind fun x => x.toB.bind fun z => if z then b ρ else .ok (.bl false)
def mOrV (a b : ME) : ME := fun ρ => (a ρ).bind fun x => x.toB.bind fun z => if z then .ok (.bl true) else b ρ
def mNotV (a : ME) : ME := fun ρ => (a ρ).bind fun x => x.toB.bind fun z => .ok (.bl (!z))
theorem sim_andV (ha : SimR mg W μ ta ea) (hb : SimP mg W μ tb eb .sh) : SimP mg W μ (tAndV ta tb) (mAndV ea eb) .sh := fun ρ σ F H c st Q q x ns => by
  refine ha ρ σ F H c st _ (fun d v F' H' e1 ev r => ?_) (fun y cls dd F' H' e1 ev rx => x y cls dd F' H' (bind_ex e1) ev rx) (bind_stuck (f := fun x => x.toB.bind fun z => if z then eb ρ else R.ok (D.bl false)) ns)
  have k : mAndV ea eb ρ = d.toB.bind fun z => if z then eb ρ else .ok (.bl false) := by unfold mAndV; rw [e1]; rfl
  cases hs : d.toB with
  | ok b =>
    rw [hs] at k
    have hd := D.toB_ok hs
    subst hd
    refine ⟨b, r, ?_⟩
    cases b with
    | true => exact hb ρ σ F' H' c (st.ev ev) Q (fun d v F2 H2 cv e2 ev2 r2 new o => q d v F2 H2 cv (k.trans e2) (ev.trans ev2) r2 (fun a z => new_back ev (new a z)) o) (fun y cls dd F2 H2 e2 ev2 rx => x y cls dd F2 H2 (k.trans e2) (ev.trans ev2) rx) (fun z => ns (k.trans z))
    | false => exact q (.bl false) (.bl false) F' H' (fun _ => 0) k ev ⟨rfl, fun _ => rfl⟩ (fun a z => absurd z (by decide)) fun _ => Nat.zero_le _
  | ex y => exact absurd hs D.toB_ex
  | stuck => rw [hs] at k; exact absurd k ns
theorem sim_orV (ha : SimR mg W μ ta ea) (hb : SimP mg W μ tb eb .sh) : SimP mg W μ (tOrV ta tb) (mOrV ea eb) .sh := fun ρ σ F H c st Q q x ns => by
  refine ha ρ σ F H c st _ (fun d v F' H' e1 ev r => ?_) (fun y cls dd F' H' e1 ev rx => x y cls dd F' H' (bind_ex e1) ev rx) (bind_stuck (f := fun x => x.toB.bind fun z => if z then R.ok (D.bl true) else eb ρ) ns)
  have k : mOrV ea eb ρ = d.toB.bind fun z => if z then .ok (.bl true) else eb ρ := by unfold mOrV; rw [e1]; rfl
  cases hs : d.toB with
  | ok b =>
    rw [hs] at k
    have hd := D.toB_ok hs
    subst hd
    refine ⟨b, r, ?_⟩
    cases b with
    | false => exact hb ρ σ F' H' c (st.ev ev) Q (fun d v F2 H2 cv e2 ev2 r2 new o => q d v F2 H2 cv (k.trans e2) (ev.trans ev2) r2 (fun a z => new_back ev (new a z)) o) (fun y cls dd F2 H2 e2 ev2 rx => x y cls dd F2 H2 (k.trans e2) (ev.trans ev2) rx) (fun z => ns (k.trans z))
    | true => exact q (.bl true) (.bl true) F' H' (fun _ => 0) k ev ⟨rfl, fun _ => rfl⟩ (fun a z => absurd z (by decide)) fun _ => Nat.zero_le _
  | ex y => exact absurd hs D.toB_ex
  | stuck => rw [hs] at k; exact absurd k ns
theorem sim_notV (ha : SimR mg W μ ta ea) : SimP mg W μ (tNotV ta) (mNotV ea) .sh := fun ρ σ F H c st Q q x ns => by
  refine ha ρ σ F H c st _ (fun d v F' H' e1 ev r => ?_) (fun y cls dd F' H' e1 ev rx => x y cls dd F' H' (bind_ex e1) ev rx) (bind_stuck (f := fun x => x.toB.bind fun z => R.ok (D.bl (!z))) ns)
  have k : mNotV ea ρ = d.toB.bind fun z => .ok (.bl (!z)) := by unfold mNotV; rw [e1]; rfl
  cases hs : d.toB with
  | ok b =>
    rw [hs] at k
    have hd := D.toB_ok hs
    subst hd
    exact ⟨b, r, q (.bl (!b)) (.bl (!b)) F' H' (fun _ => 0) k ev ⟨rfl, fun _ => rfl⟩ (fun a z => absurd z (by decide)) fun _ => Nat.zero_le _⟩
  | ex y => exact absurd hs D.toB_ex
  | stuck => rw [hs] at k; exact absurd k ns
/-- a if t else b -/
def mIfE (t : MT) (a b : ME) : ME := fun ρ => (t ρ).bind fun z => if z then a ρ else b ρ
theorem sim_if (ht : SimT mg W μ tA eA) (ha : SimP mg W μ ta ea m) (hb : SimP mg W μ tb eb m) : SimP mg W μ (tIf tA ta tb) (mIfE eA ea eb) m := fun ρ σ F H c st Q q x ns => by
  refine ht ρ σ F H c st _ (fun b F' H' e1 ev => ?_) (fun y cls dd F' H' e1 ev rx => x y cls dd F' H' (bind_ex e1) ev rx) (bind_stuck (f := fun z => if z then ea ρ else eb ρ) ns)
  have k : mIfE eA ea eb ρ = if b then ea ρ else eb ρ := by unfold mIfE; rw [e1]; rfl
  cases b with
  | true => exact ha ρ σ F' H' c (st.ev ev) Q (fun d v F2 H2 cv e2 ev2 r2 new o => q d v F2 H2 cv (k.trans e2) (ev.trans ev2) r2 (fun a z => new_back ev (new a z)) o) (fun y cls dd F2 H2 e2 ev2 rx => x y cls dd F2 H2 (k.trans e2) (ev.trans ev2) rx) (fun z => ns (k.trans z))
  | false => exact hb ρ σ F' H' c (st.ev ev) Q (fun d v F2 H2 cv e2 ev2 r2 new o => q d v F2 H2 cv (k.trans e2) (ev.trans ev2) r2 (fun a z => new_back ev (new a z)) o) (fun y cls dd F2 H2 e2 ev2 rx => x y cls dd F2 H2 (k.trans e2) (ev.trans ev2) rx) (fun z => ns (k.trans z))
/-- a < b < c -/
def mChain (f g : D → D → R D) (a b c : ME) : ME := fun ρ => (a ρ).bind fun x => (b ρ).bind fun y => (f x y).bind fun r => r.toB.bind fun z => if z then (c ρ).bind fun w => g y w else .ok (.bl false)
theorem sim_chain {r r' : R2} {f g : D → D → R D} (hf : OpS r f) (hg : OpS r' g) (ha : SimR mg W μ ta ea) (hb : SimR mg W μ tb eb) (hc : SimR mg W μ tc ec) :
    SimP mg W μ (tChain r r' ta tb tc) (mChain f g ea eb ec) .sh := fun ρ σ F H c st Q q x ns => by
  refine ha ρ σ F H c st _ (fun d1 v1 F1 H1 e1 ev1 r1 => ?_) (fun y cls dd F' H' e1 ev rx => x y cls dd F' H' (bind_ex e1) ev rx) (bind_stuck (f := fun x => (eb ρ).bind fun y => (f x y).bind fun r => r.toB.bind fun z => if z then (ec ρ).bind fun w => g y w else R.ok (D.bl false)) ns)
  have k1 : mChain f g ea eb ec ρ = (eb ρ).bind fun y => (f d1 y).bind fun r => r.toB.bind fun z => if z then (ec ρ).bind fun w => g y w else .ok (.bl false) := by unfold mChain; rw [e1]; rfl
  rw [k1] at ns
  refine hb ρ σ F1 H1 c (st.ev ev1) _ (fun d2 v2 F2 H2 e2 ev2 r2 => ?_) (fun y cls dd F' H' e2 ev rx => x y cls dd F' H' (k1.trans (bind_ex e2)) (ev1.trans ev) rx) (bind_stuck ns)
  rw [e2] at k1 ns
  have k2 : mChain f g ea eb ec ρ = (f d1 d2).bind fun r => r.toB.bind fun z => if z then (ec ρ).bind fun w => g d2 w else .ok (.bl false) := k1
  have ns : ((f d1 d2).bind fun r => r.toB.bind fun z => if z then (ec ρ).bind fun w => g d2 w else .ok (.bl false)) ≠ .stuck := ns
  cases hfd : f d1 d2 with
  | ok d =>
    rw [hfd] at k2 ns
    refine hf.2 d1 d2 v1 v2 H2 _ d (RepD.up ev2.keep _ _ r1) r2 hfd fun v r => ?_
    cases hs : d.toB with
    | ok b =>
      have hd := D.toB_ok hs
      subst hd
      have rv : v = .bl b := r F2
      refine ⟨b, rv, ?_⟩
      have ev := ev1.trans ev2
      cases b with
      | true =>
        have k3 : mChain f g ea eb ec ρ = (ec ρ).bind fun w => g d2 w := k2
        have ns3 : ((ec ρ).bind fun w => g d2 w) ≠ .stuck := ns
        rw [if_pos rfl]
        refine hc ρ σ F2 H2 c (st.ev ev) _ (fun d3 v3 F3 H3 e3 ev3 r3 => ?_) (fun y cls dd F' H' e3 ev' rx => x y cls dd F' H' (k3.trans (bind_ex e3)) (ev.trans ev') rx) (bind_stuck ns3)
        rw [e3] at k3 ns3
        cases hgd : g d2 d3 with
        | ok d4 => exact hg.2 d2 d3 v2 v3 H3 Q d4 (RepD.up ev3.keep _ _ r2) r3 hgd fun v4 r4 => q d4 v4 F3 H3 (fun _ => 0) (k3.trans hgd) (ev.trans ev3) ⟨r4 F3, fun _ => rfl⟩ (fun a z => absurd z (by decide)) fun _ => Nat.zero_le _
        | ex y => exact absurd hgd (hg.1 d2 d3 y)
        | stuck => exact absurd hgd ns3
      | false => rw [if_neg Bool.false_ne_true]; exact q (.bl false) (.bl false) F2 H2 (fun _ => 0) k2 ev ⟨rfl, fun _ => rfl⟩ (fun a z => absurd z (by decide)) fun _ => Nat.zero_le _
    | ex y => exact absurd hs D.toB_ex
    | stuck => exact absurd (show (d.toB.bind fun z => if z then (ec ρ).bind fun w => g d2 w else .ok (.bl false)) = .stuck by rw [hs]; rfl) ns
  | ex y => exact absurd hfd (hf.1 d1 d2 y)
  | stuck => rw [hfd] at ns; exact absurd rfl ns
end
end Mi
/-! MiC: operators, subscripts, built-ins by values. -/
namespace Mi
open PySem L2

/-! ### ints -/
def D.opI (C : Int → Int → Bool) (h : Int → Int → D) : D → D → R D
  | .int a, .int b => if C a b then .ok (h a b) else .stuck
  | _, _ => .stuck
theorem D.opI_int {C : Int → Int → Bool} {h : Int → Int → D} {i j : Int} : D.opI C h (.int i) (.int j) = if C i j then .ok (h i j) else .stuck := rfl
theorem D.opI_ok {C : Int → Int → Bool} {h : Int → Int → D} {a b d : D} (e : D.opI C h a b = .ok d) : ∃ i j, a = .int i ∧ b = .int j ∧ d = h i j ∧ C i j = true := by
  cases a <;> cases b <;> first | cases e | skip
  rename_i i j
  rw [D.opI_int] at e
  by_cases c : C i j = true
  · rw [if_pos c] at e
    cases e
    exact ⟨i, j, rfl, rfl, rfl, c⟩
  · rw [if_neg c] at e; cases e
theorem D.opI_ex {C : Int → Int → Bool} {h : Int → Int → D} {a b : D} {x : Xc} : D.opI C h a b ≠ .ex x := by
  cases a <;> cases b <;> first | (intro e; cases e; done) | skip
  rw [D.opI_int]
  split <;> exact fun e => nomatch e
def in64 (a : Int) : Bool := decide (-(2 ^ 64) < a) && decide (a < 2 ^ 64)
abbrev D.addI : D → D → R D := D.opI (fun _ _ => true) fun a b => .int (a + b)
abbrev D.sub : D → D → R D := D.opI (fun _ _ => true) fun a b => .int (a - b)
abbrev D.mulI : D → D → R D := D.opI (fun a b => in64 a || in64 b) fun a b => .int (a * b)
abbrev D.mod : D → D → R D := D.opI (fun _ b => decide (0 < b)) fun a b => .int (a % b)
abbrev D.fdiv : D → D → R D := D.opI (fun _ b => decide (0 < b) && decide (b < 1073741824)) fun a b => .int (a / b)
abbrev D.pow : D → D → R D := D.opI (fun a b => decide (0 ≤ b) && decide (b ≤ 1000000) && decide (a.natAbs < 2 ^ 64)) fun a b => .int (a ^ b.toNat)
abbrev D.lt : D → D → R D := D.opI (fun _ _ => true) fun a b => .bl (decide (a < b))
abbrev D.le : D → D → R D := D.opI (fun _ _ => true) fun a b => .bl (decide (a ≤ b))
abbrev D.gt : D → D → R D := D.opI (fun _ _ => true) fun a b => .bl (decide (b < a))
abbrev D.ge : D → D → R D := D.opI (fun _ _ => true) fun a b => .bl (decide (b ≤ a))
def D.neg : D → R D
  | .int a => .ok (.int (-a))
  | _ => .stuck
section
variable {K : PySem.W.Frag}
theorem os_I0 {g : Int → Int → V} {h : Int → Int → D} (r : ∀ i j (F : Hp), RepD F (h i j) (g i j)) {C : Int → Int → Bool} : OpS (rI0 g) (D.opI C h) :=
  ⟨fun a b x => D.opI_ex, fun a b va vb H Q d ra rb e q => by
    obtain ⟨i, j, rfl, rfl, rfl, _⟩ := D.opI_ok e
    exact ⟨i, j, ra, rb, q _ fun F => r i j F⟩⟩
theorem os_I {Cp : Int → Int → Prop} {g : Int → Int → V} {h : Int → Int → D} (r : ∀ i j (F : Hp), RepD F (h i j) (g i j)) {C : Int → Int → Bool} (hc : ∀ i j, C i j = true → Cp i j) : OpS (rI Cp g) (D.opI C h) :=
  ⟨fun a b x => D.opI_ex, fun a b va vb H Q d ra rb e q => by
    obtain ⟨i, j, rfl, rfl, rfl, c⟩ := D.opI_ok e
    exact ⟨i, j, ra, rb, hc i j c, q _ fun F => r i j F⟩⟩
theorem in64_ok {a : Int} (h : in64 a = true) : -(2 ^ 64) < a ∧ a < 2 ^ 64 := by
  unfold in64 at h
  rw [Bool.and_eq_true] at h
  exact ⟨of_decide_eq_true h.1, of_decide_eq_true h.2⟩
theorem os_addI : OpS (rI0 fun i j => .int (i + j)) D.addI := os_I0 (by intros; rfl)
theorem os_sub : OpS (rI0 fun i j => .int (i - j)) D.sub := os_I0 (by intros; rfl)
theorem os_mulI : OpS (rI CMul fun i j => .int (i * j)) D.mulI := os_I (by intros; rfl) fun i j c => by
  rw [Bool.or_eq_true] at c
  exact c.elim (fun z => .inl (in64_ok z)) fun z => .inr (in64_ok z)
theorem os_mod : OpS (rI (fun _ j => 0 < j) fun i j => .int (i % j)) D.mod := os_I (by intros; rfl) fun i j c => of_decide_eq_true c
theorem os_fdiv : OpS (rI CDiv fun i j => .int (i / j)) D.fdiv := os_I (by intros; rfl) fun i j c => by
  rw [Bool.and_eq_true] at c
  exact ⟨of_decide_eq_true c.1, of_decide_eq_true c.2⟩
theorem os_pow : OpS (rI CPow fun i j => .int (i ^ j.toNat)) D.pow := os_I (by intros; rfl) fun i j c => by
  rw [Bool.and_eq_true, Bool.and_eq_true] at c
  exact ⟨of_decide_eq_true c.1.1, of_decide_eq_true c.1.2, of_decide_eq_true c.2⟩
theorem os_lt : OpS (rI0 fun i j => .bl (decide (i < j))) D.lt := os_I0 (by intros; rfl)
theorem os_le : OpS (rI0 fun i j => .bl (decide (i ≤ j))) D.le := os_I0 (by intros; rfl)
theorem os_gt : OpS (rI0 fun i j => .bl (decide (j < i))) D.gt := os_I0 (by intros; rfl)
theorem os_ge : OpS (rI0 fun i j => .bl (decide (j ≤ i))) D.ge := os_I0 (by intros; rfl)
theorem us_neg : UnS (rU fun i => .int (-i)) D.neg := by
  refine ⟨fun a x => ?_, fun a va H Q d ra e q => ?_⟩
  · cases a <;> exact fun h => nomatch h
  · cases a with
    | int i => cases e; exact ⟨_, ra, q _ fun _ => rfl⟩
    | _ => cases e
end

/-! ### data compared -/
mutual
def D.py : D → PyData
  | .non => .none
  | .bl b => .bool b
  | .int i => .int i
  | .str s => .str s
  | .lst ds => .list (pyL ds)
  | .tup ds => .tuple (pyL ds)
  | .dK _ _ => .dict []
  | .dT _ _ => .dict []
def pyL : List D → List PyData
  | [] => []
  | d :: ds => d.py :: pyL ds
end
section
variable {K : PySem.W.Frag} {H : Hp}
mutual
theorem RepD.dp : ∀ (d : D) (v : V), RepD H d v → d.py.canLay0 = true → Dp K H v d.py
  | .non, _, r, _ => by rw [show _ = V.non from r]; exact .non
  | .bl b, _, r, _ => by rw [show _ = V.bl b from r]; exact .bl b
  | .int i, _, r, _ => by rw [show _ = V.int i from r]; exact .int i
  | .str s, _, r, _ => by rw [show _ = V.str s from r]; exact .str s
  | .lst ds, _, ⟨a, vs, e, s, l⟩, h => by rw [e]; exact .lst (SqL.of s) (RepL.dp ds vs l (by simpa [D.py, PyData.canLay0] using h))
  | .tup ds, _, ⟨a, vs, e, s, l⟩, h => by rw [e]; exact .tup (SqT.of s) (RepL.dp ds vs l (by simpa [D.py, PyData.canLay0] using h))
  | .dK ks ds, _, _, h => by simp [D.py, PyData.canLay0] at h
  | .dT ks ds, _, _, h => by simp [D.py, PyData.canLay0] at h
theorem RepL.dp : ∀ (ds : List D) (vs : List V), RepL H ds vs → PyData.canLayAll0 (pyL ds) = true → DpAll K H vs (pyL ds)
  | [], _, r, _ => by rw [show _ = [] from r]; exact .nil
  | d :: ds, _, ⟨v, r, e, h1, h2⟩, h => by
    have h' : d.py.canLay0 = true ∧ PyData.canLayAll0 (pyL ds) = true := by simpa [pyL, PyData.canLayAll0] using h
    rw [e]
    exact .cons (RepD.dp d v h1 h'.1) (RepL.dp ds r h2 h'.2)
end
end
def D.shp (a : D) : Bool := SeqAt.shaped a.py
def D.eqq (a b : D) : R D := if a.shp && b.shp then .ok (.bl (PyData.eqv a.py b.py)) else .stuck
def D.neq (a b : D) : R D := if a.shp && b.shp then .ok (.bl (!PyData.eqv a.py b.py)) else .stuck
def D.isNon : D → Bool
  | .non => true
  | _ => false
def D.isN (a b : D) : R D := match b with
  | .non => .ok (.bl a.isNon)
  | _ => .stuck
def D.notN (a b : D) : R D := match b with
  | .non => .ok (.bl (!a.isNon))
  | _ => .stuck
section
variable {K : PySem.W.Frag}
theorem os_eqq : OpS (rEqD K) D.eqq := by
  refine ⟨fun a b x => (by unfold D.eqq; split <;> exact fun h => nomatch h), fun a b va vb H Q d ra rb e q => ?_⟩
  unfold D.eqq at e
  by_cases c : (a.shp && b.shp) = true
  · rw [if_pos c] at e
    cases e
    rw [Bool.and_eq_true] at c
    exact ⟨a.py, b.py, RepD.dp a va ra (SeqAt.canLay_of_shaped c.1), RepD.dp b vb rb (SeqAt.canLay_of_shaped c.2), c.1, c.2, q _ fun _ => rfl⟩
  · rw [if_neg c] at e; cases e
theorem os_neq : OpS (rNeD K) D.neq := by
  refine ⟨fun a b x => (by unfold D.neq; split <;> exact fun h => nomatch h), fun a b va vb H Q d ra rb e q => ?_⟩
  unfold D.neq at e
  by_cases c : (a.shp && b.shp) = true
  · rw [if_pos c] at e
    cases e
    rw [Bool.and_eq_true] at c
    exact ⟨a.py, b.py, RepD.dp a va ra (SeqAt.canLay_of_shaped c.1), RepD.dp b vb rb (SeqAt.canLay_of_shaped c.2), c.1, c.2, q _ fun _ => rfl⟩
  · rw [if_neg c] at e; cases e
theorem repD_non {H : Hp} {d : D} {v : V} (r : RepD H d v) : d.isNon = decide (v = .non) := by
  cases d with
  | non => cases (show v = .non from r); rfl
  | bl b => cases (show v = .bl b from r); rfl
  | int b => cases (show v = .int b from r); rfl
  | str b => cases (show v = .str b from r); rfl
  | lst ds => obtain ⟨a, vs, e, _⟩ := r; subst e; rfl
  | tup ds => obtain ⟨a, vs, e, _⟩ := r; subst e; rfl
  | dK ks ds => obtain ⟨a, vs, e, _⟩ := r; subst e; rfl
  | dT ks ds => obtain ⟨a, vs, e, _⟩ := r; subst e; rfl
abbrev rIsN : R2 := fun x y H Q => y = .non ∧ Q (.bl (decide (x = .non))) H
abbrev rNotN : R2 := fun x y H Q => y = .non ∧ Q (.bl (!decide (x = .non))) H
theorem os_isN : OpS rIsN D.isN := by
  refine ⟨fun a b x => ?_, fun a b va vb H Q d ra rb e q => ?_⟩
  · cases b <;> exact fun h => nomatch h
  · cases b with
    | non =>
      cases e
      exact ⟨rb, by rw [← repD_non ra]; exact q _ fun _ => rfl⟩
    | _ => cases e
theorem os_notN : OpS rNotN D.notN := by
  refine ⟨fun a b x => ?_, fun a b va vb H Q d ra rb e q => ?_⟩
  · cases b <;> exact fun h => nomatch h
  · cases b with
    | non =>
      cases e
      exact ⟨rb, by rw [← repD_non ra]; exact q _ fun _ => rfl⟩
    | _ => cases e
end

/-! ### keys, dicts -/
def D.key : D → Option Key
  | .int i => some (.inl i)
  | .str s => some (.inr s)
  | _ => none
def keysOf : List D → Option (List Key)
  | [] => some []
  | d :: ds => match d.key, keysOf ds with
    | some k, some ks => some (k :: ks)
    | _, _ => none
def valD {κ : Type} [DecidableEq κ] : List κ → List D → κ → Option D
  | k :: ks, d :: ds, j => if k = j then some d else valD ks ds j
  | _, _, _ => none
/-- what a dict holds at a key (none: not a key) -/
def D.dget : D → D → R (Option D)
  | .dK ks ds, k => match k.key with
    | some j => .ok (valD ks ds j)
    | none => .stuck
  | .dT ks ds, .tup js => match keysOf js with
    | some j => .ok (valD ks ds j)
    | none => .stuck
  | _, _ => .stuck
section
variable {K : PySem.W.Frag} {F H : Hp}
theorem key_rep {d : D} {k : Key} {v : V} (h : d.key = some k) (r : RepD F d v) : v = kV k := by
  cases d <;> first | (cases h; exact r) | cases h
theorem keysOf_rep : ∀ {ds : List D} {ks : List Key} {vs : List V}, keysOf ds = some ks → RepL F ds vs → vs = ks.map kV
  | [], _, _, h, r => by cases h; exact r
  | d :: ds, _, _, h, ⟨v, r, e, h1, h2⟩ => by
    unfold keysOf at h
    cases hk : d.key with
    | none => rw [hk] at h; cases h
    | some k =>
      cases hs : keysOf ds with
      | none => rw [hk, hs] at h; cases h
      | some ks =>
        rw [hk, hs] at h
        cases h
        rw [e, key_rep hk h1, keysOf_rep hs h2]
        rfl
def OMat (F : Hp) (o : Option D) (w : Option V) : Prop := match o with
  | some d => ∃ v, w = some v ∧ RepD F d v
  | none => w = none
theorem valD_rep {κ : Type} [DecidableEq κ] (j : κ) : ∀ (kvs : List (κ × V)) (ds : List D), RepL F ds (kvs.map (·.2)) → OMat F (valD (kvs.map (·.1)) ds j) (valV kvs j)
  | [], ds, _ => by cases ds <;> rfl
  | p :: kvs, [], h => by cases h
  | p :: kvs, d :: ds, ⟨v, r, e, h1, h2⟩ => by
    obtain ⟨e1, e2⟩ := List.cons.inj e
    subst e1
    subst e2
    show OMat F (if p.1 = j then some d else valD (kvs.map (·.1)) ds j) (valV (p :: kvs) j)
    by_cases c : p.1 = j
    · rw [if_pos c, valV_pos c]
      exact ⟨p.2, rfl, h1⟩
    · rw [if_neg c, valV_neg c]
      exact valD_rep j kvs ds h2
/-- the tracked part of a tuple (a key) -/
def TupAt (H : Hp) (v : V) (k : List Key) : Prop := ∃ b, v = .ref b ∧ H b = some (.tup (k.map kV))
theorem dget_rep {a k : D} {va vk : V} {o : Option D} (h : a.dget k = .ok o) (ra : RepD H a va) (rk : RepD H k vk) :
    ∃ p w, va = .ref p ∧ DGet H p vk w ∧ OMat H o w := by
  cases a with
  | dK ks ds =>
    obtain ⟨p, kvs, e, hp, hk, hl⟩ := ra
    have hd : (D.dK ks ds).dget k = match k.key with | some j => .ok (valD ks ds j) | none => .stuck := by cases k <;> rfl
    rw [hd] at h
    cases hj : k.key with
    | none => rw [hj] at h; cases h
    | some j =>
      rw [hj] at h
      cases h
      rw [key_rep hj rk]
      refine ⟨p, _, e, DGet.k hp, ?_⟩
      have q := valD_rep j kvs ds hl
      rw [hk] at q
      exact q
  | dT ks ds =>
    cases k with
    | tup js =>
      obtain ⟨p, kvs, e, hp, hk, hl⟩ := ra
      have hd : (D.dT ks ds).dget (.tup js) = match keysOf js with | some j => .ok (valD ks ds j) | none => .stuck := rfl
      rw [hd] at h
      cases hj : keysOf js with
      | none => rw [hj] at h; cases h
      | some j =>
        rw [hj] at h
        cases h
        obtain ⟨b, vs, eb, hb, hl'⟩ := rk
        have ev : vs = j.map kV := keysOf_rep hj hl'
        rw [eb]
        refine ⟨p, _, e, DGet.t hp (by rw [hb, ev]), ?_⟩
        have q := valD_rep j kvs ds hl
        rw [hk] at q
        exact q
    | _ => cases h
  | _ => cases h
end
end Mi
/-! MiD: subscripts, in, len, slices, built-in calls. -/
namespace Mi
open PySem L2

theorem Rd.up {F H : Hp} {a : Addr} {u : HO} (h : ∀ a o, F a = some o → H a = some o) (r : Rd F a u) : Rd H a u := r.elim (fun z => .inl (h _ _ z)) fun ⟨o, z⟩ => .inr ⟨o, h _ _ z⟩
theorem DGet.up {F H : Hp} {a : Addr} {y : V} {w : Option V} (h : ∀ a o, F a = some o → H a = some o) (g : DGet F a y w) : DGet H a y w := by
  rcases g with ⟨kvs, k, e, e1, e2⟩ | ⟨kvs, k, b, e, e1, e2, e3⟩
  · exact .inl ⟨kvs, k, Rd.up h e, e1, e2⟩
  · exact .inr ⟨kvs, k, b, Rd.up h e, e1, h _ _ e2, e3⟩

/-! ### x[i] -/
def rIxDi : R2 := fun x y H Q => ∃ a v, x = .ref a ∧ DGet H a y (some v) ∧ Q v H
theorem ix_dict {X : Cx} (hu : X.A.units + 1 < cLine) : IxR X rIxDi := by
  intro value slice pins s σ H x y v u Q I rx ry h hs
  obtain ⟨a, r, rfl, g, q⟩ := h
  obtain rfl : v = Value.ref a := rx
  exact PyProof.Rows.tail_any (dict_typeIs I g) PySem.F.slot_dict_getitem.lookup (d_getItem hu I g ry fun w' s3 I3 rw' => ⟨r, H, I3, rw', q⟩) hs
def rIxA (K : PySem.W.Frag) : R2 := fun x y H Q => rIx K x y H Q ∨ rIxDi x y H Q
theorem ix_any {X : Cx} (hu : X.A.units + 1 < cLine) : IxR X (rIxA X.K) := ix_seq.or (ix_dict hu)
def oR {α : Type} (o : Option α) : R α := match o with
  | some a => .ok a
  | none => .stuck
def D.ix : D → D → R D
  | .lst ds, .int i => oR (atI ds i)
  | .tup ds, .int i => oR (atI ds i)
  | .str z, .int i => if small z.length then (oR (atI z.cps.toList i)).bind fun c => .ok (.str ⟨#[c]⟩) else .stuck
  | .dK ks ds, k => ((D.dK ks ds).dget k).bind oR
  | .dT ks ds, k => ((D.dT ks ds).dget k).bind oR
  | _, _ => .stuck
theorem oR_ok {α : Type} {o : Option α} {a : α} (h : oR o = .ok a) : o = some a := by
  cases o with
  | some b => cases h; rfl
  | none => cases h
theorem oR_ex {α : Type} {o : Option α} {x : Xc} : oR o ≠ .ex x := by cases o <;> exact fun h => nomatch h
theorem dget_ex {a b : D} {x : Xc} : a.dget b ≠ .ex x := by
  unfold D.dget
  split
  · split <;> exact fun h => nomatch h
  · split <;> exact fun h => nomatch h
  · exact fun h => nomatch h
theorem bind_oR_ex {r : R (Option D)} {x : Xc} (h : ∀ x, r ≠ .ex x) : r.bind oR ≠ .ex x := by
  cases r with
  | ok o => exact oR_ex
  | ex y => exact absurd rfl (h y)
  | stuck => exact fun h => nomatch h
theorem D.ix_ex {a b : D} {x : Xc} : a.ix b ≠ .ex x := by
  unfold D.ix
  split
  · exact oR_ex
  · exact oR_ex
  · split
    · intro h
      rename_i z i _
      cases q : atI z.cps.toList i with
      | none => rw [q] at h; cases h
      | some c => rw [q] at h; cases h
    · exact fun h => nomatch h
  · exact bind_oR_ex fun x => dget_ex
  · exact bind_oR_ex fun x => dget_ex
  · exact fun h => nomatch h
theorem ixN_map {α β : Type} {xs : List α} {ys : List β} (h : xs.length = ys.length) (i : Int) {v : α} (e : atI xs i = some v) : ∃ j : Nat, xs[j]? = some v ∧ ∀ w, ys[j]? = some w → atI ys i = some w := by
  unfold atI at e ⊢
  cases q : ixN xs.length i with
  | none => rw [q] at e; cases e
  | some j =>
    rw [q] at e
    refine ⟨j, e, fun w hw => ?_⟩
    rw [← h, q]
    exact hw
theorem ix_core {K : PySem.W.Frag} {a b d : D} {va vb : V} {F H : Hp} {Q : VK} (hs : ∀ a o, F a = some o → H a = some o) (ra : RepD F a va) (rb : RepD F b vb) (e : a.ix b = .ok d) (q : ∀ v, RepD F d v → Q v H) : rIxA K va vb H Q := by
  cases a with
  | lst ds =>
    cases b with
    | int i =>
      obtain ⟨p, vs, ev, hp, hl⟩ := ra
      have e := oR_ok e
      obtain ⟨j, hj, hw⟩ := ixN_map (RepL.len _ _ hl).symm i e
      obtain ⟨v, h1, h2⟩ := hl.get hj
      exact .inl (.inl ⟨p, vs, i, v, ev, rb, SqL.of (hs _ _ hp), hw v h1, q v h2⟩)
    | _ => cases e
  | tup ds =>
    cases b with
    | int i =>
      obtain ⟨p, vs, ev, hp, hl⟩ := ra
      have e := oR_ok e
      obtain ⟨j, hj, hw⟩ := ixN_map (RepL.len _ _ hl).symm i e
      obtain ⟨v, h1, h2⟩ := hl.get hj
      exact .inl (.inr (.inl ⟨p, vs, i, v, ev, rb, SqT.of (hs _ _ hp), hw v h1, q v h2⟩))
    | _ => cases e
  | str z =>
    cases b with
    | int i =>
      have e' : (if small z.length then (oR (atI z.cps.toList i)).bind fun c => R.ok (D.str ⟨#[c]⟩) else .stuck) = .ok d := e
      by_cases hz : small z.length = true
      · rw [if_pos hz] at e'
        obtain ⟨c, h1, h2⟩ := R.bind_eq_ok e'
        cases h2
        exact .inl (.inr (.inr ⟨z, i, c, ra, rb, small_le hz, oR_ok h1, q _ rfl⟩))
      · rw [if_neg hz] at e'; cases e'
    | _ => cases e
  | dK ks ds =>
    have e' : ((D.dK ks ds).dget b).bind oR = .ok d := by cases b <;> exact e
    obtain ⟨o, h1, h2⟩ := R.bind_eq_ok e'
    obtain ⟨p, w, ev, g, m⟩ := dget_rep h1 ra rb
    rw [oR_ok h2] at m
    obtain ⟨v, ew, rv⟩ := m
    exact .inr ⟨p, v, ev, DGet.up hs (ew ▸ g), q v rv⟩
  | dT ks ds =>
    have e' : ((D.dT ks ds).dget b).bind oR = .ok d := by cases b <;> exact e
    obtain ⟨o, h1, h2⟩ := R.bind_eq_ok e'
    obtain ⟨p, w, ev, g, m⟩ := dget_rep h1 ra rb
    rw [oR_ok h2] at m
    obtain ⟨v, ew, rv⟩ := m
    exact .inr ⟨p, v, ev, DGet.up hs (ew ▸ g), q v rv⟩
  | _ => cases e
theorem og_ix {K : PySem.W.Frag} : OpG (rIxA K) D.ix := ⟨fun a b x => D.ix_ex, fun a b va vb F H Q d hs ra rb e q => ix_core hs ra rb e fun v r => q v F H (Ev.refl hs) r⟩
theorem or_ix {K : PySem.W.Frag} : OpRd (rIxA K) D.ix := ⟨fun a b x => D.ix_ex, fun a b va vb H Q d ra rb e q => ix_core (fun _ _ e => e) ra rb e q⟩

/-! ### in -/
def rInDT (K : PySem.W.Frag) (neg : Bool) : R2 := fun x y H Q => ∃ d ds, Dp K H x d ∧ Dp K H y (.tuple ds) ∧ SeqAt.shaped d = true ∧ SeqAt.shaped (.tuple ds) = true ∧ Q (.bl (if neg then !(ds.any fun z => PyData.eqv z d) else ds.any fun z => PyData.eqv z d)) H
theorem op_inDT {X : Cx} (hu : X.A.units + 65 < cLine) : OpR X (compareOp .In) (rInDT X.K false) := by
  intro pins s σ H x y v u Q I rx ry h
  obtain ⟨d, ds, hd, he, sd, se, q⟩ := h
  obtain ⟨as, r1⟩ := Dp.reads I d x v hd rx
  obtain ⟨bs, r2⟩ := Dp.reads I (.tuple ds) y u he ry
  exact SeqAt.in_tuple_reads r2 r1 (SeqAt.canLay_of_shaped se) (SeqAt.canLay_of_shaped sd) (PyProof.Rows.room_in_shaped sd hu) ⟨.bl _, H, I, rfl, q⟩
theorem op_notInDT {X : Cx} (hu : X.A.units + 65 < cLine) : OpR X (compareOp .NotIn) (rInDT X.K true) := by
  intro pins s σ H x y v u Q I rx ry h
  obtain ⟨d, ds, hd, he, sd, se, q⟩ := h
  obtain ⟨as, r1⟩ := Dp.reads I d x v hd rx
  obtain ⟨bs, r2⟩ := Dp.reads I (.tuple ds) y u he ry
  exact SeqAt.notIn_tuple_reads r2 r1 (SeqAt.canLay_of_shaped se) (SeqAt.canLay_of_shaped sd) (PyProof.Rows.room_in_shaped sd hu) ⟨.bl _, H, I, rfl, q⟩
def rInDi : R2 := fun x y H Q => ∃ a o, y = .ref a ∧ DGet H a x o ∧ Q (.bl o.isSome) H
def rNotInDi : R2 := fun x y H Q => ∃ a o, y = .ref a ∧ DGet H a x o ∧ Q (.bl (!o.isSome)) H
theorem op_inDi {X : Cx} (hu : X.A.units + 1 < cLine) : OpR X (compareOp .In) rInDi := by
  intro pins s σ H x y v u Q I rx ry h
  obtain ⟨a, o, rfl, g, q⟩ := h
  obtain rfl : u = Value.ref a := ry
  exact d_in hu I g rx fun s3 I3 => ⟨.bl o.isSome, H, I3, rfl, q⟩
theorem op_notInDi {X : Cx} (hu : X.A.units + 1 < cLine) : OpR X (compareOp .NotIn) rNotInDi := by
  intro pins s σ H x y v u Q I rx ry h
  obtain ⟨a, o, rfl, g, q⟩ := h
  obtain rfl : u = Value.ref a := ry
  exact d_notIn hu I g rx fun s3 I3 => ⟨.bl (!o.isSome), H, I3, rfl, q⟩
def rInA (K : PySem.W.Frag) : R2 := fun x y H Q => (∃ (c : Nat) (z : Str), x = .str ⟨#[c]⟩ ∧ y = .str z ∧ Q (.bl (decide (c ∈ z.cps.toList))) H) ∨ ((∃ i j, x = .str i ∧ y = .str j ∧ Q (.bl (!(Builtin.Str.occurrences j i 0 j.length 1).isEmpty)) H) ∨ (rIn K false x y H Q ∨ ((rInD K x y H Q ∨ rInDT K false x y H Q) ∨ rInDi x y H Q)))
def rNotInA (K : PySem.W.Frag) : R2 := fun x y H Q => (∃ (c : Nat) (z : Str), x = .str ⟨#[c]⟩ ∧ y = .str z ∧ Q (.bl (!decide (c ∈ z.cps.toList))) H) ∨ ((∃ i j, x = .str i ∧ y = .str j ∧ Q (.bl (!(!(Builtin.Str.occurrences j i 0 j.length 1).isEmpty))) H) ∨ (rIn K true x y H Q ∨ ((rNotInD K x y H Q ∨ rInDT K true x y H Q) ∨ rNotInDi x y H Q)))
theorem op_inA {X : Cx} (hu : X.A.units + 65 < cLine) : OpR X (compareOp .In) (rInA X.K) := op_in_sign.or (op_in_str.or (op_in_seq.or (((op_inD hu).or (op_inDT hu)).or (op_inDi (by omega)))))
theorem op_notInA {X : Cx} (hu : X.A.units + 65 < cLine) : OpR X (compareOp .NotIn) (rNotInA X.K) := op_notIn_sign.or (op_notin_str.or (op_notIn_seq.or (((op_notInD hu).or (op_notInDT hu)).or (op_notInDi (by omega)))))
def D.flat : D → Bool
  | .non => true
  | .bl _ => true
  | .int _ => true
  | .str _ => true
  | _ => false
/-- x in y -/
def D.innB (x y : D) : R Bool := match y with
  | .str z => match x with
    | .str w => if w.cps.size == 1 then .ok (decide (w.cps.getD 0 0 ∈ z.cps.toList)) else .ok (!(Builtin.Str.occurrences z w 0 z.length 1).isEmpty)
    | _ => .stuck
  | .lst ds => if x.flat && ds.all D.flat then .ok (ds.any fun z => PyData.eqv z.py x.py) else
      if x.shp && (D.lst ds).shp then .ok (ds.any fun z => PyData.eqv z.py x.py) else .stuck
  | .tup ds => if x.flat && ds.all D.flat then .ok (ds.any fun z => PyData.eqv z.py x.py) else
      if x.shp && (D.tup ds).shp then .ok (ds.any fun z => PyData.eqv z.py x.py) else .stuck
  | .dK ks ds => ((D.dK ks ds).dget x).bind fun o => .ok o.isSome
  | .dT ks ds => ((D.dT ks ds).dget x).bind fun o => .ok o.isSome
  | _ => .stuck
def D.inn (x y : D) : R D := (D.innB x y).bind fun b => .ok (.bl b)
def D.notin (x y : D) : R D := (D.innB x y).bind fun b => .ok (.bl (!b))
theorem D.innB_ex {a b : D} {x : Xc} : D.innB a b ≠ .ex x := by
  unfold D.innB
  split
  · split
    · split <;> exact fun h => nomatch h
    · exact fun h => nomatch h
  · split
    · exact fun h => nomatch h
    · split <;> exact fun h => nomatch h
  · split
    · exact fun h => nomatch h
    · split <;> exact fun h => nomatch h
  · intro h
    rename_i ks ds
    cases q : (D.dK ks ds).dget a with
    | ok o => rw [q] at h; cases h
    | ex y => exact dget_ex q
    | stuck => rw [q] at h; cases h
  · intro h
    rename_i ks ds
    cases q : (D.dT ks ds).dget a with
    | ok o => rw [q] at h; cases h
    | ex y => exact dget_ex q
    | stuck => rw [q] at h; cases h
  · exact fun h => nomatch h
theorem flat_rep {H : Hp} {d : D} {v : V} (h : d.flat = true) (r : RepD H d v) : flatV v = true ∧ ∀ {e : D} {w : V}, e.flat = true → RepD H e w → eqV w v = PyData.eqv e.py d.py := by
  cases d with
  | non => cases (show v = .non from r); exact ⟨rfl, fun {e w} he re => by cases e <;> first | (cases he; done) | (cases re; rfl)⟩
  | bl b => cases (show v = .bl b from r); exact ⟨rfl, fun {e w} he re => by cases e <;> first | (cases he; done) | (cases re; rfl)⟩
  | int b => cases (show v = .int b from r); exact ⟨rfl, fun {e w} he re => by cases e <;> first | (cases he; done) | (cases re; rfl)⟩
  | str b => cases (show v = .str b from r); exact ⟨rfl, fun {e w} he re => by cases e <;> first | (cases he; done) | (cases re; rfl)⟩
  | _ => cases h
theorem flat_all {H : Hp} : ∀ {ds : List D} {vs : List V}, ds.all D.flat = true → RepL H ds vs → vs.all flatV = true
  | [], _, _, r => by rw [show _ = [] from r]; rfl
  | d :: ds, _, h, ⟨v, r, e, h1, h2⟩ => by
    rw [List.all_cons, Bool.and_eq_true] at h
    rw [e, List.all_cons, (flat_rep h.1 h1).1, flat_all h.2 h2]
    rfl
theorem flat_any {H : Hp} {x : D} {vx : V} (hx : x.flat = true) (rx : RepD H x vx) : ∀ {ds : List D} {vs : List V}, ds.all D.flat = true → RepL H ds vs → inV vx vs = ds.any fun z => PyData.eqv z.py x.py
  | [], _, _, r => by rw [show _ = [] from r]; rfl
  | d :: ds, _, h, ⟨v, r, e, h1, h2⟩ => by
    rw [List.all_cons, Bool.and_eq_true] at h
    rw [e, List.any_cons, ← flat_any hx rx h.2 h2, ← (flat_rep hx rx).2 h.1 h1]
    rfl
theorem pyL_any (f : PyData → Bool) : ∀ ds : List D, (pyL ds).any f = ds.any fun z => f z.py
  | [] => rfl
  | d :: ds => by rw [List.any_cons, ← pyL_any f ds]; rfl
theorem in_core {K : PySem.W.Frag} {x y : D} {vx vy : V} {H : Hp} {b : Bool} (rx : RepD H x vx) (ry : RepD H y vy) (e : D.innB x y = .ok b) :
    (∀ Q : VK, Q (.bl b) H → rInA K vx vy H Q) ∧ ∀ Q : VK, Q (.bl (!b)) H → rNotInA K vx vy H Q := by
  cases y with
  | str z =>
    cases x with
    | str w =>
      by_cases hw : (w.cps.size == 1) = true
      · have e' : R.ok (decide (w.cps.getD 0 0 ∈ z.cps.toList)) = R.ok b := by
          have e := e
          unfold D.innB at e
          simp only [if_pos hw] at e
          exact e
        cases e'
        have hc : w = ⟨#[w.cps.getD 0 0]⟩ := by
          have h1 : w.cps.size = 1 := by simpa using hw
          obtain ⟨c⟩ := w
          congr 1
          apply Array.ext
          · simpa using h1
          · intro i h2 h3
            have : i = 0 := by simp at h1; omega
            subst this
            simp [Array.getD, h1]
        have ex : vx = .str ⟨#[w.cps.getD 0 0]⟩ := by rw [← hc]; exact rx
        exact ⟨fun Q q => .inl ⟨_, z, ex, ry, q⟩, fun Q q => .inl ⟨_, z, ex, ry, q⟩⟩
      · have e' : R.ok (!(Builtin.Str.occurrences z w 0 z.length 1).isEmpty) = R.ok b := by
          have e := e
          unfold D.innB at e
          simp only [if_neg hw] at e
          exact e
        cases e'
        exact ⟨fun Q q => .inr (.inl ⟨w, z, rx, ry, q⟩), fun Q q => .inr (.inl ⟨w, z, rx, ry, q⟩)⟩
    | _ => cases e
  | lst ds =>
    have e' : (if x.flat && ds.all D.flat then R.ok (ds.any fun z => PyData.eqv z.py x.py) else
      if x.shp && (D.lst ds).shp then .ok (ds.any fun z => PyData.eqv z.py x.py) else .stuck) = .ok b := by cases x <;> exact e
    obtain ⟨p, vs, ev, hp, hl⟩ := id ry
    by_cases c : (x.flat && ds.all D.flat) = true
    · rw [if_pos c] at e'
      cases e'
      rw [Bool.and_eq_true] at c
      have q1 := flat_any c.1 rx c.2 hl
      exact ⟨fun Q q => .inr (.inr (.inl ⟨p, vs, ev, .inl (SqL.of hp), (flat_rep c.1 rx).1, flat_all c.2 hl, by rw [if_neg Bool.false_ne_true, q1]; exact q⟩)),
        fun Q q => .inr (.inr (.inl ⟨p, vs, ev, .inl (SqL.of hp), (flat_rep c.1 rx).1, flat_all c.2 hl, by rw [if_pos rfl, q1]; exact q⟩))⟩
    · rw [if_neg c] at e'
      by_cases c2 : (x.shp && (D.lst ds).shp) = true
      · rw [if_pos c2] at e'
        cases e'
        rw [Bool.and_eq_true] at c2
        have d1 := RepD.dp (K := K) x vx rx (SeqAt.canLay_of_shaped c2.1)
        have d2 : Dp K H vy (.list (pyL ds)) := RepD.dp (K := K) (.lst ds) vy ry (SeqAt.canLay_of_shaped c2.2)
        exact ⟨fun Q q => .inr (.inr (.inr (.inl (.inl ⟨x.py, pyL ds, d1, d2, c2.1, c2.2, by rw [pyL_any]; exact q⟩)))), fun Q q => .inr (.inr (.inr (.inl (.inl ⟨x.py, pyL ds, d1, d2, c2.1, c2.2, by rw [pyL_any]; exact q⟩))))⟩
      · rw [if_neg c2] at e'; cases e'
  | tup ds =>
    have e' : (if x.flat && ds.all D.flat then R.ok (ds.any fun z => PyData.eqv z.py x.py) else
      if x.shp && (D.tup ds).shp then .ok (ds.any fun z => PyData.eqv z.py x.py) else .stuck) = .ok b := by cases x <;> exact e
    obtain ⟨p, vs, ev, hp, hl⟩ := id ry
    by_cases c : (x.flat && ds.all D.flat) = true
    · rw [if_pos c] at e'
      cases e'
      rw [Bool.and_eq_true] at c
      have q1 := flat_any c.1 rx c.2 hl
      exact ⟨fun Q q => .inr (.inr (.inl ⟨p, vs, ev, .inr (SqT.of hp), (flat_rep c.1 rx).1, flat_all c.2 hl, by rw [if_neg Bool.false_ne_true, q1]; exact q⟩)),
        fun Q q => .inr (.inr (.inl ⟨p, vs, ev, .inr (SqT.of hp), (flat_rep c.1 rx).1, flat_all c.2 hl, by rw [if_pos rfl, q1]; exact q⟩))⟩
    · rw [if_neg c] at e'
      by_cases c2 : (x.shp && (D.tup ds).shp) = true
      · rw [if_pos c2] at e'
        cases e'
        rw [Bool.and_eq_true] at c2
        have d1 := RepD.dp (K := K) x vx rx (SeqAt.canLay_of_shaped c2.1)
        have d2 : Dp K H vy (.tuple (pyL ds)) := RepD.dp (K := K) (.tup ds) vy ry (SeqAt.canLay_of_shaped c2.2)
        exact ⟨fun Q q => .inr (.inr (.inr (.inl (.inr ⟨x.py, pyL ds, d1, d2, c2.1, c2.2, by rw [if_neg Bool.false_ne_true, pyL_any]; exact q⟩)))), fun Q q => .inr (.inr (.inr (.inl (.inr ⟨x.py, pyL ds, d1, d2, c2.1, c2.2, by rw [if_pos rfl, pyL_any]; exact q⟩))))⟩
      · rw [if_neg c2] at e'; cases e'
  | dK ks ds =>
    have e' : ((D.dK ks ds).dget x).bind (fun o => R.ok o.isSome) = .ok b := by cases x <;> exact e
    obtain ⟨o, h1, h2⟩ := R.bind_eq_ok e'
    cases h2
    obtain ⟨p, w, ev, g, m⟩ := dget_rep h1 ry rx
    have hw : o.isSome = w.isSome := by
      cases o with
      | some d => obtain ⟨v, ew, _⟩ := m; rw [ew]; rfl
      | none => rw [show w = none from m]; rfl
    rw [hw]
    exact ⟨fun Q q => .inr (.inr (.inr (.inr ⟨p, w, ev, g, q⟩))), fun Q q => .inr (.inr (.inr (.inr ⟨p, w, ev, g, q⟩)))⟩
  | dT ks ds =>
    have e' : ((D.dT ks ds).dget x).bind (fun o => R.ok o.isSome) = .ok b := by cases x <;> exact e
    obtain ⟨o, h1, h2⟩ := R.bind_eq_ok e'
    cases h2
    obtain ⟨p, w, ev, g, m⟩ := dget_rep h1 ry rx
    have hw : o.isSome = w.isSome := by
      cases o with
      | some d => obtain ⟨v, ew, _⟩ := m; rw [ew]; rfl
      | none => rw [show w = none from m]; rfl
    rw [hw]
    exact ⟨fun Q q => .inr (.inr (.inr (.inr ⟨p, w, ev, g, q⟩))), fun Q q => .inr (.inr (.inr (.inr ⟨p, w, ev, g, q⟩)))⟩
  | _ => cases x <;> cases e
theorem bindB_ex {r : R Bool} {f : Bool → D} {x : Xc} (h : ∀ x, r ≠ .ex x) : (r.bind fun b => .ok (f b)) ≠ .ex x := by
  cases r with
  | ok b => exact fun z => nomatch z
  | ex y => exact absurd rfl (h y)
  | stuck => exact fun z => nomatch z
theorem os_inn {K : PySem.W.Frag} : OpS (rInA K) D.inn := ⟨fun a b x => bindB_ex fun x => D.innB_ex, fun a b va vb H Q d ra rb e q => by
    obtain ⟨c, h1, h2⟩ := R.bind_eq_ok e
    cases h2
    exact (in_core ra rb h1).1 Q (q _ fun _ => rfl)⟩
theorem os_notin {K : PySem.W.Frag} : OpS (rNotInA K) D.notin := ⟨fun a b x => bindB_ex fun x => D.innB_ex, fun a b va vb H Q d ra rb e q => by
    obtain ⟨c, h1, h2⟩ := R.bind_eq_ok e
    cases h2
    exact (in_core ra rb h1).2 Q (q _ fun _ => rfl)⟩
end Mi
/-! MiE: built-in calls, slices, sums of texts and lists. -/
namespace Mi
open PySem L2

/-! ### len -/
def rLenA (K : PySem.W.Frag) : List V → Hp → VK → Prop := fun xs H Q => (∃ x n, xs = [x] ∧ LenV K x H n ∧ Q (.int n) H) ∨ ((∃ d kvs, xs = [.ref d] ∧ H d = some (.dK kvs) ∧ Q (.int kvs.length) H))
theorem call_lenK {X : Cx} : CallR X (.builtin "len") (fun xs H Q => ∃ d kvs, xs = [.ref d] ∧ H d = some (.dK kvs) ∧ Q (.int kvs.length) H) := by
  intro pins s σ H xs us Q I r h
  obtain ⟨d, kvs, rfl, hd, q⟩ := h
  rw [Vals.ref1 r]
  exact d_len I (.inl hd) fun t s' I' => ⟨.int _, H, I', ⟨t, rfl⟩, q⟩
theorem call_lenA {X : Cx} : CallR X (.builtin "len") (rLenA X.K) := call_len.or call_lenK
def fLen : List D → R D
  | [.lst ds] => .ok (.int ds.length)
  | [.tup ds] => .ok (.int ds.length)
  | [.str z] => if small z.length then .ok (.int z.length) else .stuck
  | [.dK ks ds] => .ok (.int ks.length)
  | _ => .stuck
section
variable {K : PySem.W.Frag}
theorem RepL.one {F : Hp} {d : D} {vs : List V} (h : RepL F [d] vs) : ∃ v, vs = [v] ∧ RepD F d v := by
  obtain ⟨v, r, e, h1, h2⟩ := h
  exact ⟨v, by rw [e, show r = [] from h2], h1⟩
theorem RepL.two {F : Hp} {d e : D} {vs : List V} (h : RepL F [d, e] vs) : ∃ v w, vs = [v, w] ∧ RepD F d v ∧ RepD F e w := by
  obtain ⟨v, r, e1, h1, h2⟩ := h
  obtain ⟨w, e2, h3⟩ := h2.one
  exact ⟨v, w, by rw [e1, e2], h1, h3⟩
theorem cs_len : CallS (rLenA K) fLen := by
  refine ⟨fun ds x => ?_, fun ds vs H Q d r e q => ?_⟩
  · unfold fLen
    split <;> first | (split <;> exact fun h => nomatch h) | exact fun h => nomatch h
  · unfold fLen at e
    split at e
    · cases e
      obtain ⟨v, rfl, a, vs, rfl, hp, hl⟩ := r.one
      exact .inl ⟨_, _, rfl, .inl ⟨vs, SqL.of hp, (RepL.len _ _ hl).symm⟩, q _ fun _ => rfl⟩
    · cases e
      obtain ⟨v, rfl, a, vs, rfl, hp, hl⟩ := r.one
      exact .inl ⟨_, _, rfl, .inr ⟨vs, SqT.of hp, (RepL.len _ _ hl).symm⟩, q _ fun _ => rfl⟩
    · rename_i z
      obtain ⟨v, rfl, rv⟩ := r.one
      cases (show v = .str z from rv)
      by_cases c : small z.length = true
      · rw [if_pos c] at e
        cases e
        exact .inl ⟨_, _, rfl, ⟨small_le c, rfl⟩, q _ fun _ => rfl⟩
      · rw [if_neg c] at e; cases e
    · cases e
      rename_i ks ds
      obtain ⟨v, rfl, a, kvs, rfl, hp, hk, hl⟩ := r.one
      refine .inr ⟨a, kvs, rfl, hp, q _ fun _ => ?_⟩
      show V.int _ = V.int _
      rw [← hk, List.length_map]
    · cases e

/-! ### int, abs, max, min, bool -/
abbrev rInt1 : List V → Hp → VK → Prop := fun xs H Q => (∃ i, xs = [.int i] ∧ Q (.int i) H) ∨ ∃ k, xs = [.bl k] ∧ Q (.int (if k then 1 else 0)) H
def fInt : List D → R D
  | [.int i] => .ok (.int i)
  | [.bl b] => .ok (.int (if b then 1 else 0))
  | _ => .stuck
theorem cs_int : CallS rInt1 fInt := by
  refine ⟨fun ds x => ?_, fun ds vs H Q d r e q => ?_⟩
  · unfold fInt; split <;> exact fun h => nomatch h
  · unfold fInt at e
    split at e
    · cases e
      obtain ⟨v, rfl, rv⟩ := r.one
      exact .inl ⟨_, by rw [show v = _ from rv], q _ fun _ => rfl⟩
    · cases e
      obtain ⟨v, rfl, rv⟩ := r.one
      exact .inr ⟨_, by rw [show v = _ from rv], q _ fun _ => rfl⟩
    · cases e
abbrev rAbs1 : List V → Hp → VK → Prop := fun xs H Q => ∃ i, xs = [.int i] ∧ Q (.int (if i < 0 then -i else i)) H
def fAbs : List D → R D
  | [.int i] => .ok (.int (if i < 0 then -i else i))
  | _ => .stuck
theorem cs_abs : CallS rAbs1 fAbs := by
  refine ⟨fun ds x => ?_, fun ds vs H Q d r e q => ?_⟩
  · unfold fAbs; split <;> exact fun h => nomatch h
  · unfold fAbs at e
    split at e
    · cases e
      obtain ⟨v, rfl, rv⟩ := r.one
      exact ⟨_, by rw [show v = _ from rv], q _ fun _ => rfl⟩
    · cases e
abbrev rMax2 : List V → Hp → VK → Prop := fun xs H Q => ∃ i j, xs = [.int i, .int j] ∧ Q (.int (if j > i then j else i)) H
abbrev rMin2 : List V → Hp → VK → Prop := fun xs H Q => ∃ i j, xs = [.int i, .int j] ∧ Q (.int (if j < i then j else i)) H
def fMax2 : List D → R D
  | [.int i, .int j] => .ok (.int (if j > i then j else i))
  | _ => .stuck
def fMin2 : List D → R D
  | [.int i, .int j] => .ok (.int (if j < i then j else i))
  | _ => .stuck
theorem cs_max2 : CallS rMax2 fMax2 := by
  refine ⟨fun ds x => ?_, fun ds vs H Q d r e q => ?_⟩
  · unfold fMax2; split <;> exact fun h => nomatch h
  · unfold fMax2 at e
    split at e
    · cases e
      obtain ⟨v, w, rfl, rv, rw'⟩ := r.two
      exact ⟨_, _, by rw [show v = _ from rv, show w = _ from rw'], q _ fun _ => rfl⟩
    · cases e
theorem cs_min2 : CallS rMin2 fMin2 := by
  refine ⟨fun ds x => ?_, fun ds vs H Q d r e q => ?_⟩
  · unfold fMin2; split <;> exact fun h => nomatch h
  · unfold fMin2 at e
    split at e
    · cases e
      obtain ⟨v, w, rfl, rv, rw'⟩ := r.two
      exact ⟨_, _, by rw [show v = _ from rv, show w = _ from rw'], q _ fun _ => rfl⟩
    · cases e
def fGcd : List D → R D
  | [.int a, .int b] => .ok (.int ((Nat.gcd a.natAbs b.natAbs : Nat) : Int))
  | _ => .stuck
theorem cs_gcd : CallS rGcd fGcd := by
  refine ⟨fun ds x => ?_, fun ds vs H Q d r e q => ?_⟩
  · unfold fGcd; split <;> exact fun h => nomatch h
  · unfold fGcd at e
    split at e
    · cases e
      obtain ⟨v, w, rfl, rv, rw'⟩ := r.two
      exact ⟨_, _, by rw [show v = _ from rv, show w = _ from rw'], q _ fun _ => rfl⟩
    · cases e

/-! ### list(x), tuple(x) -/
def rListO (K : PySem.W.Frag) : List V → Hp → VK → Prop := fun xs H Q => ∃ p ys, xs = [.ref p] ∧ (SqL K H p ys ∨ SqT K H p ys) ∧ ∀ l, H l = none → Q (.ref l) (upd H l (.lst ys))
def rTupO (K : PySem.W.Frag) : List V → Hp → VK → Prop := fun xs H Q => ∃ p ys, xs = [.ref p] ∧ ((SqL K H p ys ∧ ∀ l, H l = none → Q (.ref l) (upd H l (.tup ys))) ∨ (SqT K H p ys ∧ Q (.ref p) H))
theorem call_listO {X : Cx} : CallR X (.type "list") (rListO X.K) := call_list_of
theorem call_tupO {X : Cx} : CallR X (.type "tuple") (rTupO X.K) := call_tuple_of
def fList : List D → R D
  | [.lst ds] => .ok (.lst ds)
  | [.tup ds] => .ok (.lst ds)
  | _ => .stuck
def fTup : List D → R D
  | [.lst ds] => .ok (.tup ds)
  | [.tup ds] => .ok (.tup ds)
  | _ => .stuck
theorem co_list : CallO (rListO K) fList := by
  refine ⟨fun ds x => ?_, fun ds vs F H Q d hs r e q => ?_⟩
  · unfold fList; split <;> exact fun h => nomatch h
  · unfold fList at e
    split at e
    · cases e
      obtain ⟨v, rfl, a, vs, rfl, hp, hl⟩ := r.one
      exact ⟨a, vs, rfl, .inl (SqL.of (hs _ _ hp)), fun l hn => q _ _ (one l) (Ev.newO hs hn) (RepM.newL hs hn hl) (fun b z => by rw [one_pos z]; exact hn) (one_le l)⟩
    · cases e
      obtain ⟨v, rfl, a, vs, rfl, hp, hl⟩ := r.one
      exact ⟨a, vs, rfl, .inr (SqT.of (hs _ _ hp)), fun l hn => q _ _ (one l) (Ev.newO hs hn) (RepM.newL hs hn hl) (fun b z => by rw [one_pos z]; exact hn) (one_le l)⟩
    · cases e
theorem cg_tup : CallG (rTupO K) fTup := by
  refine ⟨fun ds x => ?_, fun ds vs F H Q d hs r e q => ?_⟩
  · unfold fTup; split <;> exact fun h => nomatch h
  · unfold fTup at e
    split at e
    · cases e
      obtain ⟨v, rfl, a, vs, rfl, hp, hl⟩ := r.one
      refine ⟨a, vs, rfl, .inl ⟨SqL.of (hs _ _ hp), fun l hn => ?_⟩⟩
      have ev := Ev.new (o := .tup vs) hs hn
      exact q _ _ _ ev ⟨l, vs, rfl, upd_same, RepL.up ev.ext _ _ hl⟩
    · cases e
      obtain ⟨v, rfl, a, vs, rfl, hp, hl⟩ := r.one
      exact ⟨a, vs, rfl, .inr ⟨SqT.of (hs _ _ hp), q _ _ _ (Ev.refl hs) ⟨a, vs, rfl, hp, hl⟩⟩⟩
    · cases e

/-! ### any, all, sum -/
def blsOf : List D → Option (List Bool)
  | [] => some []
  | .bl b :: ds => (blsOf ds).map (b :: ·)
  | _ => none
def intsOf : List D → Option (List Int)
  | [] => some []
  | .int b :: ds => (intsOf ds).map (b :: ·)
  | _ => none
def strsOf : List D → Option (List Str)
  | [] => some []
  | .str b :: ds => (strsOf ds).map (b :: ·)
  | _ => none
theorem blsOf_eq : ∀ {ds : List D} {bs : List Bool}, blsOf ds = some bs → ds = bs.map D.bl
  | [], _, h => by cases h; rfl
  | d :: ds, _, h => by
    cases d <;> first | (cases h; done) | skip
    cases q : blsOf ds with
    | none => simp [blsOf, q] at h
    | some cs =>
      have e := blsOf_eq q
      simp [blsOf, q] at h
      rw [← h, e]; rfl
theorem intsOf_eq : ∀ {ds : List D} {bs : List Int}, intsOf ds = some bs → ds = bs.map D.int
  | [], _, h => by cases h; rfl
  | d :: ds, _, h => by
    cases d <;> first | (cases h; done) | skip
    cases q : intsOf ds with
    | none => simp [intsOf, q] at h
    | some cs =>
      have e := intsOf_eq q
      simp [intsOf, q] at h
      rw [← h, e]; rfl
theorem strsOf_eq : ∀ {ds : List D} {bs : List Str}, strsOf ds = some bs → ds = bs.map D.str
  | [], _, h => by cases h; rfl
  | d :: ds, _, h => by
    cases d <;> first | (cases h; done) | skip
    cases q : strsOf ds with
    | none => simp [strsOf, q] at h
    | some cs =>
      have e := strsOf_eq q
      simp [strsOf, q] at h
      rw [← h, e]; rfl
@[simp] theorem intsOf_map (ns : List Int) : intsOf (ns.map D.int) = some ns := by
  induction ns with
  | nil => rfl
  | cons n ns ih => simp [intsOf, ih]
@[simp] theorem blsOf_map (ns : List Bool) : blsOf (ns.map D.bl) = some ns := by
  induction ns with
  | nil => rfl
  | cons n ns ih => simp [blsOf, ih]
@[simp] theorem strsOf_map (ns : List Str) : strsOf (ns.map D.str) = some ns := by
  induction ns with
  | nil => rfl
  | cons n ns ih => simp [strsOf, ih]
def fAny : List D → R D
  | [.lst ds] => match blsOf ds with
    | some bs => .ok (.bl (bs.any id))
    | none => .stuck
  | _ => .stuck
def fAll : List D → R D
  | [.lst ds] => match blsOf ds with
    | some bs => .ok (.bl (bs.all id))
    | none => .stuck
  | _ => .stuck
def fSum : List D → R D
  | [.lst ds] => match intsOf ds with
    | some bs => .ok (.int bs.sum)
    | none => .stuck
  | _ => .stuck
theorem cs_any : CallS (rAny K) fAny := by
  refine ⟨fun ds x => ?_, fun ds vs H Q d r e q => ?_⟩
  · unfold fAny; split <;> first | (split <;> exact fun h => nomatch h) | exact fun h => nomatch h
  · unfold fAny at e
    split at e
    · rename_i ds
      cases hb : blsOf ds with
      | none => rw [hb] at e; cases e
      | some bs =>
        rw [hb] at e
        cases e
        obtain ⟨v, rfl, a, vs, rfl, hp, hl⟩ := r.one
        rw [blsOf_eq hb] at hl
        exact ⟨a, bs, rfl, SqL.of (by rw [hp, RepL.bls hl]), q _ fun _ => rfl⟩
    · cases e
theorem cs_all : CallS (rAll K) fAll := by
  refine ⟨fun ds x => ?_, fun ds vs H Q d r e q => ?_⟩
  · unfold fAll; split <;> first | (split <;> exact fun h => nomatch h) | exact fun h => nomatch h
  · unfold fAll at e
    split at e
    · rename_i ds
      cases hb : blsOf ds with
      | none => rw [hb] at e; cases e
      | some bs =>
        rw [hb] at e
        cases e
        obtain ⟨v, rfl, a, vs, rfl, hp, hl⟩ := r.one
        rw [blsOf_eq hb] at hl
        exact ⟨a, bs, rfl, SqL.of (by rw [hp, RepL.bls hl]), q _ fun _ => rfl⟩
    · cases e
theorem cs_sum : CallS (rSum K) fSum := by
  refine ⟨fun ds x => ?_, fun ds vs H Q d r e q => ?_⟩
  · unfold fSum; split <;> first | (split <;> exact fun h => nomatch h) | exact fun h => nomatch h
  · unfold fSum at e
    split at e
    · rename_i ds
      cases hb : intsOf ds with
      | none => rw [hb] at e; cases e
      | some bs =>
        rw [hb] at e
        cases e
        obtain ⟨v, rfl, a, vs, rfl, hp, hl⟩ := r.one
        rw [intsOf_eq hb] at hl
        exact ⟨a, bs, rfl, SqL.of (by rw [hp, RepL.ints hl]), q _ fun _ => rfl⟩
    · cases e

/-! ### sorted -/
def ins (x : Int) : List Int → List Int
  | [] => [x]
  | y :: ys => if x ≤ y then x :: y :: ys else y :: ins x ys
def isort : List Int → List Int
  | [] => []
  | x :: xs => ins x (isort xs)
theorem ins_perm (x : Int) : ∀ ys, (ins x ys).Perm (x :: ys)
  | [] => .refl _
  | y :: ys => by
    unfold ins
    split
    · exact .refl _
    · exact ((ins_perm x ys).cons y).trans (.swap x y ys)
theorem isort_perm : ∀ xs, (isort xs).Perm xs
  | [] => .refl _
  | x :: xs => (ins_perm x (isort xs)).trans ((isort_perm xs).cons x)
theorem ins_up (x : Int) : ∀ ys, ys.Pairwise (· ≤ ·) → (ins x ys).Pairwise (· ≤ ·)
  | [], _ => List.pairwise_singleton _ _
  | y :: ys, h => by
    unfold ins
    obtain ⟨h1, h2⟩ := List.pairwise_cons.mp h
    by_cases c : x ≤ y
    · rw [if_pos c]
      exact List.pairwise_cons.mpr ⟨fun z hz => (List.mem_cons.mp hz).elim (fun e => by rw [e]; exact c) fun e => Int.le_trans c (h1 z e), h⟩
    · rw [if_neg c]
      refine List.pairwise_cons.mpr ⟨fun z hz => ?_, ins_up x ys h2⟩
      rcases List.mem_cons.mp ((ins_perm x ys).mem_iff.mp hz) with e | e
      · rw [e]; omega
      · exact h1 z e
theorem isort_up : ∀ xs, (isort xs).Pairwise (· ≤ ·)
  | [] => .nil
  | x :: xs => ins_up x _ (isort_up xs)
theorem isort_eq {xs ys : List Int} (p : ys.Perm xs) (h : ys.Pairwise (· ≤ ·)) : ys = isort xs :=
  (p.trans (isort_perm xs).symm).eq_of_pairwise (le := (· ≤ ·)) (fun a b _ _ h1 h2 => Int.le_antisymm h1 h2) h (isort_up xs)
def fSorted : List D → R D
  | [.lst ds] => match intsOf ds with
    | some ns => .ok (.lst ((isort ns).map D.int))
    | none => .stuck
  | _ => .stuck
theorem co_sorted : CallO (rSortedI K) fSorted := by
  refine ⟨fun ds x => ?_, fun ds vs F H Q d hs r e q => ?_⟩
  · unfold fSorted; split <;> first | (split <;> exact fun h => nomatch h) | exact fun h => nomatch h
  · unfold fSorted at e
    split at e
    · rename_i ds
      cases hb : intsOf ds with
      | none => rw [hb] at e; cases e
      | some ns =>
        rw [hb] at e
        cases e
        obtain ⟨v, rfl, a, vs, rfl, hp, hl⟩ := r.one
        rw [intsOf_eq hb] at hl
        refine ⟨a, ns, rfl, SqL.of (by rw [hs _ _ hp, RepL.ints hl]), fun ns' p pm up hn => ?_⟩
        rw [isort_eq pm up]
        exact q _ _ (one p) (Ev.newO hs hn) (RepM.newL hs hn (RepL.of_ints _)) (fun b z => by rw [one_pos z]; exact hn) (one_le p)
    · cases e

/-! ### list(range(..)) -/
def mRg1 (a : ME) : Rho → R (Int × Int) := fun ρ => (a ρ).bind fun d => match d with
  | .int n => .ok (0, n)
  | _ => .stuck
def mRg2 (a b : ME) : Rho → R (Int × Int) := fun ρ => (a ρ).bind fun d => (b ρ).bind fun e => match d, e with
  | .int m, .int n => .ok (m, n)
  | _, _ => .stuck
def rgI (a b : Int) : List Int := (List.range (b - a).toNat).map fun i => a + (i : Nat)
def rgOk (a b : Int) : Bool := decide (-(2 ^ 62) ≤ a) && decide (a < 2 ^ 62) && decide (-(2 ^ 62) ≤ b) && decide (b < 2 ^ 62) && Nat.ble (b - a).toNat 100000
theorem rgOk_ok {a b : Int} (h : rgOk a b = true) : RgOk a b := by
  unfold rgOk at h
  simp only [Bool.and_eq_true] at h
  obtain ⟨⟨⟨⟨h1, h2⟩, h3⟩, h4⟩, h5⟩ := h
  exact ⟨of_decide_eq_true h1, of_decide_eq_true h2, of_decide_eq_true h3, of_decide_eq_true h4, Nat.le_trans (Nat.le_of_ble_eq_true h5) (by decide)⟩
theorem rgV_eq (a b : Int) : rgV a b = (rgI a b).map V.int := by unfold rgV rgI; rw [List.map_map]; rfl
def mLstRg (r : Rho → R (Int × Int)) : ME := fun ρ => (r ρ).bind fun p => if rgOk p.1 p.2 then .ok (.lst ((rgI p.1 p.2).map D.int)) else .stuck
def mTupRg (r : Rho → R (Int × Int)) : ME := fun ρ => (r ρ).bind fun p => if rgOk p.1 p.2 then .ok (.tup ((rgI p.1 p.2).map D.int)) else .stuck
variable {mg : Str → Option Value} {W : WX} {μ : List Mk} {ta tb te : TE} {ea eb e : ME}
def SimRg (mg : Str → Option Value) (W : WX) (μ : List Mk) (t : St → Hp → (Int → Int → Hp → Prop) → Prop) (e : Rho → R (Int × Int)) : Prop := ∀ ρ σ F H c, Stt μ ρ σ F H c → ∀ Q : Int → Int → Hp → Prop,
  (∀ p F' H', e ρ = .ok p → Ev F H F' H' → Q p.1 p.2 H') →
  (∀ x cls dd F' H', e ρ = .ex x → Ev F H F' H' → RepX mg x cls dd H' → W cls dd σ H') → e ρ ≠ .stuck → t σ H Q
theorem srg_1 (ha : SimR mg W μ ta ea) : SimRg mg W μ (tRg1 ta) (mRg1 ea) := fun ρ σ F H c st Q q x ns => by
  have fx : mRg1 ea ρ = (ea ρ).bind fun d => match d with | .int n => .ok ((0 : Int), n) | _ => .stuck := rfl
  refine ha ρ σ F H c st _ (fun d v F' H' e1 ev r => ?_) (fun y cls dd F' H' e1 ev rx => x y cls dd F' H' (by rw [fx, e1]; rfl) ev rx) (fun z => ns (by rw [fx, z]; rfl))
  rw [e1] at fx
  cases d with
  | int n => exact ⟨n, r, q (0, n) F' H' fx ev⟩
  | _ => exact absurd fx ns
theorem srg_2 (ha : SimR mg W μ ta ea) (hb : SimR mg W μ tb eb) : SimRg mg W μ (tRg2 ta tb) (mRg2 ea eb) := fun ρ σ F H c st Q q x ns => by
  have fx : mRg2 ea eb ρ = (ea ρ).bind fun d => (eb ρ).bind fun e => match d, e with | .int m, .int n => .ok (m, n) | _, _ => .stuck := rfl
  refine ha ρ σ F H c st _ (fun d v F1 H1 e1 ev1 r1 => ?_) (fun y cls dd F' H' e1 ev rx => x y cls dd F' H' (by rw [fx, e1]; rfl) ev rx) (fun z => ns (by rw [fx, z]; rfl))
  rw [e1] at fx
  have fx : mRg2 ea eb ρ = (eb ρ).bind fun e => match d, e with | .int m, .int n => .ok (m, n) | _, _ => .stuck := fx
  refine hb ρ σ F1 H1 c (st.ev ev1) _ (fun d2 v2 F2 H2 e2 ev2 r2 => ?_) (fun y cls dd F' H' e2 ev rx => x y cls dd F' H' (by rw [fx, e2]; rfl) (ev1.trans ev) rx) (fun z => ns (by rw [fx, z]; rfl))
  rw [e2] at fx
  cases d with
  | int m =>
    cases d2 with
    | int n => exact ⟨m, n, r1, r2, q (m, n) F2 H2 fx (ev1.trans ev2)⟩
    | _ => exact absurd fx ns
  | _ => exact absurd fx ns
theorem sim_lstRg {t : St → Hp → (Int → Int → Hp → Prop) → Prop} {r : Rho → R (Int × Int)} (h : SimRg mg W μ t r) : SimP mg W μ (tLstRg t) (mLstRg r) (.ow .sh) := fun ρ σ F H c st Q q x ns => by
  have fx : mLstRg r ρ = (r ρ).bind fun p => if rgOk p.1 p.2 then .ok (.lst ((rgI p.1 p.2).map D.int)) else .stuck := rfl
  refine h ρ σ F H c st _ (fun p F' H' e1 ev => ?_) (fun y cls dd F' H' e1 ev rx => x y cls dd F' H' (by rw [fx, e1]; rfl) ev rx) (fun z => ns (by rw [fx, z]; rfl))
  rw [e1] at fx
  have fx : mLstRg r ρ = if rgOk p.1 p.2 then .ok (.lst ((rgI p.1 p.2).map D.int)) else .stuck := fx
  by_cases c : rgOk p.1 p.2 = true
  · rw [if_pos c] at fx
    refine ⟨rgOk_ok c, fun l hl => ?_⟩
    rw [rgV_eq]
    exact q _ _ F' _ (one l) fx (ev.trans (Ev.newO ev.sub hl)) (RepM.newL ev.sub hl (RepL.of_ints _)) (fun b z => by rw [one_pos z]; exact new_back ev hl) (one_le l)
  · rw [if_neg c] at fx; exact absurd fx ns
theorem sim_tupRg {t : St → Hp → (Int → Int → Hp → Prop) → Prop} {r : Rho → R (Int × Int)} (h : SimRg mg W μ t r) : SimP mg W μ (tTupRg t) (mTupRg r) .sh := fun ρ σ F H c st Q q x ns => by
  have fx : mTupRg r ρ = (r ρ).bind fun p => if rgOk p.1 p.2 then .ok (.tup ((rgI p.1 p.2).map D.int)) else .stuck := rfl
  refine h ρ σ F H c st _ (fun p F' H' e1 ev => ?_) (fun y cls dd F' H' e1 ev rx => x y cls dd F' H' (by rw [fx, e1]; rfl) ev rx) (fun z => ns (by rw [fx, z]; rfl))
  rw [e1] at fx
  have fx : mTupRg r ρ = if rgOk p.1 p.2 then .ok (.tup ((rgI p.1 p.2).map D.int)) else .stuck := fx
  by_cases c : rgOk p.1 p.2 = true
  · rw [if_pos c] at fx
    refine ⟨rgOk_ok c, fun l hl => ?_⟩
    rw [rgV_eq]
    have ev2 := Ev.new (o := .tup ((rgI p.1 p.2).map V.int)) ev.sub hl
    exact q _ _ _ _ (fun _ => 0) fx (ev.trans ev2) ⟨⟨l, _, rfl, upd_same, RepL.of_ints _⟩, fun _ => rfl⟩ (fun a z => absurd z (by decide)) fun _ => Nat.zero_le _
  · rw [if_neg c] at fx; exact absurd fx ns

/-! ### x + y -/
def rAddA (K : PySem.W.Frag) : R2 := fun x y H Q => rI0 (fun i j => .int (i + j)) x y H Q ∨ ((∃ i j, x = .str i ∧ y = .str j ∧ i.length + j.length ≤ sizeLine ∧ Q (.str (i ++ j)) H) ∨ (rCat x y H Q ∨ rCatA K x y H Q))
theorem op_addA {X : Cx} : OpR X (binaryOp .Add) (rAddA X.K) := op_add.or (op_add_str.or (op_cat.or op_catA))
def D.add : D → D → R D
  | .int a, .int b => .ok (.int (a + b))
  | .str a, .str b => if small (a.length + b.length) then .ok (.str (a ++ b)) else .stuck
  | .lst a, .lst b => if small (a.length + b.length) then .ok (.lst (a ++ b)) else .stuck
  | .tup a, .tup b => if small (a.length + b.length) then .ok (.tup (a ++ b)) else .stuck
  | _, _ => .stuck
theorem og_add : OpG (rAddA K) D.add := by
  refine ⟨fun a b x => ?_, fun a b va vb F H Q d hs ra rb e q => ?_⟩
  · unfold D.add; split <;> first | (split <;> exact fun h => nomatch h) | exact fun h => nomatch h
  · unfold D.add at e
    split at e
    · cases e
      exact .inl ⟨_, _, ra, rb, q _ F H (Ev.refl hs) rfl⟩
    · rename_i a b
      by_cases c : small (a.length + b.length) = true
      · rw [if_pos c] at e
        cases e
        exact .inr (.inl ⟨a, b, ra, rb, small_le c, q _ F H (Ev.refl hs) rfl⟩)
      · rw [if_neg c] at e; cases e
    · rename_i a b
      by_cases c : small (a.length + b.length) = true
      · rw [if_pos c] at e
        cases e
        obtain ⟨p, vs, e1, h1, l1⟩ := ra
        obtain ⟨p2, vs2, e2, h2, l2⟩ := rb
        refine .inr (.inr (.inl ⟨p, p2, vs, vs2, e1, e2, hs _ _ h1, hs _ _ h2, by rw [RepL.len _ _ l1, RepL.len _ _ l2]; exact small_le c, fun l hl => ?_⟩))
        have ev := Ev.new (o := .lst (vs ++ vs2)) hs hl
        exact q _ _ _ ev ⟨l, _, rfl, upd_same, RepL.up ev.ext _ _ (l1.append l2)⟩
      · rw [if_neg c] at e; cases e
    · rename_i a b
      by_cases c : small (a.length + b.length) = true
      · rw [if_pos c] at e
        cases e
        obtain ⟨p, vs, e1, h1, l1⟩ := ra
        obtain ⟨p2, vs2, e2, h2, l2⟩ := rb
        refine .inr (.inr (.inr ⟨p, p2, vs, vs2, e1, e2, SqT.of (hs _ _ h1), SqT.of (hs _ _ h2), by rw [RepL.len _ _ l1, RepL.len _ _ l2]; exact small_le c, fun z => ?_, fun z z2 => ?_, fun z z2 l hl => ?_⟩))
        · subst z
          have za : a = [] := List.eq_nil_of_length_eq_zero (by rw [← RepL.len _ _ l1]; rfl)
          subst za
          exact q _ F H (Ev.refl hs) ⟨p2, vs2, rfl, h2, l2⟩
        · subst z2
          have za : b = [] := List.eq_nil_of_length_eq_zero (by rw [← RepL.len _ _ l2]; rfl)
          subst za
          subst e1
          exact q _ F H (Ev.refl hs) ⟨p, vs, rfl, h1, by rw [List.append_nil]; exact l1⟩
        · have ev := Ev.new (o := .tup (vs ++ vs2)) hs hl
          exact q _ _ _ ev ⟨l, _, rfl, upd_same, RepL.up ev.ext _ _ (l1.append l2)⟩
      · rw [if_neg c] at e; cases e
    · cases e

/-! ### x * y: ints; a list times an int -/
def rMulS : R2 := fun x y H Q => ∃ (a : Str) (k : Int), x = .str a ∧ y = .int k ∧ MulOk a k ∧ Q (.str (Txt.mul a k)) H
theorem op_mulS {X : Cx} : OpR X (binaryOp .Mult) rMulS := by
  intro pins s σ H x y v u Q I rx ry h
  obtain ⟨a, k, rfl, rfl, hok, q⟩ := h
  obtain ⟨t, rfl⟩ := rx
  obtain ⟨t', rfl⟩ := ry
  exact SB.mul hok fun t' tk => ⟨.str (Txt.mul a k), H, I.tok _, ⟨_, rfl⟩, q⟩
def rMulA : R2 := fun x y H Q => rI CMul (fun i j => .int (i * j)) x y H Q ∨ (rRep x y H Q ∨ rMulS x y H Q)
theorem op_mulA {X : Cx} : OpR X (binaryOp .Mult) rMulA := op_mul.or (op_rep.or op_mulS)
theorem mulOk_of {a : Str} {k : Int} (h0 : 0 ≤ k) (h1 : k ≤ 100000) (h2 : a.length * k.toNat ≤ 100000) : MulOk a k := by
  refine ⟨?_, fun hn _ => ?_, fun _ _ => ?_⟩
  · rw [Bool.or_eq_false_iff]; exact ⟨decide_eq_false (by omega), decide_eq_false (by omega)⟩
  · have hk : 1 ≤ k.toNat := by omega
    have hl : a.length ≤ 100000 := Nat.le_trans (Nat.le_mul_of_pos_right _ hk) h2
    have hd : (100000 : Int) ≤ (2 ^ 63 - 1) / k := Int.le_ediv_of_mul_le (by omega) (by omega)
    omega
  · unfold Builtin.Str.tooLong
    rw [sizeLine_eq]
    exact decide_eq_false (by omega)
def D.mul : D → D → R D
  | .int a, .int b => if in64 a || in64 b then .ok (.int (a * b)) else .stuck
  | .lst a, .int k => if Nat.ble k.toNat 100000 && decide (-(2 ^ 63) ≤ k) && small (a.length * k.toNat) then .ok (.lst (List.replicate k.toNat a).flatten) else .stuck
  | .str a, .int k => if decide (0 ≤ k) && decide (k ≤ 100000) && small (a.length * k.toNat) then .ok (.str (Txt.mul a k)) else .stuck
  | _, _ => .stuck
theorem RepL.rep {F : Hp} {ds : List D} {vs : List V} (h : RepL F ds vs) : ∀ k : Nat, RepL F (List.replicate k ds).flatten (List.replicate k vs).flatten
  | 0 => rfl
  | k + 1 => by
    rw [List.replicate_succ, List.replicate_succ, List.flatten_cons, List.flatten_cons]
    exact h.append (RepL.rep h k)
theorem og_mul : OpG rMulA D.mul := by
  refine ⟨fun a b x => ?_, fun a b va vb F H Q d hs ra rb e q => ?_⟩
  · unfold D.mul; split <;> first | (split <;> exact fun h => nomatch h) | exact fun h => nomatch h
  · unfold D.mul at e
    split at e
    · rename_i a b
      by_cases c : (in64 a || in64 b) = true
      · rw [if_pos c] at e
        cases e
        rw [Bool.or_eq_true] at c
        exact .inl ⟨_, _, ra, rb, c.elim (fun z => .inl (in64_ok z)) (fun z => .inr (in64_ok z)), q _ F H (Ev.refl hs) rfl⟩
      · rw [if_neg c] at e; cases e
    · rename_i a k
      by_cases c : (Nat.ble k.toNat 100000 && decide (-(2 ^ 63) ≤ k) && small (a.length * k.toNat)) = true
      · rw [if_pos c] at e
        cases e
        rw [Bool.and_eq_true, Bool.and_eq_true] at c
        obtain ⟨p, vs, e1, h1, l1⟩ := ra
        have hk : k.toNat ≤ 100000 := Nat.le_of_ble_eq_true c.1.1
        refine .inr (.inl ⟨p, k, vs, e1, rb, hs _ _ h1, of_decide_eq_true c.1.2, by omega, by rw [RepL.len _ _ l1]; exact small_le c.2, fun l hl => ?_⟩)
        have ev := Ev.new (o := .lst (List.replicate k.toNat vs).flatten) hs hl
        exact q _ _ _ ev ⟨l, _, rfl, upd_same, RepL.up ev.ext _ _ (l1.rep _)⟩
      · rw [if_neg c] at e; cases e
    · rename_i a k
      by_cases c : (decide (0 ≤ k) && decide (k ≤ 100000) && small (a.length * k.toNat)) = true
      · rw [if_pos c] at e
        cases e
        rw [Bool.and_eq_true, Bool.and_eq_true] at c
        exact .inr (.inr ⟨a, k, ra, rb, mulOk_of (of_decide_eq_true c.1.1) (of_decide_eq_true c.1.2) (Nat.le_of_ble_eq_true c.2), q _ F H (Ev.refl hs) rfl⟩)
      · rw [if_neg c] at e; cases e
    · cases e
/-- [x] * n of one's own -/
def OpO (r : R2) (f : D → D → R D) : Prop := (∀ a b x, f a b ≠ .ex x) ∧ ∀ a b va vb (F H : Hp) (Q : VK) d, (∀ a o, F a = some o → H a = some o) → RepD F a va → RepD F b vb → f a b = .ok d →
  (∀ v H' cv, Ev F H F H' → RepM F H' (.ow .sh) d v cv → (∀ a, 0 < cv a → H a = none) → (∀ a, cv a ≤ 1) → Q v H') → r va vb H Q
def D.catL : D → D → R D
  | .lst a, .lst b => if small (a.length + b.length) then .ok (.lst (a ++ b)) else .stuck
  | _, _ => .stuck
def D.repL : D → D → R D
  | .lst a, .int k => if Nat.ble k.toNat 100000 && decide (-(2 ^ 63) ≤ k) && small (a.length * k.toNat) then .ok (.lst (List.replicate k.toNat a).flatten) else .stuck
  | _, _ => .stuck
theorem oo_cat : OpO (rAddA K) D.catL := by
  refine ⟨fun a b x => ?_, fun a b va vb F H Q d hs ra rb e q => ?_⟩
  · unfold D.catL; split <;> first | (split <;> exact fun h => nomatch h) | exact fun h => nomatch h
  · unfold D.catL at e
    split at e
    · rename_i a b
      by_cases c : small (a.length + b.length) = true
      · rw [if_pos c] at e
        cases e
        obtain ⟨p, vs, e1, h1, l1⟩ := ra
        obtain ⟨p2, vs2, e2, h2, l2⟩ := rb
        refine .inr (.inr (.inl ⟨p, p2, vs, vs2, e1, e2, hs _ _ h1, hs _ _ h2, by rw [RepL.len _ _ l1, RepL.len _ _ l2]; exact small_le c, fun l hl => ?_⟩))
        exact q _ _ (one l) (Ev.newO hs hl) (RepM.newL hs hl (l1.append l2)) (fun b z => by rw [one_pos z]; exact hl) (one_le l)
      · rw [if_neg c] at e; cases e
    · cases e
theorem oo_rep : OpO rMulA D.repL := by
  refine ⟨fun a b x => ?_, fun a b va vb F H Q d hs ra rb e q => ?_⟩
  · unfold D.repL; split <;> first | (split <;> exact fun h => nomatch h) | exact fun h => nomatch h
  · unfold D.repL at e
    split at e
    · rename_i a k
      by_cases c : (Nat.ble k.toNat 100000 && decide (-(2 ^ 63) ≤ k) && small (a.length * k.toNat)) = true
      · rw [if_pos c] at e
        cases e
        rw [Bool.and_eq_true, Bool.and_eq_true] at c
        obtain ⟨p, vs, e1, h1, l1⟩ := ra
        have hk : k.toNat ≤ 100000 := Nat.le_of_ble_eq_true c.1.1
        refine .inr (.inl ⟨p, k, vs, e1, rb, hs _ _ h1, of_decide_eq_true c.1.2, by omega, by rw [RepL.len _ _ l1]; exact small_le c.2, fun l hl => ?_⟩)
        exact q _ _ (one l) (Ev.newO hs hl) (RepM.newL hs hl (l1.rep _)) (fun b z => by rw [one_pos z]; exact hl) (one_le l)
      · rw [if_neg c] at e; cases e
    · cases e
theorem sim_opO {r : R2} {f : D → D → R D} (h : OpO r f) (ha : SimP mg W μ ta ea .sh) (hb : SimP mg W μ tb eb .sh) : SimP mg W μ (tOp r ta tb) (l2 f ea eb) (.ow .sh) := fun ρ σ F H c st Q q x ns => by
  have ns1 : ea ρ ≠ .stuck := bind_stuck (f := fun x => (eb ρ).bind fun y => f x y) ns
  refine ha ρ σ F H c st _ (fun d1 v1 F1 H1 cv1 e1 ev1 r1 _ _ => ?_) (fun y cls dd F' H' e1 ev rx => x y cls dd F' H' (bind_ex e1) ev rx) ns1
  have k1 : l2 f ea eb ρ = (eb ρ).bind fun y => f d1 y := by unfold l2; rw [e1]; rfl
  rw [k1] at ns
  refine hb ρ σ F1 H1 c (st.ev ev1) _ (fun d2 v2 F2 H2 cv2 e2 ev2 r2 _ _ => ?_) (fun y cls dd F' H' e2 ev rx => x y cls dd F' H' (k1.trans (bind_ex e2)) (ev1.trans ev) rx) (bind_stuck ns)
  have k2 : l2 f ea eb ρ = f d1 d2 := by rw [k1, e2]; rfl
  rw [e2] at ns
  cases hf : f d1 d2 with
  | ok d =>
    refine h.2 d1 d2 v1 v2 F2 H2 Q d ev2.sub (RepD.up ev2.ext _ _ r1.1) r2.1 hf fun v H3 cv ev3 r new one => ?_
    exact q d v F2 H3 cv (k2.trans hf) ((ev1.trans ev2).trans ev3) r (fun a z => new_back (ev1.trans ev2) (new a z)) one
  | ex y => exact absurd hf (h.1 d1 d2 y)
  | stuck => exact absurd hf ns

/-! ### slices -/
def rSlX (K : PySem.W.Frag) : V → Option Int → Option Int → Hp → VK → Prop := fun x lo hi H Q => rSlL K x lo hi H Q ∨ (rSlS x lo hi H Q ∨ rSlA K x lo hi H Q)
theorem sl_any {X : Cx} : SlR X (rSlX X.K) := sl_list.or (sl_str.or sl_tupA)
abbrev MO := Rho → R (Option Int)
def mNoPart : MO := fun _ => .ok none
def mPart (e : ME) : MO := fun ρ => (e ρ).bind fun d => match d with
  | .int i => .ok (some i)
  | _ => .stuck
def SimO (mg : Str → Option Value) (W : WX) (μ : List Mk) (t : TO) (e : MO) : Prop := ∀ ρ σ F H c, Stt μ ρ σ F H c → ∀ Q : Option Int → Hp → Prop,
  (∀ o F' H', e ρ = .ok o → Ev F H F' H' → Q o H') →
  (∀ x cls dd F' H', e ρ = .ex x → Ev F H F' H' → RepX mg x cls dd H' → W cls dd σ H') → e ρ ≠ .stuck → t σ H Q
theorem so_none : SimO mg W μ tNoPart mNoPart := fun ρ σ F H c st Q q x ns => q none F H rfl (Ev.refl st.sub)
theorem so_some (h : SimR mg W μ te e) : SimO mg W μ (tPart te) (mPart e) := fun ρ σ F H c st Q q x ns => by
  have fx : mPart e ρ = (e ρ).bind fun d => match d with | .int i => .ok (some i) | _ => .stuck := rfl
  refine h ρ σ F H c st _ (fun d v F' H' e1 ev r => ?_) (fun y cls dd F' H' e1 ev rx => x y cls dd F' H' (by rw [fx, e1]; rfl) ev rx) (fun z => ns (by rw [fx, z]; rfl))
  rw [e1] at fx
  cases d with
  | int i => exact ⟨i, r, q (some i) F' H' fx ev⟩
  | _ => exact absurd fx ns
def cutD (xs : List D) (lo hi : Option Int) : List D := (xs.drop (HT.sIx xs.length 0 lo)).take (HT.sIx xs.length xs.length hi - HT.sIx xs.length 0 lo)
def D.slice (d : D) (lo hi : Option Int) : R D := match d with
  | .lst ds => .ok (.lst (cutD ds lo hi))
  | .tup ds => .ok (.tup (cutD ds lo hi))
  | .str z => if small z.length then .ok (.str (cutS z lo hi)) else .stuck
  | _ => .stuck
def mSlice (e : ME) (lo hi : MO) : ME := fun ρ => (e ρ).bind fun d => (lo ρ).bind fun a => (hi ρ).bind fun b => d.slice a b
theorem RepL.cut {F : Hp} {ds : List D} {vs : List V} (h : RepL F ds vs) (lo hi : Option Int) : RepL F (cutD ds lo hi) (cutV vs lo hi) := by
  unfold cutD cutV
  rw [RepL.len _ _ h]
  exact (h.drop _).take _
theorem slice_core {F H : Hp} {d d' : D} {v : V} {lo hi : Option Int} {Q : VK} (hs : ∀ a o, F a = some o → H a = some o) (r : RepD F d v) (e : d.slice lo hi = .ok d') (q : ∀ v F' H', Ev F H F' H' → RepD F' d' v → Q v H') : rSlX K v lo hi H Q := by
  unfold D.slice at e
  split at e
  · cases e
    obtain ⟨p, vs, e1, h1, l1⟩ := r
    refine .inl ⟨p, vs, e1, SqL.of (hs _ _ h1), fun l hl => ?_⟩
    have ev := Ev.new (o := .lst (cutV vs lo hi)) hs hl
    exact q _ _ _ ev ⟨l, _, rfl, upd_same, RepL.up ev.ext _ _ (l1.cut lo hi)⟩
  · cases e
    rename_i ds
    obtain ⟨p, vs, e1, h1, l1⟩ := r
    refine .inr (.inr ⟨p, vs, e1, SqT.of (hs _ _ h1), fun z => ?_, fun z l hl => ?_⟩)
    · have ez : cutD ds lo hi = ds := by
        have hl := RepL.len _ _ l1
        unfold cutD
        rw [← hl, z.1, z.2, List.drop_zero, Nat.sub_zero, hl]
        exact List.take_length
      rw [ez] at q
      exact q _ F H (Ev.refl hs) ⟨p, vs, rfl, h1, l1⟩
    · have ev := Ev.new (o := .tup (cutV vs lo hi)) hs hl
      exact q _ _ _ ev ⟨l, _, rfl, upd_same, RepL.up ev.ext _ _ (l1.cut lo hi)⟩
  · rename_i z
    by_cases c : small z.length = true
    · rw [if_pos c] at e
      cases e
      exact .inr (.inl ⟨z, r, small_le c, q _ F H (Ev.refl hs) rfl⟩)
    · rw [if_neg c] at e; cases e
  · cases e
theorem slice_ex {d : D} {lo hi : Option Int} {x : Xc} : d.slice lo hi ≠ .ex x := by
  unfold D.slice; split <;> first | (split <;> exact fun h => nomatch h) | exact fun h => nomatch h
theorem sim_slice {tl th : TO} {el eh : MO} (h : SimP mg W μ te e .sh) (hl : SimO mg W μ tl el) (hh : SimO mg W μ th eh) : SimP mg W μ (tSl (rSlX K) te tl th) (mSlice e el eh) .sh := fun ρ σ F H c st Q q x ns => by
  have fx : mSlice e el eh ρ = (e ρ).bind fun d => (el ρ).bind fun a => (eh ρ).bind fun b => d.slice a b := rfl
  refine h ρ σ F H c st _ (fun d v F1 H1 cv e1 ev1 r1 _ _ => ?_) (fun y cls dd F' H' e1 ev rx => x y cls dd F' H' (by rw [fx, e1]; rfl) ev rx) (fun z => ns (by rw [fx, z]; rfl))
  rw [e1] at fx
  have fx : mSlice e el eh ρ = (el ρ).bind fun a => (eh ρ).bind fun b => d.slice a b := fx
  refine hl ρ σ F1 H1 c (st.ev ev1) _ (fun a F2 H2 e2 ev2 => ?_) (fun y cls dd F' H' e2 ev rx => x y cls dd F' H' (by rw [fx, e2]; rfl) (ev1.trans ev) rx) (fun z => ns (by rw [fx, z]; rfl))
  rw [e2] at fx
  have fx : mSlice e el eh ρ = (eh ρ).bind fun b => d.slice a b := fx
  have ev12 := ev1.trans ev2
  refine hh ρ σ F2 H2 c (st.ev ev12) _ (fun b F3 H3 e3 ev3 => ?_) (fun y cls dd F' H' e3 ev rx => x y cls dd F' H' (by rw [fx, e3]; rfl) (ev12.trans ev) rx) (fun z => ns (by rw [fx, z]; rfl))
  rw [e3] at fx
  have fx : mSlice e el eh ρ = d.slice a b := fx
  cases hd : d.slice a b with
  | ok d' =>
    refine slice_core ev3.sub (RepD.up (ev2.trans ev3).ext _ _ r1.1) hd fun v F4 H4 ev4 r4 => ?_
    exact q d' v F4 H4 (fun _ => 0) (fx.trans hd) ((ev12.trans ev3).trans ev4) ⟨r4, fun _ => rfl⟩ (fun a z => absurd z (by decide)) fun _ => Nat.zero_le _
  | ex y => exact absurd hd slice_ex
  | stuck => exact absurd (fx.trans hd) ns
/-- a slice of a list, of one's own -/
def mSliceL (e : ME) (lo hi : MO) : ME := fun ρ => (e ρ).bind fun d => (lo ρ).bind fun a => (hi ρ).bind fun b => match d with
  | .lst ds => .ok (.lst (cutD ds a b))
  | _ => .stuck
theorem sim_sliceL {tl th : TO} {el eh : MO} (h : SimP mg W μ te e .sh) (hl : SimO mg W μ tl el) (hh : SimO mg W μ th eh) : SimP mg W μ (tSl (rSlX K) te tl th) (mSliceL e el eh) (.ow .sh) := fun ρ σ F H c st Q q x ns => by
  have fx : mSliceL e el eh ρ = (e ρ).bind fun d => (el ρ).bind fun a => (eh ρ).bind fun b => match d with | .lst ds => .ok (.lst (cutD ds a b)) | _ => .stuck := rfl
  refine h ρ σ F H c st _ (fun d v F1 H1 cv e1 ev1 r1 _ _ => ?_) (fun y cls dd F' H' e1 ev rx => x y cls dd F' H' (by rw [fx, e1]; rfl) ev rx) (fun z => ns (by rw [fx, z]; rfl))
  rw [e1] at fx
  have fx : mSliceL e el eh ρ = (el ρ).bind fun a => (eh ρ).bind fun b => match d with | .lst ds => .ok (.lst (cutD ds a b)) | _ => .stuck := fx
  refine hl ρ σ F1 H1 c (st.ev ev1) _ (fun a F2 H2 e2 ev2 => ?_) (fun y cls dd F' H' e2 ev rx => x y cls dd F' H' (by rw [fx, e2]; rfl) (ev1.trans ev) rx) (fun z => ns (by rw [fx, z]; rfl))
  rw [e2] at fx
  have fx : mSliceL e el eh ρ = (eh ρ).bind fun b => match d with | .lst ds => .ok (.lst (cutD ds a b)) | _ => .stuck := fx
  have ev12 := ev1.trans ev2
  refine hh ρ σ F2 H2 c (st.ev ev12) _ (fun b F3 H3 e3 ev3 => ?_) (fun y cls dd F' H' e3 ev rx => x y cls dd F' H' (by rw [fx, e3]; rfl) (ev12.trans ev) rx) (fun z => ns (by rw [fx, z]; rfl))
  rw [e3] at fx
  cases d with
  | lst ds =>
    obtain ⟨p, vs, e4, h4, l4⟩ := RepD.up (ev2.trans ev3).ext _ _ r1.1
    have hn : ∀ l, H3 l = none → _ := fun l hl => (trivial : True)
    refine .inl ⟨p, vs, e4, SqL.of (ev3.sub _ _ h4), fun l hl => ?_⟩
    exact q _ _ F3 _ (one l) fx ((ev12.trans ev3).trans (Ev.newO ev3.sub hl)) (RepM.newL ev3.sub hl (l4.cut a b)) (fun b z => by rw [one_pos z]; exact new_back (ev12.trans ev3) hl) (one_le l)
  | _ => exact absurd fx ns
end
end Mi
/-! MiF: what is walked, targets, comprehensions. -/
namespace Mi
open PySem L2

/-! ### targets -/
abbrev MG := D → Rho → R Rho
/-- only the slots js changed -/
def Chg (js : List Nat) (σ σ' : St) : Prop := σ'.length = σ.length ∧ ∀ i, i ∉ js → σ'[i]? = σ[i]?
theorem Chg.refl (js : List Nat) (σ : St) : Chg js σ σ := ⟨rfl, fun _ _ => rfl⟩
theorem Chg.trans {js : List Nat} {σ σ1 σ2 : St} (a : Chg js σ σ1) (b : Chg js σ1 σ2) : Chg js σ σ2 := ⟨b.1.trans a.1, fun i h => (b.2 i h).trans (a.2 i h)⟩
theorem Chg.mono {js ks : List Nat} {σ σ' : St} (a : Chg js σ σ') (h : ∀ j, j ∈ js → j ∈ ks) : Chg ks σ σ' := ⟨a.1, fun i q => a.2 i fun z => q (h i z)⟩
theorem wipe_get {σ : St} : ∀ {vs : List Nat} {i : Nat}, (wipe σ vs)[i]? = if i ∈ vs then (if i < σ.length then some none else none) else σ[i]?
  | [], i => by rw [if_neg (by simp)]; rfl
  | v :: vs, i => by
    unfold wipe
    by_cases e : i = v
    · subst e
      rw [if_pos List.mem_cons_self]
      by_cases h : i < σ.length
      · rw [if_pos h, List.getElem?_set_self (by rw [wipe_length]; exact h)]
      · rw [if_neg h, List.getElem?_eq_none (by rw [List.length_set, wipe_length]; omega)]
    · rw [List.getElem?_set_ne (Ne.symm e), wipe_get]
      by_cases h : i ∈ vs
      · rw [if_pos h, if_pos (List.mem_cons_of_mem _ h)]
      · rw [if_neg h, if_neg (by simp [e, h])]
theorem wipe_chg {vs : List Nat} {σ σ' : St} (a : Chg vs σ σ') : wipe σ' vs = wipe σ vs := by
  apply List.ext_getElem?
  intro i
  rw [wipe_get, wipe_get, a.1]
  by_cases h : i ∈ vs
  · rw [if_pos h, if_pos h]
  · rw [if_neg h, if_neg h, a.2 i h]
theorem wipe_self {vs : List Nat} {σ : St} : Chg vs σ (wipe σ vs) := ⟨wipe_length _ _, fun i h => by rw [wipe_get, if_neg h]⟩
theorem wipe_wipe {vs : List Nat} {σ : St} : wipe (wipe σ vs) vs = wipe σ vs := wipe_chg wipe_self
def SimG (μ : List Mk) (js : List Nat) (g : TG) (f : MG) (μ' : List Mk) : Prop := ∀ ρ σ F H c d x, Stt μ ρ σ F H c → RepD F d x → ∀ Q : St → Hp → Prop,
  (∀ ρ' σ' c', f d ρ = .ok ρ' → Stt μ' ρ' σ' F H c' → (∀ a, c' a ≤ c a) → Chg js σ σ' → Q σ' H) → f d ρ ≠ .stuck → (∀ x, f d ρ ≠ .ex x) → g x σ H Q
def SimGs (μ : List Mk) (js : List Nat) (g : TGs) (f : List D → Rho → R Rho) (μ' : List Mk) : Prop := ∀ ρ σ F H c ds xs, Stt μ ρ σ F H c → RepL F ds xs → ∀ Q : St → Hp → Prop,
  (∀ ρ' σ' c', f ds ρ = .ok ρ' → Stt μ' ρ' σ' F H c' → (∀ a, c' a ≤ c a) → Chg js σ σ' → Q σ' H) → f ds ρ ≠ .stuck → (∀ x, f ds ρ ≠ .ex x) → g xs σ H Q
def mGName (i : Nat) : MG := fun d ρ => .ok (ρ.set i (some d))
def mGNil : List D → Rho → R Rho := fun ds ρ => match ds with
  | [] => .ok ρ
  | _ => .stuck
def mGCons (f : MG) (fs : List D → Rho → R Rho) : List D → Rho → R Rho := fun ds ρ => match ds with
  | d :: ds => (f d ρ).bind fun ρ' => fs ds ρ'
  | [] => .stuck
def mGTup (n : Nat) (fs : List D → Rho → R Rho) : MG := fun d ρ => match d with
  | .tup ds => if ds.length == n then fs ds ρ else .stuck
  | _ => .stuck
theorem Stt.put {μ : List Mk} {ρ : Rho} {σ : St} {F H : Hp} {c : Cn} {i : Nat} {m : Mk} {d : D} {v : V} {cv : Cn} (s : Stt μ ρ σ F H c) (hi : i < μ.length) (r : RepM F H m d v cv) (h1 : ∀ a, c a + cv a ≤ 1) :
    ∃ c', Stt (μ.set i m) (ρ.set i (some d)) (σ.set i (some v)) F H c' ∧ ∀ a, c' a ≤ c a + cv a := by
  obtain ⟨c', q1, q2⟩ := s.env.put hi r
  exact ⟨c', ⟨s.sub, q1, fun a => Nat.le_trans (q2 a) (h1 a)⟩, q2⟩
theorem sg_name {μ : List Mk} {i : Nat} (hi : Nat.blt i μ.length = true) : SimG μ [i] (gName i) (mGName i) (μ.set i .sh) := fun ρ σ F H c d x st r Q q ns nx => by
  obtain ⟨c', s', q2⟩ := st.put (Nat.le_of_ble_eq_true hi) (m := .sh) (d := d) (v := x) (cv := fun _ => 0) ⟨r, fun _ => rfl⟩ (fun a => st.one a)
  exact q _ _ c' rfl s' q2 ⟨List.length_set, fun j h => List.getElem?_set_ne (fun e => h (by rw [e]; exact List.mem_singleton_self _))⟩
theorem sgs_nil {μ : List Mk} {js : List Nat} : SimGs μ js gNil mGNil μ := fun ρ σ F H c ds xs st r Q q ns nx => by
  cases ds with
  | nil => exact ⟨r, q ρ σ c rfl st (fun _ => Nat.le_refl _) (Chg.refl _ _)⟩
  | cons d ds => exact absurd rfl ns
theorem sgs_cons {μ μ1 μ2 : List Mk} {js ks : List Nat} {g : TG} {gs : TGs} {f : MG} {fs : List D → Rho → R Rho} (h : SimG μ js g f μ1) (hr : SimGs μ1 ks gs fs μ2) : SimGs μ (js ++ ks) (gCons g gs) (mGCons f fs) μ2 := fun ρ σ F H c ds xs st r Q q ns nx => by
  cases ds with
  | nil => exact absurd rfl ns
  | cons d ds =>
    obtain ⟨v, vs, rfl, h1, h2⟩ := r
    have k : mGCons f fs (d :: ds) ρ = (f d ρ).bind fun ρ' => fs ds ρ' := rfl
    refine ⟨v, vs, rfl, h ρ σ F H c d v st h1 _ (fun ρ1 σ1 c1 e1 s1 l1 g1 => ?_) (fun z => ns (by rw [k, z]; rfl)) (fun x z => nx x (by rw [k, z]; rfl))⟩
    rw [e1] at k
    have k : mGCons f fs (d :: ds) ρ = fs ds ρ1 := k
    exact hr ρ1 σ1 F H c1 ds vs s1 h2 _ (fun ρ2 σ2 c2 e2 s2 l2 g2 => q ρ2 σ2 c2 (k.trans e2) s2 (fun a => Nat.le_trans (l2 a) (l1 a)) ((g1.mono fun j hj => List.mem_append_left _ hj).trans (g2.mono fun j hj => List.mem_append_right _ hj))) (fun z => ns (k.trans z)) (fun x z => nx x (k.trans z))
theorem sg_tup {K : PySem.W.Frag} {μ μ' : List Mk} {js : List Nat} {n : Nat} {gs : TGs} {fs : List D → Rho → R Rho} (h : SimGs μ js gs fs μ') : SimG μ js (gTup K n gs) (mGTup n fs) μ' := fun ρ σ F H c d x st r Q q ns nx => by
  cases d with
  | tup ds =>
    obtain ⟨a, vs, e, hp, hl⟩ := r
    have k : mGTup n fs (.tup ds) ρ = if ds.length == n then fs ds ρ else .stuck := rfl
    by_cases hn : (ds.length == n) = true
    · rw [if_pos hn] at k
      refine ⟨a, vs, e, SqT.of (st.sub _ _ hp), by rw [RepL.len _ _ hl]; exact by simpa using hn, ?_⟩
      exact h ρ σ F H c ds vs st hl Q (fun ρ' σ' c' e1 => q ρ' σ' c' (k.trans e1)) (fun z => ns (k.trans z)) (fun x z => nx x (k.trans z))
    · rw [if_neg hn] at k; exact absurd k ns
  | _ => exact absurd rfl ns

/-! ### what is walked -/
structure WalkD (J : It) (F0 : Hp) (ds : List D) : Prop where
  stop : ∀ F H : Hp, (∀ a o, F0 a = some o → F a = some o) → (∀ a o, F a = some o → H a = some o) → J.stop ds.length H
  go : ∀ i (F H : Hp), i < ds.length → (∀ a o, F0 a = some o → F a = some o) → (∀ a o, F a = some o → H a = some o) → J.go i H
  yld : ∀ i (F H : Hp) x H' d, (∀ a o, F0 a = some o → F a = some o) → (∀ a o, F a = some o → H a = some o) → J.yld i H x H' → ds[i]? = some d → ∃ F', Ev F H F' H' ∧ RepD F' d x
abbrev MI := Rho → R (List D)
def SimI (mg : Str → Option Value) (W : WX) (μ : List Mk) (t : TI) (e : MI) : Prop := ∀ ρ σ F H c, Stt μ ρ σ F H c → ∀ Rr : It → Hp → Prop,
  (∀ ds J F' H', e ρ = .ok ds → Ev F H F' H' → WalkD J F' ds → Rr J H') →
  (∀ x cls dd F' H', e ρ = .ex x → Ev F H F' H' → RepX mg x cls dd H' → W cls dd σ H') → e ρ ≠ .stuck → t σ H Rr
section
variable {K : PySem.W.Frag} {mg : Str → Option Value} {W : WX} {μ : List Mk} {te tt' : TE} {e : ME} {m : Mk}
/-- a list, a tuple, a text -/
def iSeq (K : PySem.W.Frag) (tl : TE) : TI := fun σ H R => tl σ H fun x H1 => (∃ a, x = .ref a ∧ (∃ xs, SqL K H1 a xs) ∧ R (Itl K a) H1) ∨ ((∃ a, x = .ref a ∧ (∃ xs, SqT K H1 a xs) ∧ R (Itt K a) H1) ∨ ∃ z, x = .str z ∧ R (Its z) H1)
theorem pi_seq {X : Cx} {tg l : Expr} {tl : TE} (hl : PE X l tl) : PI X tg l (iSeq X.K tl) := by
  refine ⟨fun pins s σ H R I h => ?_⟩
  -- the three readings of one value
  have one : ∀ (x : V) (H1 : Hp) (v : Value) (s1 : Shared), Inv X pins σ H1 s1 → RelV x v → ((∃ a, x = .ref a ∧ (∃ xs, SqL X.K H1 a xs) ∧ R (Itl X.K a) H1) ∨ ((∃ a, x = .ref a ∧ (∃ xs, SqT X.K H1 a xs) ∧ R (Itt X.K a) H1) ∨ ∃ z, x = .str z ∧ R (Its z) H1)) →
      wpAny (model X.prog X.w) X.A (pyIter v) (PIE X pins σ tg R) X.xe s1 := by
    intro x H1 v s1 I1 r1 q
    rcases q with ⟨a, e, ⟨xs, hq⟩, q⟩ | ⟨a, e, ⟨xs, hq⟩, q⟩ | ⟨z, e, q⟩
    · subst e
      cases r1
      obtain ⟨its, rv, p, hz⟩ := I1.list hq
      refine wpAny_pyIter_list p.isList ?_
      refine ⟨s1.heap.objs.size, [s1.heap.objs.size], _, _, H1, rfl, I1.kept (t' := s1.toks) fun b o e => Heap.get?_push_of_some _ e, turn_list a _, ⟨_, Heap.get?_push_size _ rfl, rfl, rfl⟩, fun b hb => ?_, q⟩
      have e : b = s1.heap.objs.size := by simpa using hb
      subst e
      exact I1.fpOk (Nat.le_refl _) (I1.hok.fresh (Nat.le_refl _))
    · subst e
      cases r1
      obtain ⟨its, rv, p, hz⟩ := I1.tuple hq
      refine wpAny_pyIter_tuple (show s1.heap.IsTuple a its.toArray from p) ?_
      refine ⟨s1.heap.objs.size, [s1.heap.objs.size], _, _, H1, rfl, I1.kept (t' := s1.toks) fun b o e => Heap.get?_push_of_some _ e, turn_tuple a _, ⟨_, Heap.get?_push_size _ rfl, rfl, rfl⟩, fun b hb => ?_, q⟩
      have e : b = s1.heap.objs.size := by simpa using hb
      subst e
      exact I1.fpOk (Nat.le_refl _) (I1.hok.fresh (Nat.le_refl _))
    · subst e
      obtain ⟨t, rfl⟩ := r1
      cases ha : z.cps.all (· < 128)
      · exact wpAny_pyIter_wide ha (pi_one (tk := s1.toks) I1 _ (turn_str _ z t "str_iterator" (.inr rfl)) ⟨_, Heap.get?_push_size _ rfl, rfl, rfl⟩ q)
      · exact wpAny_pyIter_ascii ha (pi_one (tk := s1.toks) I1 _ (turn_str _ z t "str_ascii_iterator" (.inl rfl)) ⟨_, Heap.get?_push_size _ rfl, rfl, rfl⟩ q)
  exact thn (hl.run pins s σ H _ I h) fun v s1 ⟨x, H1, I1, r1, q1⟩ => one x H1 v s1 I1 r1 q1
/-- the items of a list, a tuple, a text -/
def D.items : D → R (List D)
  | .lst ds => .ok ds
  | .tup ds => .ok ds
  | .str z => .ok (z.cps.toList.map fun c => D.str ⟨#[c]⟩)
  | _ => .stuck
def mIt (e : ME) : MI := fun ρ => (e ρ).bind D.items
theorem walkD_list {a : Addr} {F0 : Hp} {ds : List D} {vs : List V} (h : F0 a = some (.lst vs)) (r : RepL F0 ds vs) : WalkD (Itl K a) F0 ds where
  stop := fun F H h1 h2 => ⟨vs, SqL.of (h2 _ _ (h1 _ _ h)), by rw [RepL.len _ _ r]; exact Nat.le_refl _⟩
  go := fun i F H hi h1 h2 => ⟨vs, vs[i]'(by rw [RepL.len _ _ r]; exact hi), SqL.of (h2 _ _ (h1 _ _ h)), List.getElem?_eq_getElem _⟩
  yld := fun i F H x H' d h1 h2 y hd => by
    obtain ⟨e, y⟩ := y
    subst e
    obtain ⟨v, hv, rv⟩ := RepL.get r hd
    have ex : x = v := Option.some.inj ((y vs (SqL.of (h2 _ _ (h1 _ _ h)))).symm.trans hv)
    exact ⟨F, Ev.refl h2, by rw [ex]; exact RepD.up h1 _ _ rv⟩
theorem walkD_tup {a : Addr} {F0 : Hp} {ds : List D} {vs : List V} (h : F0 a = some (.tup vs)) (r : RepL F0 ds vs) : WalkD (Itt K a) F0 ds where
  stop := fun F H h1 h2 => ⟨vs, SqT.of (h2 _ _ (h1 _ _ h)), by rw [RepL.len _ _ r]; exact Nat.le_refl _⟩
  go := fun i F H hi h1 h2 => ⟨vs, vs[i]'(by rw [RepL.len _ _ r]; exact hi), SqT.of (h2 _ _ (h1 _ _ h)), List.getElem?_eq_getElem _⟩
  yld := fun i F H x H' d h1 h2 y hd => by
    obtain ⟨e, y⟩ := y
    subst e
    obtain ⟨v, hv, rv⟩ := RepL.get r hd
    have ex : x = v := Option.some.inj ((y vs (SqT.of (h2 _ _ (h1 _ _ h)))).symm.trans hv)
    exact ⟨F, Ev.refl h2, by rw [ex]; exact RepD.up h1 _ _ rv⟩
theorem walkD_str {z : Str} {F0 : Hp} : WalkD (Its z) F0 (z.cps.toList.map fun c => D.str ⟨#[c]⟩) where
  stop := fun F H h1 h2 => by show z.cps.size ≤ _; rw [List.length_map, Array.length_toList]; exact Nat.le_refl _
  go := fun i F H hi h1 h2 => by show i < z.cps.size; rw [List.length_map, Array.length_toList] at hi; exact hi
  yld := fun i F H x H' d h1 h2 y hd => by
    obtain ⟨e, c, hc, ex⟩ := y
    subst e
    subst ex
    rw [List.getElem?_map, Array.getElem?_toList, hc] at hd
    cases hd
    exact ⟨F, Ev.refl h2, rfl⟩
theorem si_seq (h : SimP mg W μ te e .sh) : SimI mg W μ (iSeq K te) (mIt e) := fun ρ σ F H c st Rr q x ns => by
  refine h ρ σ F H c st _ (fun d v F' H' cv e1 ev r _ _ => ?_) (fun y cls dd F' H' e1 ev rx => x y cls dd F' H' (bind_ex e1) ev rx) (bind_stuck (f := D.items) ns)
  have k : mIt e ρ = d.items := by unfold mIt; rw [e1]; rfl
  cases d with
  | lst ds =>
    obtain ⟨a, vs, e2, hp, hl⟩ := r.1
    exact .inl ⟨a, e2, ⟨vs, SqL.of (ev.sub _ _ hp)⟩, q ds _ F' H' k ev (walkD_list hp hl)⟩
  | tup ds =>
    obtain ⟨a, vs, e2, hp, hl⟩ := r.1
    exact .inr (.inl ⟨a, e2, ⟨vs, SqT.of (ev.sub _ _ hp)⟩, q ds _ F' H' k ev (walkD_tup hp hl)⟩)
  | str z => exact .inr (.inr ⟨z, r.1, q _ _ F' H' k ev walkD_str⟩)
  | _ => exact absurd k ns

/-! ### ranges -/
def rg62 (a : Int) : Bool := decide (-(2 ^ 62) ≤ a) && decide (a < 2 ^ 62)
theorem rg62_ok {a : Int} (h : rg62 a = true) : -(2 ^ 62) ≤ a ∧ a < 2 ^ 62 := by
  unfold rg62 at h
  rw [Bool.and_eq_true] at h
  exact ⟨of_decide_eq_true h.1, of_decide_eq_true h.2⟩
def fRg1 : List D → R (List D)
  | [.int n] => if rg62 n then .ok ((List.range n.toNat).map fun i => .int (i : Nat)) else .stuck
  | _ => .stuck
def fRg2 : List D → R (List D)
  | [.int a, .int b] => if rg62 a && rg62 b then .ok ((List.range (b - a).toNat).map fun i => .int (a + (i : Nat))) else .stuck
  | _ => .stuck
def fRg3 : List D → R (List D)
  | [.int a, .int b, .int c] => if rg62 a && rg62 b && decide (c = -1) then .ok ((List.range (a - b).toNat).map fun i => .int (a - (i : Nat))) else .stuck
  | _ => .stuck
def mRange1 (a : MA) : MI := fun ρ => (a ρ).bind fRg1
def mRange2 (a : MA) : MI := fun ρ => (a ρ).bind fRg2
def mRange3 (a : MA) : MI := fun ρ => (a ρ).bind fRg3
theorem walkD_rng {lo : Int} {n : Nat} {F0 : Hp} {f : Nat → Int} (hf : ∀ i, f i = lo + (i : Nat)) : WalkD (Itr lo n) F0 ((List.range n).map fun i => D.int (f i)) where
  stop := fun F H h1 h2 => by show n ≤ _; rw [List.length_map, List.length_range]; exact Nat.le_refl _
  go := fun i F H hi h1 h2 => by rw [List.length_map, List.length_range] at hi; exact hi
  yld := fun i F H x H' d h1 h2 y hd => by
    obtain ⟨e, y⟩ := y
    subst e
    subst y
    rw [List.getElem?_map] at hd
    cases hr : (List.range n)[i]? with
    | none => rw [hr] at hd; cases hd
    | some j =>
      rw [hr] at hd
      cases hd
      obtain ⟨h3, h4⟩ := List.getElem?_eq_some_iff.mp hr
      rw [List.getElem_range] at h4
      subst h4
      exact ⟨F, Ev.refl h2, congrArg V.int (hf _).symm⟩
theorem walkD_rngC {lo c : Int} {n : Nat} {F0 : Hp} {f : Nat → Int} (hf : ∀ i, f i = lo + (i : Nat) * c) : WalkD (Itc lo c n) F0 ((List.range n).map fun i => D.int (f i)) where
  stop := fun F H h1 h2 => by show n ≤ _; rw [List.length_map, List.length_range]; exact Nat.le_refl _
  go := fun i F H hi h1 h2 => by rw [List.length_map, List.length_range] at hi; exact hi
  yld := fun i F H x H' d h1 h2 y hd => by
    obtain ⟨e, y⟩ := y
    subst e
    subst y
    rw [List.getElem?_map] at hd
    cases hr : (List.range n)[i]? with
    | none => rw [hr] at hd; cases hd
    | some j =>
      rw [hr] at hd
      cases hd
      obtain ⟨h3, h4⟩ := List.getElem?_eq_some_iff.mp hr
      rw [List.getElem_range] at h4
      subst h4
      exact ⟨F, Ev.refl h2, congrArg V.int (hf _).symm⟩
variable {ta : TA} {ma : MA}
theorem si_rng1 (h : SimAR mg W μ ta ma) : SimI mg W μ (iRng1 ta) (mRange1 ma) := fun ρ σ F H c st Rr q x ns => by
  refine h ρ σ F H c st _ (fun ds vs F' H' e1 ev r => ?_) (fun y cls dd F' H' e1 ev rx => x y cls dd F' H' (bind_ex e1) ev rx) (bind_stuck (f := fRg1) ns)
  have k : mRange1 ma ρ = fRg1 ds := by unfold mRange1; rw [e1]; rfl
  have ns2 : mRange1 ma ρ ≠ .stuck := ns
  unfold fRg1 at k
  split at k
  · rename_i n
    by_cases c : rg62 n = true
    · rw [if_pos c] at k
      obtain ⟨v, rfl, rv⟩ := r.one
      obtain ⟨h1, h2⟩ := rg62_ok c
      exact ⟨n, by rw [show v = _ from rv], h1, h2, q _ _ F' H' k ev (walkD_rng (f := fun i => ((i : Nat) : Int)) fun i => (Int.zero_add _).symm)⟩
    · rw [if_neg c] at k; exact absurd k ns2
  · exact absurd k ns2
theorem si_rng2 (h : SimAR mg W μ ta ma) : SimI mg W μ (iRng2 ta) (mRange2 ma) := fun ρ σ F H c st Rr q x ns => by
  refine h ρ σ F H c st _ (fun ds vs F' H' e1 ev r => ?_) (fun y cls dd F' H' e1 ev rx => x y cls dd F' H' (bind_ex e1) ev rx) (bind_stuck (f := fRg2) ns)
  have k : mRange2 ma ρ = fRg2 ds := by unfold mRange2; rw [e1]; rfl
  have ns2 : mRange2 ma ρ ≠ .stuck := ns
  unfold fRg2 at k
  split at k
  · rename_i a b
    by_cases c : (rg62 a && rg62 b) = true
    · rw [if_pos c] at k
      rw [Bool.and_eq_true] at c
      obtain ⟨v, w, rfl, rv, rw'⟩ := r.two
      obtain ⟨h1, h2⟩ := rg62_ok c.1
      obtain ⟨h3, h4⟩ := rg62_ok c.2
      exact ⟨a, b, by rw [show v = _ from rv, show w = _ from rw'], ⟨h1, h2, h3, h4⟩, q _ _ F' H' k ev (walkD_rng (f := fun i => a + ((i : Nat) : Int)) fun i => rfl)⟩
    · rw [if_neg c] at k; exact absurd k ns2
  · exact absurd k ns2
theorem RepL.three {F : Hp} {d e f : D} {vs : List V} (h : RepL F [d, e, f] vs) : ∃ v w u, vs = [v, w, u] ∧ RepD F d v ∧ RepD F e w ∧ RepD F f u := by
  obtain ⟨v, r, e1, h1, h2⟩ := h
  obtain ⟨w, u, e2, h3, h4⟩ := h2.two
  exact ⟨v, w, u, by rw [e1, e2], h1, h3, h4⟩
theorem si_rng3 (h : SimAR mg W μ ta ma) : SimI mg W μ (iRng3 ta) (mRange3 ma) := fun ρ σ F H c st Rr q x ns => by
  refine h ρ σ F H c st _ (fun ds vs F' H' e1 ev r => ?_) (fun y cls dd F' H' e1 ev rx => x y cls dd F' H' (bind_ex e1) ev rx) (bind_stuck (f := fRg3) ns)
  have k : mRange3 ma ρ = fRg3 ds := by unfold mRange3; rw [e1]; rfl
  have ns2 : mRange3 ma ρ ≠ .stuck := ns
  unfold fRg3 at k
  split at k
  · rename_i a b z
    by_cases c : (rg62 a && rg62 b && decide (z = -1)) = true
    · rw [if_pos c] at k
      rw [Bool.and_eq_true, Bool.and_eq_true] at c
      obtain ⟨v, w, u, rfl, rv, rw', ru⟩ := r.three
      obtain ⟨h1, h2⟩ := rg62_ok c.1.1
      obtain ⟨h3, h4⟩ := rg62_ok c.1.2
      have hz := of_decide_eq_true c.2
      subst hz
      exact ⟨a, b, -1, _, by rw [show v = _ from rv, show w = _ from rw', show u = _ from ru], RgC.neg h1 h2 h3 h4, q _ _ F' H' k ev (walkD_rngC (f := fun i => a - ((i : Nat) : Int)) fun i => by show a - (i : Nat) = a + (i : Nat) * (-1); omega)⟩
    · rw [if_neg c] at k; exact absurd k ns2
  · exact absurd k ns2

/-! ### enumerate, zip over lists -/
def enumD : Nat → List D → List D
  | _, [] => []
  | i, d :: ds => .tup [.int (i : Nat), d] :: enumD (i + 1) ds
theorem enumD_len : ∀ (ds : List D) (i : Nat), (enumD i ds).length = ds.length
  | [], _ => rfl
  | d :: ds, i => by unfold enumD; rw [List.length_cons, List.length_cons, enumD_len ds]
theorem enumD_get : ∀ (ds : List D) (k i : Nat) (d : D), (enumD k ds)[i]? = some d → ∃ e, ds[i]? = some e ∧ d = .tup [.int ((k + i : Nat) : Int), e]
  | [], _, _, _, h => by unfold enumD at h; simp at h
  | x :: ds, k, 0, d, h => by
    unfold enumD at h
    simp at h
    exact ⟨x, rfl, h.symm⟩
  | x :: ds, k, i + 1, d, h => by
    unfold enumD at h
    rw [List.getElem?_cons_succ] at h
    obtain ⟨e, h1, h2⟩ := enumD_get ds (k + 1) i d h
    exact ⟨e, by simpa using h1, by rw [h2, show k + 1 + i = k + (i + 1) by omega]⟩
def fEnum : List D → R (List D)
  | [.lst ds] => .ok (enumD 0 ds)
  | _ => .stuck
def mEnum (a : MA) : MI := fun ρ => (a ρ).bind fEnum
theorem si_enum (h : SimA mg W μ ta ma) : SimI mg W μ (iEnum K ta) (mEnum ma) := fun ρ σ F H c st Rr q x ns => by
  refine h ρ σ F H c st _ (fun ds vs F0 H' e1 ev r => ?_) (fun y cls dd F' H' e1 ev rx => x y cls dd F' H' (bind_ex e1) ev rx) (bind_stuck (f := fEnum) ns)
  have k : mEnum ma ρ = fEnum ds := by unfold mEnum; rw [e1]; rfl
  have ns2 : mEnum ma ρ ≠ .stuck := ns
  unfold fEnum at k
  split at k
  · rename_i ds
    obtain ⟨v, rfl, a, vs, rfl, hp, hl⟩ := r.one
    refine ⟨a, vs, rfl, SqL.of (ev.sub _ _ hp), q _ _ F0 H' k ev ⟨fun F H h1 h2 => ?_, fun i F H hi h1 h2 => ?_, fun i F H x H' d h1 h2 y hd => ?_⟩⟩
    · exact ⟨vs, SqL.of (h2 _ _ (h1 _ _ hp)), by rw [RepL.len _ _ hl, enumD_len]; exact Nat.le_refl _⟩
    · rw [enumD_len] at hi
      exact ⟨vs, vs[i]'(by rw [RepL.len _ _ hl]; exact hi), SqL.of (h2 _ _ (h1 _ _ hp)), List.getElem?_eq_getElem _⟩
    · obtain ⟨T, z, rfl, hT, rfl, y⟩ := y
      obtain ⟨e, he, rfl⟩ := enumD_get _ _ _ _ hd
      obtain ⟨v, hv, rv⟩ := RepL.get hl he
      have ex : z = v := Option.some.inj ((y vs (SqL.of (h2 _ _ (h1 _ _ hp)))).symm.trans hv)
      subst ex
      have ev2 := Ev.new (o := .tup [.int (i : Nat), z]) h2 hT
      refine ⟨_, ev2, T, _, rfl, upd_same, .int (i : Nat), [z], rfl, ?_, z, [], rfl, RepD.up ev2.ext _ _ (RepD.up h1 _ _ rv), rfl⟩
      show V.int _ = V.int _
      rw [Nat.zero_add]
  · exact absurd k ns2
def fZip : List D → R (List D)
  | [.lst ds, .lst es] => .ok (ds.zipWith (fun d e => .tup [d, e]) es)
  | [.tup ds, .tup es] => .ok (ds.zipWith (fun d e => .tup [d, e]) es)
  | _ => .stuck
def mZip (a : MA) : MI := fun ρ => (a ρ).bind fZip
theorem zip_get {ds es : List D} {i : Nat} {d : D} (h : (ds.zipWith (fun d e => D.tup [d, e]) es)[i]? = some d) : ∃ a b, ds[i]? = some a ∧ es[i]? = some b ∧ d = .tup [a, b] := by
  rw [List.getElem?_zipWith] at h
  cases h1 : ds[i]? with
  | none => rw [h1] at h; cases h
  | some a =>
    cases h2 : es[i]? with
    | none => rw [h1, h2] at h; cases h
    | some b =>
      rw [h1, h2] at h
      exact ⟨a, b, rfl, rfl, (Option.some.inj h).symm⟩
theorem si_zip (h : SimA mg W μ ta ma) : SimI mg W μ (RZ.iZipA K ta) (mZip ma) := fun ρ σ F H c st Rr q x ns => by
  refine h ρ σ F H c st _ (fun ds vs F0 H' e1 ev r => ?_) (fun y cls dd F' H' e1 ev rx => x y cls dd F' H' (bind_ex e1) ev rx) (bind_stuck (f := fZip) ns)
  have k : mZip ma ρ = fZip ds := by unfold mZip; rw [e1]; rfl
  have ns2 : mZip ma ρ ≠ .stuck := ns
  unfold fZip at k
  split at k
  · rename_i ds es
    obtain ⟨v, w, rfl, ⟨a, vs, rfl, hp, hl⟩, b, ws, rfl, hp2, hl2⟩ := r.two
    refine ⟨a, b, vs, ws, rfl, .inl ⟨SqL.of (ev.sub _ _ hp), SqL.of (ev.sub _ _ hp2), q _ _ F0 H' k ev ⟨fun F H h1 h2 => ?_, fun i F H hi h1 h2 => ?_, fun i F H x H' d h1 h2 y hd => ?_⟩⟩⟩
    · refine ⟨vs, ws, SqL.of (h2 _ _ (h1 _ _ hp)), SqL.of (h2 _ _ (h1 _ _ hp2)), ?_⟩
      rw [List.length_zipWith, RepL.len _ _ hl, RepL.len _ _ hl2]
      omega
    · rw [List.length_zipWith] at hi
      exact ⟨vs, ws, vs[i]'(by rw [RepL.len _ _ hl]; omega), ws[i]'(by rw [RepL.len _ _ hl2]; omega), SqL.of (h2 _ _ (h1 _ _ hp)), SqL.of (h2 _ _ (h1 _ _ hp2)), List.getElem?_eq_getElem _, List.getElem?_eq_getElem _⟩
    · obtain ⟨T, z1, z2, rfl, hT, rfl, y1, y2⟩ := y
      obtain ⟨d1, d2, g1, g2, rfl⟩ := zip_get hd
      obtain ⟨v1, hv1, rv1⟩ := RepL.get hl g1
      obtain ⟨v2, hv2, rv2⟩ := RepL.get hl2 g2
      have ex1 : z1 = v1 := Option.some.inj ((y1 vs (SqL.of (h2 _ _ (h1 _ _ hp)))).symm.trans hv1)
      have ex2 : z2 = v2 := Option.some.inj ((y2 ws (SqL.of (h2 _ _ (h1 _ _ hp2)))).symm.trans hv2)
      subst ex1 ex2
      have ev2 := Ev.new (o := .tup [z1, z2]) h2 hT
      exact ⟨_, ev2, T, _, rfl, upd_same, z1, [z2], rfl, RepD.up ev2.ext _ _ (RepD.up h1 _ _ rv1), z2, [], rfl, RepD.up ev2.ext _ _ (RepD.up h1 _ _ rv2), rfl⟩
  · rename_i ds es
    obtain ⟨v, w, rfl, ⟨a, vs, rfl, hp, hl⟩, b, ws, rfl, hp2, hl2⟩ := r.two
    refine ⟨a, b, vs, ws, rfl, .inr ⟨SqT.of (ev.sub _ _ hp), SqT.of (ev.sub _ _ hp2), q _ _ F0 H' k ev ⟨fun F H h1 h2 => ?_, fun i F H hi h1 h2 => ?_, fun i F H x H' d h1 h2 y hd => ?_⟩⟩⟩
    · refine ⟨vs, ws, SqT.of (h2 _ _ (h1 _ _ hp)), SqT.of (h2 _ _ (h1 _ _ hp2)), ?_⟩
      rw [List.length_zipWith, RepL.len _ _ hl, RepL.len _ _ hl2]
      omega
    · rw [List.length_zipWith] at hi
      exact ⟨vs, ws, vs[i]'(by rw [RepL.len _ _ hl]; omega), ws[i]'(by rw [RepL.len _ _ hl2]; omega), SqT.of (h2 _ _ (h1 _ _ hp)), SqT.of (h2 _ _ (h1 _ _ hp2)), List.getElem?_eq_getElem _, List.getElem?_eq_getElem _⟩
    · obtain ⟨T, z1, z2, rfl, hT, rfl, y1, y2⟩ := y
      obtain ⟨d1, d2, g1, g2, rfl⟩ := zip_get hd
      obtain ⟨v1, hv1, rv1⟩ := RepL.get hl g1
      obtain ⟨v2, hv2, rv2⟩ := RepL.get hl2 g2
      have ex1 : z1 = v1 := Option.some.inj ((y1 vs (SqT.of (h2 _ _ (h1 _ _ hp)))).symm.trans hv1)
      have ex2 : z2 = v2 := Option.some.inj ((y2 ws (SqT.of (h2 _ _ (h1 _ _ hp2)))).symm.trans hv2)
      subst ex1 ex2
      have ev2 := Ev.new (o := .tup [z1, z2]) h2 hT
      exact ⟨_, ev2, T, _, rfl, upd_same, z1, [z2], rfl, RepD.up ev2.ext _ _ (RepD.up h1 _ _ rv1), z2, [], rfl, RepD.up ev2.ext _ _ (RepD.up h1 _ _ rv2), rfl⟩
  · exact absurd k ns2

/-! ### comprehensions -/
def wipeR (ρ : Rho) : List Nat → Rho
  | [] => ρ
  | v :: vs => (wipeR ρ vs).set v none
def wipeM (μ : List Mk) : List Nat → List Mk
  | [] => μ
  | v :: vs => (wipeM μ vs).set v .sh
theorem RepE.wipe {μ : List Mk} {ρ : Rho} {σ : St} {F H : Hp} {c : Cn} (h : RepE F H μ ρ σ c) : ∀ vs : List Nat, ∃ c', RepE F H (wipeM μ vs) (wipeR ρ vs) (L2.wipe σ vs) c' ∧ ∀ a, c' a ≤ c a
  | [] => ⟨c, h, fun _ => Nat.le_refl _⟩
  | v :: vs => by
    obtain ⟨c1, h1, l1⟩ := RepE.wipe h vs
    obtain ⟨c2, h2, l2⟩ := h1.drop v .sh none
    exact ⟨c2, h2, fun a => Nat.le_trans (l2 a) (l1 a)⟩
theorem Stt.wipe {μ : List Mk} {ρ : Rho} {σ : St} {F H : Hp} {c : Cn} (s : Stt μ ρ σ F H c) (vs : List Nat) : ∃ c', Stt (wipeM μ vs) (wipeR ρ vs) (L2.wipe σ vs) F H c' ∧ ∀ a, c' a ≤ c a := by
  obtain ⟨c', h, l⟩ := s.env.wipe vs
  exact ⟨c', ⟨s.sub, h, fun a => Nat.le_trans (l a) (s.one a)⟩, l⟩
abbrev W0 : WX := fun _ _ _ _ => False
/-- the turns of a comprehension -/
def lcGo (g : MG) (t : MT) (e : ME) (ρ : Rho) : List D → R (List D)
  | [] => .ok []
  | d :: ds => (noEx (g d ρ)).bind fun ρ1 => (noEx (t ρ1)).bind fun b => if b then (noEx (e ρ1)).bind fun y => (lcGo g t e ρ ds).bind fun r => .ok (y :: r) else lcGo g t e ρ ds
def mLc (i : MI) (g : MG) (t : MT) (e : ME) (vs : List Nat) : ME := fun ρ => (i ρ).bind fun ds => if small ds.length then (lcGo g t e (wipeR ρ vs) ds).bind fun r => .ok (.lst r) else .stuck
def mYes : MT := fun _ => .ok true
theorem st_yes' : SimT mg W μ tYes mYes := fun ρ σ F H c st Q q x ns => q true F H rfl (Ev.refl st.sub)
theorem noEx_ok {α : Type} {r : R α} {a : α} (h : noEx r = .ok a) : r = .ok a := by cases r <;> first | exact h | cases h
theorem noEx_ns {α : Type} {r : R α} (h : noEx r ≠ .stuck) : ∃ a, r = .ok a := by
  cases r with
  | ok a => exact ⟨a, rfl⟩
  | ex x => exact absurd rfl h
  | stuck => exact absurd rfl h
theorem lcGo_ex {g : MG} {t : MT} {e : ME} {ρ : Rho} {x : Xc} : ∀ ds, lcGo g t e ρ ds ≠ .ex x
  | [] => fun h => nomatch h
  | d :: ds => by
    intro h
    unfold lcGo at h
    cases h1 : g d ρ with
    | ok ρ1 =>
      rw [h1] at h
      have h : ((noEx (t ρ1)).bind fun b => if b then (noEx (e ρ1)).bind fun y => (lcGo g t e ρ ds).bind fun r => .ok (y :: r) else lcGo g t e ρ ds) = .ex x := h
      cases h2 : t ρ1 with
      | ok b =>
        rw [h2] at h
        cases b with
        | true =>
          have h : ((noEx (e ρ1)).bind fun y => (lcGo g t e ρ ds).bind fun r => .ok (y :: r)) = .ex x := h
          cases h3 : e ρ1 with
          | ok y =>
            rw [h3] at h
            have h : ((lcGo g t e ρ ds).bind fun r => .ok (y :: r)) = .ex x := h
            cases h4 : lcGo g t e ρ ds with
            | ok r => rw [h4] at h; cases h
            | ex z => exact lcGo_ex ds h4
            | stuck => rw [h4] at h; cases h
          | ex y => rw [h3] at h; cases h
          | stuck => rw [h3] at h; cases h
        | false => exact lcGo_ex ds h
      | ex y => rw [h2] at h; cases h
      | stuck => rw [h2] at h; cases h
    | ex y => rw [h1] at h; cases h
    | stuck => rw [h1] at h; cases h
theorem RepU.snoc {Rr : D → V → Cn → Prop} {d : D} {v : V} {cv : Cn} (hv : Rr d v cv) : ∀ {ds : List D} {vs : List V} {c : Cn}, RepU Rr ds vs c → RepU Rr (ds ++ [d]) (vs ++ [v]) (fun a => c a + cv a)
  | [], _, c, ⟨e, h⟩ => by rw [e]; exact ⟨v, [], cv, fun _ => 0, rfl, hv, ⟨rfl, fun _ => rfl⟩, fun a => by show c a + cv a = cv a + 0; rw [h]; omega⟩
  | d0 :: ds, _, c, ⟨v0, r, c1, c2, e, h1, h2, h3⟩ => by
    rw [e]
    exact ⟨v0, _, c1, _, rfl, h1, RepU.snoc hv h2, fun a => by show c a + cv a = c1 a + (c2 a + cv a); rw [h3]; omega⟩
theorem RepU.len {Rr : D → V → Cn → Prop} : ∀ {ds : List D} {vs : List V} {c : Cn}, RepU Rr ds vs c → vs.length = ds.length
  | [], _, _, ⟨e, _⟩ => by rw [e]; rfl
  | d :: ds, _, _, ⟨v, r, c1, c2, e, h1, h2, h3⟩ => by rw [e, List.length_cons, List.length_cons, RepU.len h2]
/-- what is known at a turn of a comprehension: i items gone, out of them -/
structure LcAt (F0 H0 : Hp) (cf : Cn) (m : Mk) (Dl : Addr) (out : List D) (F H : Hp) : Prop where
  ext : ∀ a o, F0 a = some o → F a = some o
  sub : ∀ a o, F a = some o → H a = some o
  keep : ∀ a o, H0 a = some o → H a = some o
  fnew : ∀ a, F a ≠ none → F0 a ≠ none ∨ H0 a = none
  fD : F Dl = none
  at_ : ∃ acc co, H Dl = some (.lst acc) ∧ RepU (RepM F H m) out acc co ∧ (∀ a, 0 < co a → H0 a = none ∧ a ≠ Dl) ∧ ∀ a, co a ≤ 1
theorem sim_lc {ti : TI} {ei : MI} {g : TG} {f : MG} {tt : TT} {et : MT} {vs js : List Nat} {μ1 : List Mk} (hi : SimI mg W μ ti ei) (hj : ∀ j, j ∈ js → j ∈ vs) (hg : SimG (wipeM μ vs) js g f μ1) (ht : SimT mg W0 μ1 tt et) (he : SimP mg W0 μ1 te e m) :
    SimP mg W μ (tLc ti g tt te vs) (mLc ei f et e vs) (.ow m) := fun ρ σ F H c st Q q x ns => by
  have fx : mLc ei f et e vs ρ = (ei ρ).bind fun ds => if small ds.length then (lcGo f et e (wipeR ρ vs) ds).bind fun r => .ok (.lst r) else .stuck := rfl
  refine hi ρ σ F H c st _ (fun ds J F0 H0 e1 ev0 wk => ?_) (fun y cls dd F' H' e1 ev rx => x y cls dd F' H' (by rw [fx, e1]; rfl) ev rx) (fun z => ns (by rw [fx, z]; rfl))
  rw [e1] at fx
  have fx : mLc ei f et e vs ρ = if small ds.length then (lcGo f et e (wipeR ρ vs) ds).bind fun r => .ok (.lst r) else .stuck := fx
  by_cases hz : small ds.length = true
  rotate_left
  · rw [if_neg hz] at fx; exact absurd fx ns
  rw [if_pos hz] at fx
  have hrun : ∃ r, lcGo f et e (wipeR ρ vs) ds = .ok r := by
    cases h : lcGo f et e (wipeR ρ vs) ds with
    | ok r => exact ⟨r, rfl⟩
    | ex y => exact absurd h (lcGo_ex ds)
    | stuck => rw [h] at fx; exact absurd fx ns
  obtain ⟨r0, hr0⟩ := hrun
  rw [hr0] at fx
  have fx : mLc ei f et e vs ρ = .ok (.lst r0) := fx
  intro Dl hD
  have st0 := st.ev ev0
  -- the word: behind i items, out made; what is still to come gives the rest
  refine ⟨fun i k H' => k = ds.length - i ∧ i ≤ ds.length ∧ ∃ out rest F', lcGo f et e (wipeR ρ vs) (ds.drop i) = .ok rest ∧ out ++ rest = r0 ∧ out.length ≤ i ∧ LcAt F0 H0 c m Dl out F' H', ⟨ds.length, by simp, Nat.zero_le _, [], r0, F0, hr0, rfl, Nat.le_refl _, ?_⟩, ?_⟩
  · have fD : F0 Dl = none := by
      cases z : F0 Dl with
      | none => rfl
      | some o => rw [ev0.sub _ _ z] at hD; cases hD
    have n := Ev.newO (o := .lst []) ev0.sub hD
    exact ⟨fun _ _ e => e, n.sub, n.keep, n.fnew, fD, [], fun _ => 0, upd_same, ⟨rfl, fun _ => rfl⟩, fun a (z : 0 < 0) => absurd z (by decide), fun _ => Nat.zero_le _⟩
  · rintro i k H1 ⟨rfl, hi, out, rest, F1, hgo, hout, hol, L⟩
    have hDl0 : H0 Dl = none := hD
    by_cases hlt : i < ds.length
    rotate_left
    · -- the end
      left
      have ei : i = ds.length := by omega
      subst ei
      refine ⟨wk.stop F1 H1 L.ext L.sub, ?_⟩
      rw [List.drop_length] at hgo
      have er : rest = [] := by
        have : R.ok ([] : List D) = .ok rest := hgo
        cases this
        rfl
      subst er
      rw [List.append_nil] at hout
      subst hout
      obtain ⟨acc, co, hA, hU, hn, h1⟩ := L.at_
      have evL : Ev F0 H0 F1 H1 := ⟨L.ext, L.sub, L.keep, L.fnew⟩
      refine q (.lst out) (.ref Dl) F1 H1 (fun b => one Dl b + co b) fx (ev0.trans evL) ⟨Dl, co, rfl, L.fD, fun _ => rfl, .inl ⟨out, acc, rfl, hA, hU⟩⟩ (fun a z => ?_) fun a => ?_
      · refine new_back ev0 ?_
        by_cases h : 0 < co a
        · exact (hn a h).1
        · rw [one_pos (p := Dl) (a := a) (by have z : 0 < one Dl a + co a := z; omega)]; exact hD
      · show one Dl a + co a ≤ 1
        by_cases h : a = Dl
        · have : co a = 0 := by
            cases q : co a with
            | zero => rfl
            | succ n => exact absurd h (hn a (by omega)).2
          rw [this]; exact one_le Dl a
        · have : one Dl a = 0 := by unfold one; rw [if_neg h]
          rw [this]; have := h1 a; omega
    · right
      have hget : ds[i]? = some ds[i] := List.getElem?_eq_getElem hlt
      refine ⟨wk.go i F1 H1 hlt L.ext L.sub, fun H' => ∃ out rest F', lcGo f et e (wipeR ρ vs) (ds.drop (i + 1)) = .ok rest ∧ out ++ rest = r0 ∧ out.length ≤ i + 1 ∧ LcAt F0 H0 c m Dl out F' H', fun H' w => ⟨ds.length - (i + 1), by omega, rfl, hlt, w⟩, fun y H2 hy => ?_⟩
      obtain ⟨F2, ev2, ry⟩ := wk.yld i F1 H1 y H2 ds[i] L.ext L.sub hy hget
      have hdrop : ds.drop i = ds[i] :: ds.drop (i + 1) := List.drop_eq_getElem_cons hlt
      rw [hdrop] at hgo
      have hgo : ((noEx (f ds[i] (wipeR ρ vs))).bind fun ρ1 => (noEx (et ρ1)).bind fun b => if b then (noEx (e ρ1)).bind fun y => (lcGo f et e (wipeR ρ vs) (ds.drop (i + 1))).bind fun r => .ok (y :: r) else lcGo f et e (wipeR ρ vs) (ds.drop (i + 1))) = .ok rest := hgo
      obtain ⟨ρ1, g1, hgo⟩ := R.bind_eq_ok hgo
      obtain ⟨b, g2, hgo⟩ := R.bind_eq_ok hgo
      have g1 := noEx_ok g1
      have g2 := noEx_ok g2
      -- the heaps step by step: what LcAt says is carried
      have carry : ∀ {G G' I I' : Hp}, Ev G I G' I' → ∀ {out : List D}, LcAt F0 H0 c m Dl out G I → LcAt F0 H0 c m Dl out G' I' := fun {G G' I I'} ev {out} M => by
        obtain ⟨acc, co, hA, hU, hn, h1⟩ := M.at_
        have own : ∀ a, 0 < co a → I' a = I a ∧ G' a = none := ev.owned (fun a ha => hU.has (fun d v c1 h => h.has) a ha)
        have fDl : G' Dl = none := (ev.owned (c := one Dl) (fun a ha => by rw [one_pos ha]; exact ⟨by rw [hA]; exact fun z => (nomatch z), M.fD⟩) Dl (by unfold one; rw [if_pos rfl]; decide)).2
        refine ⟨fun a o z => ev.ext a o (M.ext a o z), ev.sub, fun a o z => ev.keep a o (M.keep a o z), fun a z => ?_, fDl, acc, co, ev.keep _ _ hA, hU.mono fun d v c1 hle h => h.stay ev.ext fun a ha => own a (by have := hle a; omega), hn, h1⟩
        rcases ev.fnew a z with z | z
        · exact M.fnew a z
        · right
          cases w : H0 a with
          | none => rfl
          | some o => rw [M.keep a o w] at z; cases z
      have L2' := carry ev2 L
      have toEv : ∀ {out : List D} {G I : Hp}, LcAt F0 H0 c m Dl out G I → Ev F0 H0 G I := fun M => ⟨M.ext, M.sub, M.keep, M.fnew⟩
      obtain ⟨cw, stw, lw⟩ := (st0.ev (toEv L2')).wipe vs
      refine hg (wipeR ρ vs) (L2.wipe σ vs) F2 H2 cw ds[i] y stw ry _ (fun ρ1' σ1 c1 e4 st1 lc1 ch => ?_) (by rw [g1]; exact fun z => nomatch z) (fun z w => by rw [g1] at w; cases w)
      rw [g1] at e4
      cases e4
      refine ⟨(wipe_chg (ch.mono hj)).trans wipe_wipe, ?_⟩
      refine ht ρ1 σ1 F2 H2 c1 st1 _ (fun b' F3 H3 e5 ev3 => ?_) (fun z cls dd F' H' e5 _ _ => by rw [g2] at e5; cases e5) (by rw [g2]; exact fun z => nomatch z)
      rw [g2] at e5
      cases e5
      have L3 := carry ev3 L2'
      have st3 := st1.ev ev3
      cases b with
      | false =>
        show ∃ out rest F', _
        exact ⟨out, rest, F3, hgo, hout, by omega, L3⟩
      | true =>
        have hgo : ((noEx (e ρ1)).bind fun y => (lcGo f et e (wipeR ρ vs) (ds.drop (i + 1))).bind fun r => .ok (y :: r)) = .ok rest := hgo
        obtain ⟨d1, g3, hgo⟩ := R.bind_eq_ok hgo
        obtain ⟨r1, g4, hgo⟩ := R.bind_eq_ok hgo
        cases hgo
        have g3 := noEx_ok g3
        refine he ρ1 σ1 F3 H3 c1 st3 _ (fun d v F4 H4 cv e6 ev4 rv nw on => ?_) (fun z cls dd F' H' e6 _ _ => by rw [g3] at e6; cases e6) (by rw [g3]; exact fun z => nomatch z)
        rw [g3] at e6
        cases e6
        obtain ⟨acc, co, hA3, hU3, hn, h1⟩ := L3.at_
        have L4 := carry ev4 L3
        have hA : H4 Dl = some (.lst acc) := ev4.keep _ _ hA3
        have own3 : ∀ a, 0 < co a → H3 a ≠ none ∧ F3 a = none := hU3.has fun d v c1 h => h.has
        have own4 := ev4.owned own3
        have hU : RepU (RepM F4 H4 m) out acc co := hU3.mono fun d v c1 hle h => h.stay ev4.ext fun a ha => own4 a (by have := hle a; omega)
        have hl : acc.length < sizeLine := by
          rw [hU.len]
          exact Nat.lt_of_le_of_lt (Nat.le_trans hol (Nat.le_of_lt hlt)) (small_lt hz)
        refine ⟨acc, hA, hl, out ++ [d1], r1, F4, g4, by rw [List.append_assoc]; exact hout, by rw [List.length_append]; simp; omega, ?_⟩
        -- the list at Dl has grown
        have hcv : ∀ a, 0 < cv a → a ≠ Dl ∧ co a = 0 ∧ H0 a = none := fun a ha => by
          have n3 := nw a ha
          refine ⟨fun z => ?_, ?_, ?_⟩
          · rw [z, hA3] at n3; cases n3
          · cases w : co a with
            | zero => rfl
            | succ n => exact absurd n3 (own3 a (by omega)).1
          · cases w : H0 a with
            | none => rfl
            | some o => rw [L3.keep a o w] at n3; cases n3
        have up : ∀ a, 0 < co a ∨ 0 < cv a → (upd H4 Dl (.lst (acc ++ [v]))) a = H4 a := fun a ha => by
          refine upd_ne (ha.elim (fun z => (hn a z).2) fun z => (hcv a z).1)
        refine ⟨L4.ext, fun a o z => ?_, fun a o z => ?_, L4.fnew, L4.fD, acc ++ [v], fun a => co a + cv a, upd_same, ?_, fun a z => ?_, fun a => ?_⟩
        · rw [upd_ne (fun w => by rw [w, L4.fD] at z; cases z)]; exact L4.sub a o z
        · rw [upd_ne (fun w => by rw [w, hDl0] at z; cases z)]; exact L4.keep a o z
        · exact RepU.snoc (rv.stay (fun _ _ z => z) fun a ha => ⟨up a (.inr ha), (rv.has a ha).2⟩) (hU.mono fun d v c1 hle h => h.stay (fun _ _ z => z) fun a ha => ⟨up a (.inl (by have := hle a; omega)), (h.has a ha).2⟩)
        · by_cases w : 0 < co a
          · exact hn a w
          · have w2 : 0 < cv a := by have z : 0 < co a + cv a := z; omega
            exact ⟨(hcv a w2).2.2, (hcv a w2).1⟩
        · by_cases w : 0 < cv a
          · have := (hcv a w).2.1; have := on a; show co a + cv a ≤ 1; omega
          · have := h1 a; show co a + cv a ≤ 1; omega
end
end Mi
/-! MiG: statements, calls, defs. -/
namespace Mi
open PySem L2

inductive O where
  | nx (ρ : Rho)
  | rt (d : D)
  | bk (ρ : Rho)
  | ct (ρ : Rho)
  | ex (x : Xc) (ρ : Rho)
  | stuck
abbrev MS := Rho → O
/-- an expression's answer, then a statement's -/
def rO {α : Type} (r : R α) (ρ : Rho) (f : α → O) : O := match r with
  | .ok a => f a
  | .ex x => .ex x ρ
  | .stuck => .stuck
@[simp] theorem rO_ok {α : Type} (a : α) (ρ : Rho) (f : α → O) : rO (.ok a) ρ f = f a := rfl
@[simp] theorem rO_ex {α : Type} (x : Xc) (ρ : Rho) (f : α → O) : rO (.ex x : R α) ρ f = .ex x ρ := rfl
@[simp] theorem rO_stuck {α : Type} (ρ : Rho) (f : α → O) : rO (.stuck : R α) ρ f = .stuck := rfl
/-- a loop's body, then the further turns -/
def O.turn (k : Rho → O) : O → O
  | .nx ρ => k ρ
  | .ct ρ => k ρ
  | .bk ρ => .nx ρ
  | .rt d => .rt d
  | .ex x ρ => .ex x ρ
  | .stuck => .stuck
@[simp] theorem turn_nx (k : Rho → O) (ρ : Rho) : (O.nx ρ).turn k = k ρ := rfl
@[simp] theorem turn_ct (k : Rho → O) (ρ : Rho) : (O.ct ρ).turn k = k ρ := rfl
@[simp] theorem turn_bk (k : Rho → O) (ρ : Rho) : (O.bk ρ).turn k = .nx ρ := rfl
@[simp] theorem turn_rt (k : Rho → O) (d : D) : (O.rt d).turn k = .rt d := rfl
@[simp] theorem turn_ex (k : Rho → O) (x : Xc) (ρ : Rho) : (O.ex x ρ).turn k = .ex x ρ := rfl
@[simp] theorem turn_stuck (k : Rho → O) : O.stuck.turn k = .stuck := rfl
/-- the masks behind a statement: at its end, at a break, at a continue, at an exception; of what is returned -/
structure Bx where
  n : List Mk
  b : List Mk := []
  c : List Mk := []
  x : List Mk := []
  r : Mk := .sh
def SimS (mg : Str → Option Value) (W : WX) (μ : List Mk) (t : TS) (s : MS) (B : Bx) : Prop := ∀ ρ σ F H c, Stt μ ρ σ F H c → ∀ Dn : Ends,
  (∀ ρ' σ' F' H' c', s ρ = .nx ρ' → EvS F H c F' H' c' → Stt B.n ρ' σ' F' H' c' → Dn.nx σ' H') →
  (∀ d v F' H' cv, s ρ = .rt d → EvS F H c F' H' cv → (∀ a o, F' a = some o → H' a = some o) → RepM F' H' B.r d v cv → (∀ a, cv a ≤ 1) → Dn.rt v H') →
  (∀ ρ' σ' F' H' c', s ρ = .bk ρ' → EvS F H c F' H' c' → Stt B.b ρ' σ' F' H' c' → Dn.bk σ' H') →
  (∀ ρ' σ' F' H' c', s ρ = .ct ρ' → EvS F H c F' H' c' → Stt B.c ρ' σ' F' H' c' → Dn.ct σ' H') →
  (∀ x cls dd ρ' σ' F' H' c', s ρ = .ex x ρ' → EvS F H c F' H' c' → Stt B.x ρ' σ' F' H' c' → RepX mg x cls dd H' → W cls dd σ' H') →
  s ρ ≠ .stuck → t Dn σ H

/-! ### weakening what is owned -/
def wkM : Mk → Mk → Bool
  | _, .sh => true
  | .sh, .ow _ => false
  | .ow a, .ow b => eqM a b
where eqM : Mk → Mk → Bool
  | .sh, .sh => true
  | .ow a, .ow b => eqM a b
  | _, _ => false
def wk : List Mk → List Mk → Bool
  | [], [] => true
  | a :: as, b :: bs => wkM a b && wk as bs
  | _, _ => false
theorem eqM_eq : ∀ {a b : Mk}, wkM.eqM a b = true → a = b
  | .sh, .sh, _ => rfl
  | .ow a, .ow b, h => by rw [eqM_eq (a := a) (b := b) h]
  | .sh, .ow _, h => by cases h
  | .ow _, .sh, h => by cases h
theorem wkM_or {a b : Mk} (h : wkM a b = true) : a = b ∨ b = .sh := by
  cases b with
  | sh => exact .inr rfl
  | ow b =>
    cases a with
    | sh => cases h
    | ow a => exact .inl (by rw [eqM_eq (a := a) (b := b) h])
theorem freeze_get {F H : Hp} {c : Cn} {a : Addr} : freeze F H c a = if 0 < c a then H a else F a := rfl
theorem RepE.weak {F H : Hp} (hs : ∀ a o, F a = some o → H a = some o) : ∀ {μ μ' : List Mk} {ρ : Rho} {σ : St} {c : Cn}, RepE F H μ ρ σ c → (∀ a, c a ≤ 1) → wk μ μ' = true →
    ∃ cz ck : Cn, (∀ a, c a = cz a + ck a) ∧ RepE (freeze F H cz) H μ' ρ σ ck
  | [], [], _, _, c, ⟨h1, h2, h3⟩, _, _ => ⟨fun _ => 0, c, fun a => (Nat.zero_add _).symm, h1, h2, h3⟩
  | [], _ :: _, _, _, _, _, _, h => by cases h
  | _ :: _, [], _, _, _, _, _, h => by cases h
  | m :: μ, m' :: μ', _, _, c, ⟨o, ρ', x, σ', c1, c2, e1, e2, h1, h2, h3⟩, h4, h => by
    have hh : wkM m m' = true ∧ wk μ μ' = true := by
      have h : (wkM m m' && wk μ μ') = true := h
      rwa [Bool.and_eq_true] at h
    obtain ⟨cz, ck, hc, hr⟩ := RepE.weak hs h2 (fun a => by have := h4 a; rw [h3] at this; omega) hh.2
    have ext : ∀ (cy : Cn), (∀ a, cz a ≤ cy a) → (∀ a, 0 < cy a → F a = none ∨ True) → ∀ a o, freeze F H cz a = some o → freeze F H cy a = some o := fun cy hle _ a o e => by
      rw [freeze_get] at e ⊢
      by_cases q : 0 < cz a
      · rw [if_pos q] at e; rw [if_pos (by have := hle a; omega)]; exact e
      · rw [if_neg q] at e
        by_cases q2 : 0 < cy a
        · rw [if_pos q2]; exact hs a o e
        · rw [if_neg q2]; exact e
    cases o with
    | none =>
      refine ⟨cz, fun a => c1 a + ck a, fun a => by rw [h3, hc]; show c1 a + (cz a + ck a) = cz a + (c1 a + ck a); omega, none, ρ', x, σ', c1, ck, e1, e2, h1, hr, fun a => rfl⟩
    | some d =>
      obtain ⟨v, ev, hv⟩ := h1
      rcases wkM_or hh.1 with e | e
      · subst e
        refine ⟨cz, fun a => c1 a + ck a, fun a => by rw [h3, hc]; show c1 a + (cz a + ck a) = cz a + (c1 a + ck a); omega, some d, ρ', x, σ', c1, ck, e1, e2, ⟨v, ev, hv.stay (fun a o z => ?_) fun a ha => ⟨rfl, ?_⟩⟩, hr, fun a => rfl⟩
        · rw [freeze_get]
          by_cases q : 0 < cz a
          · rw [if_pos q]; exact hs a o z
          · rw [if_neg q]; exact z
        · have h5 := h4 a
          rw [h3, hc] at h5
          rw [freeze_get, if_neg (by omega)]
          exact (hv.has a ha).2
      · subst e
        refine ⟨fun a => c1 a + cz a, ck, fun a => by rw [h3, hc]; show c1 a + (cz a + ck a) = c1 a + cz a + ck a; omega, some d, ρ', x, σ', fun _ => 0, ck, e1, e2, ⟨v, ev, RepD.up (fun a o z => ?_) _ _ (hv.freeze hs), fun _ => rfl⟩, ?_, fun a => (Nat.zero_add _).symm⟩
        · rw [freeze_get] at z ⊢
          by_cases q : 0 < c1 a
          · rw [if_pos q] at z; rw [if_pos (by show 0 < c1 a + cz a; omega)]; exact z
          · rw [if_neg q] at z
            by_cases q2 : 0 < c1 a + cz a
            · rw [if_pos q2]; exact hs a o z
            · rw [if_neg q2]; exact z
        · refine hr.stay (ext _ (fun a => Nat.le_add_left _ _) fun _ _ => .inr trivial) fun a ha => ⟨rfl, ?_⟩
          have h1 := h4 a
          rw [h3, hc] at h1
          have h2 := (hr.has a ha).2
          rw [freeze_get, if_neg (by omega)] at h2
          rw [freeze_get, if_neg (by show ¬ 0 < c1 a + cz a; omega)]
          exact h2
/-- owned slots may be shared at any time -/
theorem Stt.weak {μ μ' : List Mk} {ρ : Rho} {σ : St} {F H : Hp} {c : Cn} (s : Stt μ ρ σ F H c) (h : wk μ μ' = true) : ∃ F' c', Stt μ' ρ σ F' H c' ∧ EvS F H c F' H c' := by
  obtain ⟨cz, ck, hc, hr⟩ := s.env.weak s.sub s.one h
  refine ⟨freeze F H cz, ck, ⟨fun a o e => ?_, hr, fun a => by have := s.one a; rw [hc] at this; omega⟩, fun a o e => ?_, fun a o e _ => e, fun a e => ?_, fun a e => .inl (by rw [hc]; omega)⟩
  · rw [freeze_get] at e
    by_cases q : 0 < cz a
    · rw [if_pos q] at e; exact e
    · rw [if_neg q] at e; exact s.sub a o e
  · rw [freeze_get]
    by_cases q : 0 < cz a
    · rw [if_pos q]; exact s.sub a o e
    · rw [if_neg q]; exact e
  · rw [freeze_get] at e
    by_cases q : 0 < cz a
    · exact .inr (.inr (by rw [hc]; omega))
    · rw [if_neg q] at e; exact .inl e

section
variable {K : PySem.W.Frag} {mg : Str → Option Value} {W : WX} {μ μ1 : List Mk} {te ta tb : TE} {e ea eb : ME} {m : Mk} {B : Bx} {t u : TS} {s s' : MS}
/-- sharing ahead of a statement -/
theorem ss_pre (h : wk μ μ1 = true) (hs : SimS mg W μ1 t s B) : SimS mg W μ t s B := fun ρ σ F H c st Dn n r b ct x ns => by
  obtain ⟨F1, c1, st1, ev1⟩ := st.weak h
  exact hs ρ σ F1 H c1 st1 Dn (fun ρ' σ' F' H' c' e ev => n ρ' σ' F' H' c' e (ev1.trans ev)) (fun d v F' H' cv e ev => r d v F' H' cv e (ev1.trans ev)) (fun ρ' σ' F' H' c' e ev => b ρ' σ' F' H' c' e (ev1.trans ev))
    (fun ρ' σ' F' H' c' e ev => ct ρ' σ' F' H' c' e (ev1.trans ev)) (fun y cls dd ρ' σ' F' H' c' e ev => x y cls dd ρ' σ' F' H' c' e (ev1.trans ev)) ns
/-- an expression's end at a statement's -/
theorem Ev.sS {F H F' H' : Hp} {c : Cn} (e : Ev F H F' H') : EvS F H c F' H' c := e.s fun a z => .inl z
/-- an exception out of an expression, the masks weakened -/
theorem ex_out {ρ : Rho} {σ : St} {F H F' H' : Hp} {c : Cn} {x : Xc} {cls : Value} {dd : Option Addr} (st : Stt μ ρ σ F H c) (ev : Ev F H F' H') (hx : wk μ B.x = true) (rx : RepX mg x cls dd H')
    (k : ∀ x cls dd ρ' σ' F' H' c', s ρ = .ex x ρ' → EvS F H c F' H' c' → Stt B.x ρ' σ' F' H' c' → RepX mg x cls dd H' → W cls dd σ' H') (e : s ρ = .ex x ρ) : W cls dd σ H' := by
  obtain ⟨F2, c2, st2, ev2⟩ := (st.ev ev).weak hx
  exact k x cls dd ρ σ F2 H' c2 e (ev.sS.trans ev2) st2 rx

/-! ### blocks -/
def mNext : MS := fun ρ => .nx ρ
def mSeq (s s' : MS) : MS := fun ρ => match s ρ with
  | .nx ρ' => s' ρ'
  | o => o
theorem ss_nil (h : wk μ B.n = true) : SimS mg W μ tNext mNext B := fun ρ σ F H c st Dn n r b ct x ns => by
  obtain ⟨F', c', st', ev⟩ := st.weak h
  exact n ρ σ F' H c' rfl ev st'
theorem ss_cons (h1 : SimS mg W μ t s { B with n := μ1 }) (h2 : SimS mg W μ1 u s' B) : SimS mg W μ (tSeq t u) (mSeq s s') B := fun ρ σ F H c st Dn n r b ct x ns => by
  refine h1 ρ σ F H c st { Dn with nx := u Dn } (fun ρ1 σ1 F1 H1 c1 e1 ev1 st1 => ?_) (fun d v F' H' cv e1 => r d v F' H' cv (by unfold mSeq; rw [e1])) (fun ρ' σ' F' H' c' e1 => b ρ' σ' F' H' c' (by unfold mSeq; rw [e1])) (fun ρ' σ' F' H' c' e1 => ct ρ' σ' F' H' c' (by unfold mSeq; rw [e1]))
    (fun y cls dd ρ' σ' F' H' c' e1 => x y cls dd ρ' σ' F' H' c' (by unfold mSeq; rw [e1])) (fun z => ns (by unfold mSeq; rw [z]))
  have k : mSeq s s' ρ = s' ρ1 := by unfold mSeq; rw [e1]
  exact h2 ρ1 σ1 F1 H1 c1 st1 Dn (fun ρ' σ' F' H' c' e ev => n ρ' σ' F' H' c' (k.trans e) (ev1.trans ev)) (fun d v F' H' cv e ev => r d v F' H' cv (k.trans e) (ev1.trans ev)) (fun ρ' σ' F' H' c' e ev => b ρ' σ' F' H' c' (k.trans e) (ev1.trans ev))
    (fun ρ' σ' F' H' c' e ev => ct ρ' σ' F' H' c' (k.trans e) (ev1.trans ev)) (fun y cls dd ρ' σ' F' H' c' e ev => x y cls dd ρ' σ' F' H' c' (k.trans e) (ev1.trans ev)) (fun z => ns (k.trans z))
def mBrk : MS := fun ρ => .bk ρ
def mCont : MS := fun ρ => .ct ρ
theorem ss_brk (h : wk μ B.b = true) : SimS mg W μ tBreak mBrk B := fun ρ σ F H c st Dn n r b ct x ns => by
  obtain ⟨F', c', st', ev⟩ := st.weak h
  exact b ρ σ F' H c' rfl ev st'
theorem ss_cont (h : wk μ B.c = true) : SimS mg W μ tCont mCont B := fun ρ σ F H c st Dn n r b ct x ns => by
  obtain ⟨F', c', st', ev⟩ := st.weak h
  exact ct ρ σ F' H c' rfl ev st'

/-! ### assignments -/
def mSet (i : Nat) (e : ME) : MS := fun ρ => rO (e ρ) ρ fun d => .nx (ρ.set i (some d))
theorem RepM.out {F H F' H' : Hp} {c cv : Cn} {d : D} {v : V} {m : Mk} {μ : List Mk} {ρ : Rho} {σ : St} (st : Stt μ ρ σ F H c) (new : ∀ a, 0 < cv a → H a = none) (on : ∀ a, cv a ≤ 1) : ∀ a, c a + cv a ≤ 1 := fun a => by
  by_cases h : 0 < cv a
  · have h1 := new a h
    have h2 : ¬ 0 < c a := fun z => (st.env.has a z).1 h1
    have := on a
    omega
  · have := st.one a
    omega
theorem ss_set {i : Nat} (he : SimP mg W μ te e m) (hi : Nat.blt i μ.length = true) (hn : wk (μ.set i m) B.n = true) (hx : wk μ B.x = true) : SimS mg W μ (tAsg te (gName i)) (mSet i e) B := fun ρ σ F H c st Dn n r b ct x ns => by
  refine he ρ σ F H c st _ (fun d v F' H' cv e1 ev rv new on => ?_) (fun y cls dd F' H' e1 ev rx => ex_out st ev hx rx x (by unfold mSet; rw [e1]; rfl)) (fun z => ns (by unfold mSet; rw [z]; rfl))
  have st1 := st.ev ev
  obtain ⟨c', st2, l2⟩ := st1.put (Nat.le_of_ble_eq_true hi) rv (RepM.out (F' := F') (H' := H') (d := d) (v := v) (m := m) st new on)
  obtain ⟨F3, c3, st3, ev3⟩ := st2.weak hn
  refine n _ _ F3 H' c3 (by unfold mSet; rw [e1]; rfl) (EvS.trans (ev.s fun a z => ?_) ev3) st3
  by_cases q : 0 < c a
  · exact .inl q
  · exact .inr (new a (by have := l2 a; omega))
def mAsgG (e : ME) (f : MG) : MS := fun ρ => rO (e ρ) ρ fun d => rO (noEx (f d ρ)) ρ .nx
theorem ss_asgG {g : TG} {f : MG} {js : List Nat} {μ' : List Mk} (he : SimP mg W μ te e .sh) (hg : SimG μ js g f μ') (hn : wk μ' B.n = true) (hx : wk μ B.x = true) : SimS mg W μ (tAsg te g) (mAsgG e f) B := fun ρ σ F H c st Dn n r b ct x ns => by
  refine he ρ σ F H c st _ (fun d v F' H' cv e1 ev rv new on => ?_) (fun y cls dd F' H' e1 ev rx => ex_out st ev hx rx x (by unfold mAsgG; rw [e1]; rfl)) (fun z => ns (by unfold mAsgG; rw [z]; rfl))
  have k : mAsgG e f ρ = rO (noEx (f d ρ)) ρ .nx := by unfold mAsgG; rw [e1]; rfl
  refine hg ρ σ F' H' c d v (st.ev ev) rv.1 _ (fun ρ' σ' c' e2 st2 l2 _ => ?_) (fun z => ns (by rw [k, z]; rfl)) (fun y z => ns (by rw [k, z]; rfl))
  obtain ⟨F3, c3, st3, ev3⟩ := st2.weak hn
  exact n ρ' σ' F3 H' c3 (by rw [k, e2]; rfl) (EvS.trans (ev.s fun a z => .inl (by have := l2 a; omega)) ev3) st3
/-- a, b = x, y -/
def parD (i j : Nat) (ρ : Rho) : List D → O
  | [d, e] => .nx ((ρ.set i (some d)).set j (some e))
  | _ => .stuck
def mPar (i j : Nat) (a : MA) : MS := fun ρ => rO (a ρ) ρ (parD i j ρ)
theorem ss_par {i j : Nat} {ta : TA} {ma : MA} (ha : SimA mg W μ ta ma) (hi : Nat.blt i μ.length = true) (hj : Nat.blt j μ.length = true) (hn : wk ((μ.set i .sh).set j .sh) B.n = true) (hx : wk μ B.x = true) : SimS mg W μ (tPar i j ta) (mPar i j ma) B := fun ρ σ F H c st Dn n r b ct x ns => by
  refine ha ρ σ F H c st _ (fun ds vs F' H' e1 ev rv => ?_) (fun y cls dd F' H' e1 ev rx => ex_out st ev hx rx x (by unfold mPar; rw [e1]; rfl)) (fun z => ns (by unfold mPar; rw [z]; rfl))
  have ns2 : mPar i j ma ρ ≠ .stuck := ns
  have k : mPar i j ma ρ = parD i j ρ ds := by unfold mPar; rw [e1]; rfl
  unfold parD at k
  split at k
  · rename_i d e
    obtain ⟨v, w, rfl, rv1, rw1⟩ := RepL.two rv
    have st1 := st.ev ev
    obtain ⟨c2, st2, l2⟩ := st1.put (Nat.le_of_ble_eq_true hi) (m := .sh) (d := d) (v := v) (cv := fun _ => 0) ⟨rv1, fun _ => rfl⟩ (fun a => st1.one a)
    obtain ⟨c3, st3, l3⟩ := st2.put (i := j) (by rw [List.length_set]; exact Nat.le_of_ble_eq_true hj) (m := .sh) (d := e) (v := w) (cv := fun _ => 0) ⟨rw1, fun _ => rfl⟩ (fun a => st2.one a)
    obtain ⟨F4, c4, st4, ev4⟩ := st3.weak hn
    exact ⟨v, w, rfl, n _ _ F4 H' c4 k (EvS.trans (ev.s fun a z => .inl (by have := l2 a; have := l3 a; omega)) ev4) st4⟩
  · exact absurd k ns2
/-- x op= e -/
def mAug (f : D → D → R D) (i : Nat) (e : ME) : MS := fun ρ => rO ((mVar i ρ).bind fun d => (e ρ).bind fun y => f d y) ρ fun z => .nx (ρ.set i (some z))
theorem ss_aug {i : Nat} {f : D → D → R D} {r : R2} (hr : OpS r f) (he : SimR mg W μ te e) (hi : Nat.blt i μ.length = true) (hn : wk (μ.set i .sh) B.n = true) (hx : wk μ B.x = true) : SimS mg W μ (tAug i te r) (mAug f i e) B := fun ρ σ F H c st Dn n rr b ct x ns => by
  cases hd : ρ[i]? with
  | none => exact absurd (show mAug f i e ρ = .stuck by unfold mAug mVar; rw [hd]; rfl) ns
  | some o =>
    cases o with
    | none => exact absurd (show mAug f i e ρ = .stuck by unfold mAug mVar; rw [hd]; rfl) ns
    | some d =>
      have k : mAug f i e ρ = rO ((e ρ).bind fun y => f d y) ρ fun z => .nx (ρ.set i (some z)) := by unfold mAug mVar; rw [hd]; rfl
      have hi' : i < μ.length := Nat.le_of_ble_eq_true hi
      obtain ⟨v, c1, c2, s1, rv, _, _⟩ := st.env.slot (List.getElem?_eq_getElem hi') hd
      refine ⟨v, s1, ?_⟩
      refine he ρ σ F H c st _ (fun y w F' H' e1 ev ry => ?_) (fun y cls dd F' H' e1 ev rx => ex_out st ev hx rx x (by rw [k, e1]; rfl)) (fun z => ns (by rw [k, z]; rfl))
      rw [e1] at k
      have k : mAug f i e ρ = rO (f d y) ρ fun z => .nx (ρ.set i (some z)) := k
      cases hf : f d y with
      | ok z =>
        rw [hf] at k
        refine hr.2 d y v w H' _ z (RepD.up ev.keep _ _ (rv.toD st.sub)) ry hf fun u ru => ?_
        have st1 := st.ev ev
        obtain ⟨c3, st3, l3⟩ := st1.put hi' (m := .sh) (d := z) (v := u) (cv := fun _ => 0) ⟨ru F', fun _ => rfl⟩ (fun a => st1.one a)
        obtain ⟨F4, c4, st4, ev4⟩ := st3.weak hn
        exact n _ _ F4 H' c4 k (EvS.trans (ev.s fun a z => .inl (by have := l3 a; omega)) ev4) st4
      | ex q => exact absurd hf (hr.1 d y q)
      | stuck => rw [hf] at k; exact absurd k ns
/-- a value that is dropped -/
def mDrop (e : ME) : MS := fun ρ => rO (e ρ) ρ fun _ => .nx ρ
theorem ss_drop (he : SimP mg W μ te e m) (hn : wk μ B.n = true) (hx : wk μ B.x = true) : SimS mg W μ (tDrop te) (mDrop e) B := fun ρ σ F H c st Dn n r b ct x ns => by
  refine he ρ σ F H c st _ (fun d v F' H' cv e1 ev rv new on => ?_) (fun y cls dd F' H' e1 ev rx => ex_out st ev hx rx x (by unfold mDrop; rw [e1]; rfl)) (fun z => ns (by unfold mDrop; rw [z]; rfl))
  obtain ⟨F3, c3, st3, ev3⟩ := (st.ev ev).weak hn
  exact n ρ σ F3 H' c3 (by unfold mDrop; rw [e1]; rfl) (ev.sS.trans ev3) st3

/-! ### if, return -/
def mIf (c : MT) (a b : MS) : MS := fun ρ => rO (c ρ) ρ fun z => if z then a ρ else b ρ
theorem ss_if {tc : TT} {ec : MT} (hc : SimT mg W μ tc ec) (h1 : SimS mg W μ t s B) (h2 : SimS mg W μ u s' B) (hx : wk μ B.x = true) : SimS mg W μ (tIfS tc t u) (mIf ec s s') B := fun ρ σ F H c st Dn n r b ct x ns => by
  refine hc ρ σ F H c st _ (fun z F1 H1 e1 ev => ?_) (fun y cls dd F' H' e1 ev rx => ex_out st ev hx rx x (by unfold mIf; rw [e1]; rfl)) (fun z => ns (by unfold mIf; rw [z]; rfl))
  cases z with
  | true =>
    have k : mIf ec s s' ρ = s ρ := by unfold mIf; rw [e1]; rfl
    exact h1 ρ σ F1 H1 c (st.ev ev) Dn (fun ρ' σ' F' H' c' e2 ev2 => n ρ' σ' F' H' c' (k.trans e2) (ev.sS.trans ev2)) (fun d v F' H' cv e2 ev2 => r d v F' H' cv (k.trans e2) (ev.sS.trans ev2)) (fun ρ' σ' F' H' c' e2 ev2 => b ρ' σ' F' H' c' (k.trans e2) (ev.sS.trans ev2))
      (fun ρ' σ' F' H' c' e2 ev2 => ct ρ' σ' F' H' c' (k.trans e2) (ev.sS.trans ev2)) (fun y cls dd ρ' σ' F' H' c' e2 ev2 => x y cls dd ρ' σ' F' H' c' (k.trans e2) (ev.sS.trans ev2)) (fun z => ns (k.trans z))
  | false =>
    have k : mIf ec s s' ρ = s' ρ := by unfold mIf; rw [e1]; rfl
    exact h2 ρ σ F1 H1 c (st.ev ev) Dn (fun ρ' σ' F' H' c' e2 ev2 => n ρ' σ' F' H' c' (k.trans e2) (ev.sS.trans ev2)) (fun d v F' H' cv e2 ev2 => r d v F' H' cv (k.trans e2) (ev.sS.trans ev2)) (fun ρ' σ' F' H' c' e2 ev2 => b ρ' σ' F' H' c' (k.trans e2) (ev.sS.trans ev2))
      (fun ρ' σ' F' H' c' e2 ev2 => ct ρ' σ' F' H' c' (k.trans e2) (ev.sS.trans ev2)) (fun y cls dd ρ' σ' F' H' c' e2 ev2 => x y cls dd ρ' σ' F' H' c' (k.trans e2) (ev.sS.trans ev2)) (fun z => ns (k.trans z))
def mRet (e : ME) : MS := fun ρ => rO (e ρ) ρ .rt
theorem ss_ret (he : SimP mg W μ te e B.r) (hx : wk μ B.x = true) : SimS mg W μ (tRet te) (mRet e) B := fun ρ σ F H c st Dn n r b ct x ns => by
  refine he ρ σ F H c st _ (fun d v F' H' cv e1 ev rv new on => ?_) (fun y cls dd F' H' e1 ev rx => ex_out st ev hx rx x (by unfold mRet; rw [e1]; rfl)) (fun z => ns (by unfold mRet; rw [z]; rfl))
  exact r d v F' H' cv (by unfold mRet; rw [e1]; rfl) (ev.s fun a z => .inr (new a z)) ev.sub rv on
def mRetN : MS := fun _ => .rt .non
theorem ss_retN (h : B.r = .sh) : SimS mg W μ tRetN mRetN B := fun ρ σ F H c st Dn n r b ct x ns => by
  exact r .non .non F H (fun _ => 0) rfl ⟨fun _ _ e => e, fun _ _ e _ => e, fun _ e => .inl e, fun a z => absurd z (Nat.lt_irrefl 0)⟩ st.sub (by rw [h]; exact ⟨rfl, fun _ => rfl⟩) fun _ => Nat.zero_le _
/-- return x, x an owned name: it goes out with the frame -/
theorem ss_retV {i : Nat} {m : Mk} (hm : μ[i]? = some m) (hr : B.r = m) : SimS mg W μ (tRet (tVar i)) (mRet (mVar i)) B := fun ρ σ F H c st Dn n r b ct x ns => by
  cases hd : ρ[i]? with
  | none => exact absurd (show mRet (mVar i) ρ = .stuck by unfold mRet mVar; rw [hd]; rfl) ns
  | some o =>
    cases o with
    | none => exact absurd (show mRet (mVar i) ρ = .stuck by unfold mRet mVar; rw [hd]; rfl) ns
    | some d =>
      obtain ⟨v, c1, c2, s1, rv, hc, _⟩ := st.env.slot hm hd
      refine ⟨v, s1, r d v F H c1 (by unfold mRet mVar; rw [hd]; rfl) ⟨fun _ _ e => e, fun _ _ e _ => e, fun _ e => .inl e, fun a z => .inl (by rw [hc]; omega)⟩ st.sub (by rw [hr]; exact rv) fun a => by have := st.one a; rw [hc] at this; omega⟩

/-! ### loops -/
def mGo (g : MG) (s : MS) : List D → Rho → O
  | [], ρ => .nx ρ
  | d :: ds, ρ => rO (noEx (g d ρ)) ρ fun ρ1 => (s ρ1).turn (mGo g s ds)
def mFor (i : MI) (g : MG) (s : MS) : MS := fun ρ => rO (i ρ) ρ fun ds => mGo g s ds ρ
theorem ss_for {ti : TI} {ei : MI} {g : TG} {f : MG} {js : List Nat} {μg : List Mk} (hi : SimI mg W μ ti ei) (hw : wk μ B.n = true) (hg : SimG B.n js g f μg) (hs : SimS mg W μg t s { n := B.n, b := B.n, c := B.n, x := B.x, r := B.r }) (hx : wk μ B.x = true) :
    SimS mg W μ (tFor ti g t) (mFor ei f s) B := fun ρ σ F H c st Dn n r b ct x ns => by
  refine hi ρ σ F H c st _ (fun ds J F0 H0 e1 ev0 wkD => ?_) (fun y cls dd F' H' e1 ev rx => ex_out st ev hx rx x (by unfold mFor; rw [e1]; rfl)) (fun z => ns (by unfold mFor; rw [z]; rfl))
  have k : mFor ei f s ρ = mGo f s ds ρ := by unfold mFor; rw [e1]; rfl
  rw [k] at ns n r b ct x
  obtain ⟨F1, c1, st1, ev1⟩ := (st.ev ev0).weak hw
  have ev01 : EvS F H c F1 H0 c1 := ev0.sS.trans ev1
  refine ⟨fun i k σ' H' => k = ds.length - i ∧ i ≤ ds.length ∧ ∃ ρ' F' c', mGo f s ds ρ = mGo f s (ds.drop i) ρ' ∧ Stt B.n ρ' σ' F' H' c' ∧ EvS F H c F' H' c' ∧ ∀ a o, F0 a = some o → F' a = some o, ⟨ds.length, by simp, Nat.zero_le _, ρ, F1, c1, rfl, st1, ev01, ev1.ext⟩, ?_⟩
  rintro i kk σ' H' ⟨rfl, hi', ρ', F', c', hgo, st', ev', hF0⟩
  by_cases hlt : i < ds.length
  rotate_left
  · left
    have ei : i = ds.length := by omega
    subst ei
    rw [List.drop_length] at hgo
    exact ⟨wkD.stop F' H' hF0 st'.sub, n ρ' σ' F' H' c' hgo ev' st'⟩
  · right
    have hget : ds[i]? = some ds[i] := List.getElem?_eq_getElem hlt
    refine ⟨wkD.go i F' H' hlt hF0 st'.sub, fun σ2 H2 => ∃ ρ2 F2 c2, mGo f s ds ρ = mGo f s (ds.drop (i + 1)) ρ2 ∧ Stt B.n ρ2 σ2 F2 H2 c2 ∧ EvS F H c F2 H2 c2 ∧ ∀ a o, F0 a = some o → F2 a = some o, fun σ2 H2 w => ⟨ds.length - (i + 1), by omega, rfl, hlt, w⟩, fun y H2 hy => ?_⟩
    obtain ⟨F2, ev2, ry⟩ := wkD.yld i F' H' y H2 ds[i] hF0 st'.sub hy hget
    have hdrop : ds.drop i = ds[i] :: ds.drop (i + 1) := List.drop_eq_getElem_cons hlt
    rw [hdrop] at hgo
    have hgo' : mGo f s ds ρ = rO (noEx (f ds[i] ρ')) ρ' fun ρ1 => (s ρ1).turn (mGo f s (ds.drop (i + 1))) := hgo
    refine hg ρ' σ' F2 H2 c' ds[i] y (st'.ev ev2) ry _ (fun ρ1 σ1 c1' e3 st3 l3 _ => ?_) (fun z => ns (by rw [hgo', z]; rfl)) (fun y z => ns (by rw [hgo', z]; rfl))
    rw [e3] at hgo'
    have hgo' : mGo f s ds ρ = (s ρ1).turn (mGo f s (ds.drop (i + 1))) := hgo'
    have ev3 : EvS F H c F2 H2 c1' := ev'.trans (ev2.s fun a z => .inl (by have := l3 a; omega))
    have hF2 : ∀ a o, F0 a = some o → F2 a = some o := fun a o z => ev2.ext a o (hF0 a o z)
    refine hs ρ1 σ1 F2 H2 c1' st3 _ (fun ρ4 σ4 F4 H4 c4 e4 ev4 st4 => ?_) (fun d v F4 H4 cv e4 ev4 => ?_) (fun ρ4 σ4 F4 H4 c4 e4 ev4 st4 => ?_) (fun ρ4 σ4 F4 H4 c4 e4 ev4 st4 => ?_) (fun y cls dd ρ4 σ4 F4 H4 c4 e4 ev4 => ?_) (fun z => ns (by rw [hgo', z]; rfl))
    · rw [e4] at hgo'
      exact ⟨ρ4, F4, c4, hgo', st4, ev3.trans ev4, fun a o z => ev4.ext a o (hF2 a o z)⟩
    · rw [e4] at hgo'
      exact r d v F4 H4 cv hgo' (ev3.trans ev4)
    · rw [e4] at hgo'
      exact n ρ4 σ4 F4 H4 c4 hgo' (ev3.trans ev4) st4
    · rw [e4] at hgo'
      exact ⟨ρ4, F4, c4, hgo', st4, ev3.trans ev4, fun a o z => ev4.ext a o (hF2 a o z)⟩
    · rw [e4] at hgo'
      exact x y cls dd ρ4 σ4 F4 H4 c4 hgo' (ev3.trans ev4)
/-- while, at most so many turns -/
def mWh (c : MT) (s : MS) : Nat → Rho → O
  | 0, _ => .stuck
  | k + 1, ρ => rO (c ρ) ρ fun z => if z then (s ρ).turn (mWh c s k) else .nx ρ
theorem ss_while {tc : TT} {ec : MT} {k : Nat} (hw : wk μ B.n = true) (hc : SimT mg W B.n tc ec) (hs : SimS mg W B.n t s { n := B.n, b := B.n, c := B.n, x := B.x, r := B.r }) (hx : wk B.n B.x = true) : SimS mg W μ (tWhile tc t) (mWh ec s k) B := fun ρ σ F H c st Dn n r b ct x ns => by
  obtain ⟨F1, c1, st1, ev1⟩ := st.weak hw
  refine ⟨fun j σ' H' => ∃ ρ' F' c', mWh ec s k ρ = mWh ec s j ρ' ∧ Stt B.n ρ' σ' F' H' c' ∧ EvS F H c F' H' c', ⟨k, ρ, F1, c1, rfl, st1, ev1⟩, ?_⟩
  rintro j σ' H' ⟨ρ', F', c', hgo, st', ev'⟩
  cases j with
  | zero => exact absurd hgo ns
  | succ j =>
    have hgo' : mWh ec s k ρ = rO (ec ρ') ρ' fun z => if z then (s ρ').turn (mWh ec s j) else .nx ρ' := hgo
    refine hc ρ' σ' F' H' c' st' _ (fun z F2 H2 e2 ev2 => ?_) (fun y cls dd F2 H2 e2 ev2 rx => ?_) (fun z => ns (by rw [hgo', z]; rfl))
    · rw [e2] at hgo'
      have ev3 : EvS F H c F2 H2 c' := ev'.trans ev2.sS
      cases z with
      | false =>
        rw [if_neg Bool.false_ne_true]
        exact n ρ' σ' F2 H2 c' hgo' ev3 (st'.ev ev2)
      | true =>
        have hgo' : mWh ec s k ρ = (s ρ').turn (mWh ec s j) := hgo'
        rw [if_pos rfl]
        refine ⟨fun σ2 H2 => ∃ ρ2 F2 c2, mWh ec s k ρ = mWh ec s j ρ2 ∧ Stt B.n ρ2 σ2 F2 H2 c2 ∧ EvS F H c F2 H2 c2, fun σ2 H2 w => ⟨j, by omega, w⟩, ?_⟩
        refine hs ρ' σ' F2 H2 c' (st'.ev ev2) _ (fun ρ4 σ4 F4 H4 c4 e4 ev4 st4 => ?_) (fun d v F4 H4 cv e4 ev4 => ?_) (fun ρ4 σ4 F4 H4 c4 e4 ev4 st4 => ?_) (fun ρ4 σ4 F4 H4 c4 e4 ev4 st4 => ?_) (fun y cls dd ρ4 σ4 F4 H4 c4 e4 ev4 => ?_) (fun z => ns (by rw [hgo', z]; rfl))
        · rw [e4] at hgo'
          exact ⟨ρ4, F4, c4, hgo', st4, ev3.trans ev4⟩
        · rw [e4] at hgo'
          exact r d v F4 H4 cv hgo' (ev3.trans ev4)
        · rw [e4] at hgo'
          exact n ρ4 σ4 F4 H4 c4 hgo' (ev3.trans ev4) st4
        · rw [e4] at hgo'
          exact ⟨ρ4, F4, c4, hgo', st4, ev3.trans ev4⟩
        · rw [e4] at hgo'
          exact x y cls dd ρ4 σ4 F4 H4 c4 hgo' (ev3.trans ev4)
    · rw [e2] at hgo'
      obtain ⟨F5, c5, st5, ev5⟩ := (st'.ev ev2).weak hx
      exact x y cls dd ρ' σ' F5 H2 c5 hgo' ((ev'.trans ev2.sS).trans ev5) st5 rx
end
end Mi
/-! MiH: what is owned is changed in its place. -/
namespace Mi
open PySem L2

def SimPl (mg : Str → Option Value) (W : WX) (μ : List Mk) (t : TE) (get : ME) (put : Rho → D → Rho) (m : Mk) : Prop := ∀ ρ σ F H c, Stt μ ρ σ F H c → ∀ Q : VK,
  (∀ (d : D) (a : Addr) (F1 H1 : Hp) (c1 c2 : Cn), get ρ = .ok d → Ev F H F1 H1 → RepM F1 H1 m d (.ref a) c1 → (∀ b, c b = c1 b + c2 b) →
    (∀ (F' H' : Hp) (d' : D) (c' : Cn), RepM F' H' m d' (.ref a) c' → (∀ a o, F1 a = some o → F' a = some o) → (∀ b, 0 < c2 b → H' b = H1 b ∧ F' b = none) → RepE F' H' μ (put ρ d') σ (fun b => c' b + c2 b)) → Q (.ref a) H1) →
  (∀ x cls dd F' H', get ρ = .ex x → Ev F H F' H' → RepX mg x cls dd H' → W cls dd σ H') → get ρ ≠ .stuck → t σ H Q
def putV (i : Nat) : Rho → D → Rho := fun ρ d => ρ.set i (some d)
theorem set_same {α : Type} : ∀ {l : List α} {i : Nat} {x : α}, l[i]? = some x → l.set i x = l
  | [], _, _, h => by simp at h
  | a :: l, 0, x, h => by
    simp at h
    rw [h]
    rfl
  | a :: l, i + 1, x, h => by
    show a :: l.set i x = a :: l
    rw [set_same (l := l) (i := i) (x := x) (by simpa using h)]
section
variable {K : PySem.W.Frag} {mg : Str → Option Value} {W : WX} {μ : List Mk} {te ti tp : TE} {e ei get : ME} {put : Rho → D → Rho} {m : Mk} {B : Bx}
theorem pl_var {i : Nat} (hm : μ[i]? = some (.ow m)) : SimPl mg W μ (tVar i) (mVar i) (putV i) (.ow m) := fun ρ σ F H c st Q q x ns => by
  cases hd : ρ[i]? with
  | none => exact absurd (show mVar i ρ = .stuck by unfold mVar; rw [hd]) ns
  | some o =>
    cases o with
    | none => exact absurd (show mVar i ρ = .stuck by unfold mVar; rw [hd]) ns
    | some d =>
      obtain ⟨v, c1, c2, s1, rv, hc, pb⟩ := st.env.slot hm hd
      obtain ⟨a, _, ev, _⟩ := id rv
      subst ev
      refine ⟨.ref a, s1, q d a F H c1 c2 (by unfold mVar; rw [hd]) (Ev.refl st.sub) rv hc fun F' H' d' c' r h1 h2 => ?_⟩
      have z := pb F' H' (.ow m) d' (.ref a) c' r h1 h2
      rw [set_same hm, set_same s1] at z
      exact z
/-- an item taken out of a list and put back -/
theorem RepU.slot {F H : Hp} {m : Mk} : ∀ {ds : List D} {vs : List V} {c : Cn} {j : Nat} {d : D}, RepU (RepM F H m) ds vs c → ds[j]? = some d → ∃ (v : V) (c1 c2 : Cn), vs[j]? = some v ∧ RepM F H m d v c1 ∧ (∀ b, c b = c1 b + c2 b) ∧
    ∀ (F' H' : Hp) (d' : D) (v' : V) (c' : Cn), RepM F' H' m d' v' c' → (∀ a o, F a = some o → F' a = some o) → (∀ b, 0 < c2 b → H' b = H b ∧ F' b = none) → RepU (RepM F' H' m) (ds.set j d') (vs.set j v') (fun b => c' b + c2 b)
  | [], _, _, _, _, _, h => by simp at h
  | d0 :: ds, _, c, 0, d, ⟨v, r, c1, c2, e, h1, h2, h3⟩, h => by
    simp at h
    subst h
    refine ⟨v, c1, c2, by rw [e]; rfl, h1, h3, fun F' H' d' v' c' r' hf hk => ?_⟩
    rw [e]
    exact ⟨v', r, c', c2, rfl, r', h2.mono fun d v k hle h => h.stay hf fun a ha => hk a (by have := hle a; omega), fun _ => rfl⟩
  | d0 :: ds, _, c, j + 1, d, ⟨v, r, c1, c2, e, h1, h2, h3⟩, h => by
    obtain ⟨v1, k1, k2, q1, q2, q3, q4⟩ := RepU.slot (j := j) h2 (by simpa using h)
    refine ⟨v1, k1, fun b => c1 b + k2 b, by rw [e]; simpa using q1, q2, fun b => by have := h3 b; have := q3 b; show c b = k1 b + (c1 b + k2 b); omega, fun F' H' d' v' c' r' hf hk => ?_⟩
    rw [e]
    exact ⟨v, _, c1, fun b => c' b + k2 b, rfl, h1.stay hf fun a ha => hk a (show 0 < c1 a + k2 a by omega), q4 F' H' d' v' c' r' hf fun a ha => hk a (show 0 < c1 a + k2 a by omega), fun b => by show c' b + (c1 b + k2 b) = c1 b + (c' b + k2 b); omega⟩
/-- an item of an owned list of owned things -/
def putIx (get : ME) (put : Rho → D → Rho) (ei : ME) : Rho → D → Rho := fun ρ d' => match get ρ, ei ρ with
  | .ok (.lst ds), .ok (.int k) => match ixN ds.length k with
    | some j => put ρ (.lst (ds.set j d'))
    | none => ρ
  | _, _ => ρ
def getIx (get ei : ME) : ME := fun ρ => (get ρ).bind fun d => (ei ρ).bind fun k => match d, k with
  | .lst ds, .int k => oR (atI ds k)
  | _, _ => .stuck
theorem pl_ix (hp : SimPl mg W μ tp get put (.ow (.ow m))) (hi : SimR mg W μ ti ei) : SimPl mg W μ (tOp (rIxA K) tp ti) (getIx get ei) (putIx get put ei) (.ow m) := fun ρ σ F H c st Q q x ns => by
  have fx : getIx get ei ρ = (get ρ).bind fun d => (ei ρ).bind fun k => match d, k with | .lst ds, .int k => oR (atI ds k) | _, _ => .stuck := rfl
  refine hp ρ σ F H c st _ (fun d a F1 H1 c1 c2 e1 ev1 r1 hc pb => ?_) (fun y cls dd F' H' e1 ev rx => x y cls dd F' H' (by rw [fx, e1]; rfl) ev rx) (fun z => ns (by rw [fx, z]; rfl))
  rw [e1] at fx
  have fx : getIx get ei ρ = (ei ρ).bind fun k => match d, k with | .lst ds, .int k => oR (atI ds k) | _, _ => .stuck := fx
  refine hi ρ σ F1 H1 c (st.ev ev1) _ (fun k vk F2 H2 e2 ev2 r2 => ?_) (fun y cls dd F' H' e2 ev rx => x y cls dd F' H' (by rw [fx, e2]; rfl) (ev1.trans ev) rx) (fun z => ns (by rw [fx, z]; rfl))
  rw [e2] at fx
  cases d with
  | lst ds =>
    cases k with
    | int k =>
      have fx : getIx get ei ρ = oR (atI ds k) := fx
      cases hj : ixN ds.length k with
      | none =>
        exact absurd (show getIx get ei ρ = .stuck by rw [fx]; unfold atI; rw [hj]; rfl) ns
      | some j =>
        cases hd : ds[j]? with
        | none => exact absurd (show getIx get ei ρ = .stuck by rw [fx]; unfold atI; rw [hj]; show oR (ds[j]?) = _; rw [hd]; rfl) ns
        | some d =>
          have fx : getIx get ei ρ = .ok d := by rw [fx]; unfold atI; rw [hj]; show oR (ds[j]?) = _; rw [hd]; rfl
          have r1' := r1.ev ev2
          obtain ⟨a', c', ea, fa, hcc, qq⟩ := r1'
          cases ea
          rcases qq with ⟨ds', vs, e3, hA, hU⟩ | ⟨_, _, e3, _⟩ | ⟨_, _, _, e3, _⟩ | ⟨_, _, _, e3, _⟩ <;> cases e3
          obtain ⟨v, k1, k2, g1, g2, g3, g4⟩ := hU.slot hd
          obtain ⟨b, _, eb, _⟩ := id g2
          subst eb
          have hlen : vs.length = ds.length := hU.len
          refine .inl (.inl ⟨a, vs, k, .ref b, rfl, r2, SqL.of hA, by unfold atI; rw [hlen, hj]; exact g1, ?_⟩)
          refine q d b F2 H2 k1 (fun z => one a z + k2 z + c2 z) fx (ev1.trans ev2) g2 (fun z => by have := hc z; have := hcc z; have := g3 z; show c z = k1 z + (one a z + k2 z + c2 z); omega) fun F' H' d' cN r' hf hk => ?_
          have hput : putIx get put ei ρ d' = put ρ (.lst (ds.set j d')) := by
            unfold putIx
            rw [e1, e2]
            show (match ixN ds.length k with | some j => put ρ (.lst (ds.set j d')) | none => ρ) = _
            rw [hj]
          have ha : H' a = H2 a ∧ F' a = none := hk a (by show 0 < one a a + k2 a + c2 a; unfold one; rw [if_pos rfl]; omega)
          have hset : vs.set j (.ref b) = vs := set_same g1
          have hU' : RepU (RepM F' H' (.ow m)) (ds.set j d') vs (fun z => cN z + k2 z) := by
            have z := g4 F' H' d' (.ref b) cN r' hf fun z hz => hk z (by show 0 < one a z + k2 z + c2 z; omega)
            rw [hset] at z
            exact z
          have hM : RepM F' H' (.ow (.ow m)) (.lst (ds.set j d')) (.ref a) (fun z => one a z + (cN z + k2 z)) := ⟨a, fun z => cN z + k2 z, rfl, ha.2, fun _ => rfl, .inl ⟨_, vs, rfl, ha.1.trans hA, hU'⟩⟩
          have hE := pb F' H' (.lst (ds.set j d')) _ hM (fun z o hz => hf z o (ev2.ext z o hz)) fun z hz => by
            have h2 := hk z (by show 0 < one a z + k2 z + c2 z; omega)
            refine ⟨h2.1.trans ?_, h2.2⟩
            have hst := (st.ev ev1).env.has z (by rw [hc]; omega)
            cases w : H1 z with
            | none => exact absurd w hst.1
            | some o => exact ev2.keep z o w
          rw [hput]
          have ec : (fun z => (one a z + (cN z + k2 z)) + c2 z) = fun z => cN z + (one a z + k2 z + c2 z) := by funext z; omega
          rw [ec] at hE
          exact hE
    | _ => exact absurd fx ns
  | _ => exact absurd fx ns

/-! ### append -/
def D.isL : D → R (List D)
  | .lst ds => if small ds.length then .ok ds else .stuck
  | _ => .stuck
def mApp (get : ME) (put : Rho → D → Rho) (e : ME) : MS := fun ρ => rO ((get ρ).bind D.isL) ρ fun ds => rO (e ρ) ρ fun y => .nx (put ρ (.lst (ds ++ [y])))
theorem D.isL_ok {d : D} {ds : List D} (h : d.isL = .ok ds) : d = .lst ds ∧ small ds.length = true := by
  cases d with
  | lst es =>
    have h : (if small es.length then R.ok es else .stuck) = .ok ds := h
    by_cases z : small es.length = true
    · rw [if_pos z] at h; cases h; exact ⟨rfl, z⟩
    · rw [if_neg z] at h; cases h
  | _ => cases h
theorem D.isL_ex {d : D} {x : Xc} : d.isL ≠ .ex x := by
  cases d with
  | lst es =>
    show (if small es.length then R.ok es else .stuck) ≠ .ex x
    split <;> exact fun h => nomatch h
  | _ => exact fun h => nomatch h
theorem one_ne {p a : Addr} (h : a ≠ p) : one p a = 0 := by unfold one; rw [if_neg h]
theorem ss_app (hp : SimPl mg W μ tp get put (.ow m)) (he : SimP mg W μ te e m) (hn : wk μ B.n = true) (hx : wk μ B.x = true) :
    SimS mg W μ (tDrop (tBM K "list" rAppend tp (tCons te tNil))) (mApp get put e) B := fun ρ σ F H c st Dn n r b ct x ns => by
  have fx : mApp get put e ρ = rO ((get ρ).bind D.isL) ρ fun ds => rO (e ρ) ρ fun y => .nx (put ρ (.lst (ds ++ [y]))) := rfl
  refine hp ρ σ F H c st _ (fun d a F1 H1 c1 c2 e1 ev1 r1 hc pb => ?_) (fun y cls dd F' H' e1 ev rx => ex_out st ev hx rx x (by rw [fx, e1]; rfl)) (fun z => ns (by rw [fx, z]; rfl))
  rw [e1] at fx
  have fx : mApp get put e ρ = rO d.isL ρ fun ds => rO (e ρ) ρ fun y => .nx (put ρ (.lst (ds ++ [y]))) := fx
  have hd : ∃ ds, d.isL = .ok ds := by
    cases h : d.isL with
    | ok ds => exact ⟨ds, rfl⟩
    | ex y => exact absurd h D.isL_ex
    | stuck => rw [h] at fx; exact absurd fx ns
  obtain ⟨ds, hds⟩ := hd
  rw [hds] at fx
  have fy : mApp get put e ρ = rO (e ρ) ρ fun y => .nx (put ρ (.lst (ds ++ [y]))) := fx
  clear fx
  obtain ⟨rfl, hz⟩ := D.isL_ok hds
  obtain ⟨a', c', ea, fa, hcc, qq⟩ := id r1
  cases ea
  rcases qq with ⟨ds', vs, e3, hA, hU⟩ | ⟨_, _, e3, _⟩ | ⟨_, _, _, e3, _⟩ | ⟨_, _, _, e3, _⟩ <;> cases e3
  have st1 := st.ev ev1
  refine ⟨.inl ⟨rfl, vs, SqL.of hA⟩, ?_⟩
  refine he ρ σ F1 H1 c st1 _ (fun y v F2 H2 cv e2 ev2 rv new on => ?_) (fun y cls dd F' H' e2 ev rx => ex_out st1 ev hx rx (fun x' cls dd ρ' σ' F' H' c' e ev' => x x' cls dd ρ' σ' F' H' c' e (ev1.sS.trans ev')) (by rw [fy, e2]; rfl)) (fun z => ns (by rw [fy, z]; rfl))
  rw [e2] at fy
  have fx : mApp get put e ρ = .nx (put ρ (.lst (ds ++ [y]))) := fy
  have hA2 : H2 a = some (.lst vs) := ev2.keep _ _ hA
  have own1 : ∀ b, 0 < c b → H1 b ≠ none ∧ F1 b = none := st1.env.has
  have own2 := ev2.owned own1
  have ca : 0 < c a := by rw [hc, hcc]; unfold one; rw [if_pos rfl]; omega
  have hz1 : ∀ b, c b ≤ 1 := st.one
  have c2a : c2 a = 0 := by have h5 := hz1 a; rw [hc, hcc] at h5; unfold one at h5; rw [if_pos rfl] at h5; omega
  have c'a : c' a = 0 := by have h5 := hz1 a; rw [hc, hcc] at h5; unfold one at h5; rw [if_pos rfl] at h5; omega
  have hcv : ∀ b, 0 < cv b → b ≠ a ∧ c b = 0 := fun b hb => by
    have n1 := new b hb
    refine ⟨fun z => (by rw [z, hA] at n1; cases n1), ?_⟩
    cases w : c b with
    | zero => rfl
    | succ k => exact absurd n1 (own1 b (by omega)).1
  have upne : ∀ b, b ≠ a → (upd H2 a (.lst (vs ++ [v]))) b = H2 b := fun b hb => upd_ne hb
  have hU2 : RepU (RepM F2 (upd H2 a (.lst (vs ++ [v]))) m) (ds ++ [y]) (vs ++ [v]) (fun b => c' b + cv b) := by
    refine RepU.snoc (rv.stay (fun _ _ z => z) fun b hb => ⟨upne b (hcv b hb).1, (rv.has b hb).2⟩) (hU.mono fun d v k hle h => h.stay ev2.ext fun b hb => ?_)
    have hb' : 0 < c' b := by have := hle b; omega
    have h2 := own2 b (by rw [hc, hcc]; omega)
    exact ⟨(upne b (fun z => by rw [z, c'a] at hb'; exact absurd hb' (by decide))).trans h2.1, h2.2⟩
  have hM : RepM F2 (upd H2 a (.lst (vs ++ [v]))) (.ow m) (.lst (ds ++ [y])) (.ref a) (fun b => one a b + (c' b + cv b)) := ⟨a, _, rfl, (own2 a ca).2, fun _ => rfl, .inl ⟨_, _, rfl, upd_same, hU2⟩⟩
  have hE := pb F2 _ (.lst (ds ++ [y])) _ hM ev2.ext fun b hb => by
    have h2 := own2 b (by rw [hc]; omega)
    exact ⟨(upne b (fun z => by rw [z, c2a] at hb; exact absurd hb (by decide))).trans h2.1, h2.2⟩
  have st2 : Stt μ (put ρ (.lst (ds ++ [y]))) σ F2 (upd H2 a (.lst (vs ++ [v]))) (fun b => one a b + (c' b + cv b) + c2 b) := by
    refine ⟨fun b o z => ?_, hE, fun b => ?_⟩
    · by_cases w : b = a
      · rw [w, (own2 a ca).2] at z; cases z
      · rw [upne b w]; exact ev2.sub b o z
    · have h5 := hz1 b
      have h6 := hc b
      have h7 := hcc b
      have h8 := on b
      show one a b + (c' b + cv b) + c2 b ≤ 1
      by_cases w : 0 < cv b
      · have := (hcv b w).2; omega
      · omega
  obtain ⟨F4, c4, st4, ev4⟩ := st2.weak hn
  refine ⟨a, vs, v, rfl, rfl, hA2, by rw [hU.len]; exact small_lt hz, ?_⟩
  have ev12 := ev1.trans ev2
  refine n _ σ F4 _ c4 fx (EvS.trans (F1 := F2) (H1 := upd H2 a (.lst (vs ++ [v]))) (c1 := fun b => one a b + (c' b + cv b) + c2 b) ⟨ev12.ext, fun b o z w => ?_, fun b z => (ev12.fnew b z).elim .inl fun y => .inr (.inl y), fun b z => ?_⟩ ev4) st4
  · rw [upne b (fun q => by rw [q] at w; omega)]; exact ev12.keep b o z
  · have z : 0 < one a b + (c' b + cv b) + c2 b := z
    by_cases w : 0 < c b
    · exact .inl w
    · have h6 := hc b
      have h7 := hcc b
      exact .inr (new_back ev1 (new b (by omega)))
end
end Mi
/-! MiI: items stored. -/
namespace Mi
open PySem L2

def rSetD : V → V → V → Hp → (Hp → Prop) → Prop := fun o i v H Q => ∃ a H', o = .ref a ∧ DPut H a i v H' ∧ Q H'
theorem set_dict {X : Cx} (hu : X.A.units + 1 < cLine) : PSet X rSetD := by
  intro pins s σ H o i v ov iv u Q I ro ri rv h
  obtain ⟨a, H', rfl, g, q⟩ := h
  obtain rfl : ov = Value.ref a := ro
  exact d_setItem hu I g ri rv fun s' I' => ⟨H', I', q⟩
def rSetA : V → V → V → Hp → (Hp → Prop) → Prop := fun o i v H Q => rSetL o i v H Q ∨ rSetD o i v H Q
theorem set_any {X : Cx} (hu : X.A.units + 1 < cLine) : PSet X rSetA := by
  intro pins s σ H o i v ov iv u Q I ro ri rv h
  rcases h with h | h
  · exact set_list pins s σ H o i v ov iv u Q I ro ri rv h
  · exact set_dict hu pins s σ H o i v ov iv u Q I ro ri rv h
def replD {κ : Type} [DecidableEq κ] (k : κ) (y : D) : List κ → List D → List D
  | j :: ks, d :: ds => (if j = k then y else d) :: replD k y ks ds
  | _, ds => ds
def putDk {κ : Type} [DecidableEq κ] (ks : List κ) (k : κ) : List κ := if k ∈ ks then ks else ks ++ [k]
def putDd {κ : Type} [DecidableEq κ] (ks : List κ) (ds : List D) (k : κ) (y : D) : List D := if k ∈ ks then replD k y ks ds else ds ++ [y]
theorem replD_rep {κ : Type} [DecidableEq κ] {F : Hp} {k : κ} {y : D} {v : V} (ry : RepD F y v) : ∀ (kvs : List (κ × V)) (ds : List D), RepL F ds (kvs.map (·.2)) →
    RepL F (replD k y (kvs.map (·.1)) ds) ((kvs.map fun kv => if kv.1 = k then (kv.1, v) else kv).map (·.2))
  | [], [], h => rfl
  | p :: kvs, [], h => by cases h
  | [], d :: ds, ⟨v, r, e, _, _⟩ => by cases e
  | p :: kvs, d :: ds, ⟨w, r, e, h1, h2⟩ => by
    obtain ⟨e1, e2⟩ := List.cons.inj e
    subst e1
    subst e2
    refine ⟨(if p.1 = k then (p.1, v) else p).2, _, rfl, ?_, replD_rep ry kvs ds h2⟩
    by_cases c : p.1 = k
    · rw [if_pos c, if_pos c]; exact ry
    · rw [if_neg c, if_neg c]; exact h1
theorem map_keys {κ : Type} [DecidableEq κ] {k : κ} {v : V} : ∀ (kvs : List (κ × V)), (kvs.map fun kv => if kv.1 = k then (kv.1, v) else kv).map (·.1) = kvs.map (·.1)
  | [] => rfl
  | p :: kvs => by
    rw [List.map_cons, List.map_cons, List.map_cons, map_keys kvs]
    congr 1
    split <;> rfl
theorem putD_rep {κ : Type} [DecidableEq κ] {F : Hp} {k : κ} {y : D} {v : V} {kvs : List (κ × V)} {ks : List κ} {ds : List D} (hk : kvs.map (·.1) = ks) (h : RepL F ds (kvs.map (·.2))) (ry : RepD F y v) :
    (putK kvs k v).map (·.1) = putDk ks k ∧ RepL F (putDd ks ds k y) ((putK kvs k v).map (·.2)) := by
  subst hk
  have ha : (kvs.any fun kv => decide (kv.1 = k)) = decide (k ∈ kvs.map (·.1)) := by
    rw [Bool.eq_iff_iff]
    simp only [List.any_eq_true, decide_eq_true_eq, List.mem_map]
  unfold putK putDk putDd
  by_cases c : k ∈ kvs.map (·.1)
  · rw [if_pos c, if_pos c]
    rw [if_pos (by rw [ha]; exact decide_eq_true c)]
    exact ⟨map_keys kvs, replD_rep ry kvs ds h⟩
  · rw [if_neg c, if_neg c]
    rw [if_neg (by rw [ha, decide_eq_false c]; decide)]
    rw [List.map_append, List.map_append]
    exact ⟨rfl, h.append ⟨v, [], rfl, ry, rfl⟩⟩
def D.setAt : D → D → D → R D
  | .lst ds, .int k, y => match ixN ds.length k with
    | some j => .ok (.lst (ds.set j y))
    | none => .stuck
  | .dK ks ds, k, y => match k.key with
    | some j => if small ks.length then .ok (.dK (putDk ks j) (putDd ks ds j y)) else .stuck
    | none => .stuck
  | .dT ks ds, .tup js, y => match keysOf js with
    | some j => if small ks.length then .ok (.dT (putDk ks j) (putDd ks ds j y)) else .stuck
    | none => .stuck
  | _, _, _ => .stuck
theorem setAt_core {F H : Hp} {a : Addr} {d k y d' : D} {vk vy : V} {c1 : Cn} {Q : Hp → Prop} (hs : ∀ a o, F a = some o → H a = some o) (r : RepM F H (.ow .sh) d (.ref a) c1) (rk : RepD H k vk) (ry : RepD F y vy) (e : d.setAt k y = .ok d')
    (q : ∀ o', RepM F (upd H a o') (.ow .sh) d' (.ref a) c1 → Q (upd H a o')) : rSetA (.ref a) vk vy H Q := by
  obtain ⟨a', c', ea, fa, hc, qq⟩ := r
  cases ea
  have mk : ∀ {ds : List D} {vs : List V} (o' : HO), RepU (RepM F H .sh) ds vs c' → (∀ b, c' b = 0) := fun o' u => u.sh.2
  rcases qq with ⟨ds, vs, e3, hA, hU⟩ | ⟨ds, vs, e3, hA, hU⟩ | ⟨ks, ds, kvs, e3, hA, hk, hU⟩ | ⟨ks, ds, kvs, e3, hA, hk, hU⟩ <;> subst e3
  · cases k with
    | int k =>
      have e : (match ixN ds.length k with | some j => R.ok (D.lst (ds.set j y)) | none => .stuck) = .ok d' := e
      cases hj : ixN ds.length k with
      | none => rw [hj] at e; cases e
      | some j =>
        rw [hj] at e
        cases e
        obtain ⟨l, z⟩ := hU.sh
        refine .inl ⟨a, vs, k, j, rfl, rk, hA, by rw [hU.len]; exact hj, q _ ⟨a, c', rfl, fa, hc, .inl ⟨_, _, rfl, upd_same, ?_⟩⟩⟩
        have u := RepU.of_sh (H := upd H a (.lst (vs.set j vy))) (l.set ry j)
        rw [show c' = fun _ => 0 from funext z]
        exact u
    | _ => cases e
  · cases k <;> cases e
  · have e : (match k.key with | some j => if small ks.length then R.ok (D.dK (putDk ks j) (putDd ks ds j y)) else .stuck | none => .stuck) = .ok d' := by cases k <;> exact e
    cases hj : k.key with
    | none => rw [hj] at e; cases e
    | some j =>
      rw [hj] at e
      have e : (if small ks.length then R.ok (D.dK (putDk ks j) (putDd ks ds j y)) else .stuck) = .ok d' := e
      by_cases hz : small ks.length = true
      · rw [if_pos hz] at e
        cases e
        obtain ⟨l, z⟩ := hU.sh
        obtain ⟨p1, p2⟩ := putD_rep (k := j) hk l ry
        rw [key_rep hj rk]
        refine .inr ⟨a, _, rfl, DPut.k hA (by rw [← hk, List.length_map] at hz; exact small_lt hz), q _ ⟨a, c', rfl, fa, hc, .inr (.inr (.inl ⟨_, _, _, rfl, upd_same, p1, ?_⟩))⟩⟩
        rw [show c' = fun _ => 0 from funext z]
        exact RepU.of_sh p2
      · rw [if_neg hz] at e; cases e
  · cases k with
    | tup js =>
      have e : (match keysOf js with | some j => if small ks.length then R.ok (D.dT (putDk ks j) (putDd ks ds j y)) else .stuck | none => .stuck) = .ok d' := e
      cases hj : keysOf js with
      | none => rw [hj] at e; cases e
      | some j =>
        rw [hj] at e
        have e : (if small ks.length then R.ok (D.dT (putDk ks j) (putDd ks ds j y)) else .stuck) = .ok d' := e
        by_cases hz : small ks.length = true
        · rw [if_pos hz] at e
          cases e
          obtain ⟨l, z⟩ := hU.sh
          obtain ⟨p1, p2⟩ := putD_rep (k := j) hk l ry
          obtain ⟨b, vs, eb, hb, hl'⟩ := rk
          rw [eb]
          refine .inr ⟨a, _, rfl, DPut.t hA (by rw [hb, keysOf_rep hj hl']) (by rw [← hk, List.length_map] at hz; exact small_lt hz), q _ ⟨a, c', rfl, fa, hc, .inr (.inr (.inr ⟨_, _, _, rfl, upd_same, p1, ?_⟩))⟩⟩
          rw [show c' = fun _ => 0 from funext z]
          exact RepU.of_sh p2
        · rw [if_neg hz] at e; cases e
    | _ => cases e
theorem setAt_ex {d k y : D} {x : Xc} : d.setAt k y ≠ .ex x := by
  unfold D.setAt
  split
  · split <;> exact fun h => nomatch h
  · split
    · split <;> exact fun h => nomatch h
    · exact fun h => nomatch h
  · split
    · split <;> exact fun h => nomatch h
    · exact fun h => nomatch h
  · exact fun h => nomatch h

/-! ### targets that change what is owned -/
def SimH (μ : List Mk) (g : TG) (f : MG) : Prop := ∀ ρ σ F H c d x, Stt μ ρ σ F H c → RepD F d x → ∀ Q : St → Hp → Prop,
  (∀ ρ' σ' F' H' c', f d ρ = .ok ρ' → EvS F H c F' H' c' → Stt μ ρ' σ' F' H' c' → Q σ' H') → f d ρ ≠ .stuck → (∀ x, f d ρ ≠ .ex x) → g x σ H Q
def SimHs (μ : List Mk) (g : TGs) (f : List D → Rho → R Rho) : Prop := ∀ ρ σ F H c ds xs, Stt μ ρ σ F H c → RepL F ds xs → ∀ Q : St → Hp → Prop,
  (∀ ρ' σ' F' H' c', f ds ρ = .ok ρ' → EvS F H c F' H' c' → Stt μ ρ' σ' F' H' c' → Q σ' H') → f ds ρ ≠ .stuck → (∀ x, f ds ρ ≠ .ex x) → g xs σ H Q
section
variable {K : PySem.W.Frag} {mg : Str → Option Value} {W : WX} {μ : List Mk} {te ti tp : TE} {e ei get : ME} {put : Rho → D → Rho} {m : Mk} {B : Bx}
def mGSub (get : ME) (put : Rho → D → Rho) (ei : ME) : MG := fun y ρ => (get ρ).bind fun d => (ei ρ).bind fun k => (d.setAt k y).bind fun d' => .ok (put ρ d')
theorem sh_sub (hp : SimPl mg W0 μ tp get put (.ow .sh)) (hi : SimR mg W0 μ ti ei) : SimH μ (gSub tp ti rSetA) (mGSub get put ei) := fun ρ σ F H c y vy st ry Q q ns nx => by
  have fx : mGSub get put ei y ρ = (get ρ).bind fun d => (ei ρ).bind fun k => (d.setAt k y).bind fun d' => .ok (put ρ d') := rfl
  refine hp ρ σ F H c st _ (fun d a F1 H1 c1 c2 e1 ev1 r1 hc pb => ?_) (fun z cls dd F' H' e1 ev rx => nx z (by rw [fx, e1]; rfl)) (fun z => ns (by rw [fx, z]; rfl))
  rw [e1] at fx
  have fx : mGSub get put ei y ρ = (ei ρ).bind fun k => (d.setAt k y).bind fun d' => .ok (put ρ d') := fx
  have st1 := st.ev ev1
  refine hi ρ σ F1 H1 c st1 _ (fun k vk F2 H2 e2 ev2 r2 => ?_) (fun z cls dd F' H' e2 ev rx => nx z (by rw [fx, e2]; rfl)) (fun z => ns (by rw [fx, z]; rfl))
  rw [e2] at fx
  have fx : mGSub get put ei y ρ = (d.setAt k y).bind fun d' => .ok (put ρ d') := fx
  have st2 := st1.ev ev2
  cases hs : d.setAt k y with
  | ex z => exact absurd hs setAt_ex
  | stuck => rw [hs] at fx; exact absurd fx ns
  | ok d' =>
    rw [hs] at fx
    have fx : mGSub get put ei y ρ = .ok (put ρ d') := fx
    have ev12 := ev1.trans ev2
    have r1' := r1.ev ev2
    have own2 : ∀ b, 0 < c b → H2 b ≠ none ∧ F2 b = none := st2.env.has
    have h1of : ∀ b, 0 < c b → H2 b = H1 b := fun b hb => (ev2.owned st1.env.has b hb).1
    refine setAt_core (c1 := c1) ev2.sub r1' r2 (RepD.up ev12.ext _ _ ry) hs fun o' rM => ?_
    have c2a : c2 a = 0 := by
      obtain ⟨a', c', ea, _, hcc, _⟩ := id r1
      cases ea
      have h5 := st.one a
      rw [hc, hcc] at h5
      unfold one at h5
      rw [if_pos rfl] at h5
      omega
    have ca : 0 < c a := by
      obtain ⟨a', c', ea, _, hcc, _⟩ := id r1
      cases ea
      rw [hc, hcc]; unfold one; rw [if_pos rfl]; omega
    have upne : ∀ b, b ≠ a → (upd H2 a o') b = H2 b := fun b hb => upd_ne hb
    have hE := pb F2 _ d' c1 rM ev2.ext fun b hb => by
      have hb' : 0 < c b := by rw [hc]; omega
      exact ⟨(upne b (fun z => by rw [z, c2a] at hb; exact absurd hb (by decide))).trans (h1of b hb'), (own2 b hb').2⟩
    have ec : (fun b => c1 b + c2 b) = c := funext fun b => (hc b).symm
    rw [ec] at hE
    refine q (put ρ d') σ F2 _ c fx ⟨ev12.ext, fun b o z w => ?_, fun b z => (ev12.fnew b z).elim .inl fun y => .inr (.inl y), fun b z => .inl z⟩ ⟨fun b o z => ?_, hE, st.one⟩
    · rw [upne b (fun z => by rw [z] at w; omega)]; exact ev12.keep b o z
    · rw [upne b (fun w => by rw [w, (own2 a ca).2] at z; cases z)]; exact ev2.sub b o z
theorem shs_nil : SimHs μ gNil mGNil := fun ρ σ F H c ds xs st r Q q ns nx => by
  cases ds with
  | nil => exact ⟨r, q ρ σ F H c rfl EvS.refl st⟩
  | cons d ds => exact absurd rfl ns
theorem shs_cons {g : TG} {gs : TGs} {f : MG} {fs : List D → Rho → R Rho} (h : SimH μ g f) (hr : SimHs μ gs fs) : SimHs μ (gCons g gs) (mGCons f fs) := fun ρ σ F H c ds xs st r Q q ns nx => by
  cases ds with
  | nil => exact absurd rfl ns
  | cons d ds =>
    obtain ⟨v, vs, rfl, h1, h2⟩ := r
    have k : mGCons f fs (d :: ds) ρ = (f d ρ).bind fun ρ' => fs ds ρ' := rfl
    refine ⟨v, vs, rfl, h ρ σ F H c d v st h1 _ (fun ρ1 σ1 F1 H1 c1 e1 ev1 s1 => ?_) (fun z => ns (by rw [k, z]; rfl)) (fun x z => nx x (by rw [k, z]; rfl))⟩
    rw [e1] at k
    have k : mGCons f fs (d :: ds) ρ = fs ds ρ1 := k
    exact hr ρ1 σ1 F1 H1 c1 ds vs s1 (RepL.up ev1.ext _ _ h2) _ (fun ρ2 σ2 F2 H2 c2 e2 ev2 s2 => q ρ2 σ2 F2 H2 c2 (k.trans e2) (ev1.trans ev2) s2) (fun z => ns (k.trans z)) (fun x z => nx x (k.trans z))
theorem sh_tup {n : Nat} {gs : TGs} {fs : List D → Rho → R Rho} (h : SimHs μ gs fs) : SimH μ (gTup K n gs) (mGTup n fs) := fun ρ σ F H c d x st r Q q ns nx => by
  cases d with
  | tup ds =>
    obtain ⟨a, vs, e, hp, hl⟩ := r
    have k : mGTup n fs (.tup ds) ρ = if ds.length == n then fs ds ρ else .stuck := rfl
    by_cases hn : (ds.length == n) = true
    · rw [if_pos hn] at k
      refine ⟨a, vs, e, SqT.of (st.sub _ _ hp), by rw [RepL.len _ _ hl]; exact by simpa using hn, ?_⟩
      exact h ρ σ F H c ds vs st hl Q (fun ρ' σ' F' H' c' e1 => q ρ' σ' F' H' c' (k.trans e1)) (fun z => ns (k.trans z)) (fun x z => nx x (k.trans z))
    · rw [if_neg hn] at k; exact absurd k ns
  | _ => exact absurd rfl ns
theorem ss_asgH {g : TG} {f : MG} (he : SimP mg W μ te e .sh) (hg : SimH μ g f) (hn : wk μ B.n = true) (hx : wk μ B.x = true) : SimS mg W μ (tAsg te g) (mAsgG e f) B := fun ρ σ F H c st Dn n r b ct x ns => by
  refine he ρ σ F H c st _ (fun d v F' H' cv e1 ev rv new on => ?_) (fun y cls dd F' H' e1 ev rx => ex_out st ev hx rx x (by unfold mAsgG; rw [e1]; rfl)) (fun z => ns (by unfold mAsgG; rw [z]; rfl))
  have k : mAsgG e f ρ = rO (noEx (f d ρ)) ρ .nx := by unfold mAsgG; rw [e1]; rfl
  refine hg ρ σ F' H' c d v (st.ev ev) rv.1 _ (fun ρ' σ' F2 H2 c' e2 ev2 st2 => ?_) (fun z => ns (by rw [k, z]; rfl)) (fun y z => ns (by rw [k, z]; rfl))
  obtain ⟨F3, c3, st3, ev3⟩ := st2.weak hn
  exact n ρ' σ' F3 H2 c3 (by rw [k, e2]; rfl) ((ev.sS.trans ev2).trans ev3) st3

/-! ### calls of defs -/
/-- a def's promise: its arguments shared -/
def spM (mg : Str → Option Value) (mr : Mk) (n : Nat) (f : List D → R D) : Sp := fun vs H Q E => ∃ ds F, ds.length = n ∧ RepL F ds vs ∧ (∀ a o, F a = some o → H a = some o) ∧ f ds ≠ .stuck ∧
  (∀ d v F' H' cv, f ds = .ok d → Ev F H F' H' → RepM F' H' mr d v cv → (∀ a, 0 < cv a → H a = none) → (∀ a, cv a ≤ 1) → Q v H') ∧
  (∀ x cls dd F' H', f ds = .ex x → Ev F H F' H' → RepX mg x cls dd H' → E cls dd H')
theorem sim_call {mr : Mk} {n : Nat} {f : List D → R D} {ta : TA} {ma : MA} (ha : SimA mg W μ ta ma) (hn : ∀ ρ ds, ma ρ = .ok ds → ds.length = n) : SimP mg W μ (tCallS (spM mg mr n f) (WE W) ta) (mCall f ma) mr := fun ρ σ F H c st Q q x ns => by
  refine ha ρ σ F H c st _ (fun ds vs F1 H1 e1 ev1 r1 => ?_) (fun y cls dd F' H' e1 ev rx => x y cls dd F' H' (bind_ex e1) ev rx) (bind_stuck (f := f) ns)
  have k1 : mCall f ma ρ = f ds := by unfold mCall; rw [e1]; rfl
  refine ⟨ds, F1, hn ρ ds e1, r1, ev1.sub, fun z => ns (k1.trans z), fun d v F2 H2 cv e2 ev2 r2 new on => ?_, fun y cls dd F2 H2 e2 ev2 rx => ?_⟩
  · exact q d v F2 H2 cv (k1.trans e2) (ev1.trans ev2) r2 (fun a z => new_back ev1 (new a z)) on
  · exact x y cls dd F2 H2 (k1.trans e2) (ev1.trans ev2) rx
theorem len_nil : ∀ (ρ : Rho) (ds : List D), mNil ρ = .ok ds → ds.length = 0 := fun ρ ds h => by cases h; rfl
theorem len_cons {n : Nat} {r : MA} (h : ∀ (ρ : Rho) (ds : List D), r ρ = .ok ds → ds.length = n) : ∀ (ρ : Rho) (ds : List D), mCons e r ρ = .ok ds → ds.length = n + 1 := fun ρ ds hd => by
  obtain ⟨d, h1, h2⟩ := R.bind_eq_ok hd
  obtain ⟨es, h3, h4⟩ := R.bind_eq_ok h2
  cases h4
  rw [List.length_cons, h ρ es h3]

/-! ### a def -/
def mDef (fo : Bool) (p N : Nat) (body : MS) : List D → R D := fun ds => if ds.length == p then (match body (ds.map some ++ List.replicate (N - p) none) with
  | .rt d => .ok d
  | .nx _ => if fo then .ok .non else .stuck
  | .ex x _ => .ex x
  | _ => .stuck) else .stuck
theorem RepE.none {F H : Hp} : ∀ k : Nat, RepE F H (List.replicate k .sh) (List.replicate k Option.none) (List.replicate k Option.none) (fun _ => 0)
  | 0 => ⟨rfl, rfl, fun _ => rfl⟩
  | k + 1 => ⟨Option.none, _, Option.none, _, fun _ => 0, fun _ => 0, rfl, rfl, fun _ => rfl, RepE.none k, fun _ => rfl⟩
theorem RepE.args {F H : Hp} (k : Nat) : ∀ {ds : List D} {vs : List V}, RepL F ds vs → RepE F H (List.replicate (ds.length + k) .sh) (ds.map some ++ List.replicate k Option.none) (vs.map some ++ List.replicate k Option.none) (fun _ => 0)
  | [], _, r => by
    rw [show _ = [] from r, List.length_nil, Nat.zero_add]
    exact RepE.none k
  | d :: ds, _, ⟨v, r, e, h1, h2⟩ => by
    rw [e, List.length_cons, show ds.length + 1 + k = (ds.length + k) + 1 by omega]
    exact ⟨some d, _, some v, _, fun _ => 0, fun _ => 0, rfl, rfl, ⟨v, rfl, h1, fun _ => rfl⟩, RepE.args k h2, fun _ => rfl⟩
/-- the body keeps the promise -/
theorem body_ok {mr : Mk} {N : List Str} {p : Nat} {body : MS} {fo : Bool} {t : TS} {vs : List V} {H : Hp} {Q : VK} {E : XK} {Bn Bb : List Mk} {Bxx : List Mk} (hp : p ≤ N.length) (hs : SimS mg (fun cls d _ H => E cls d H) (List.replicate N.length .sh) t body { n := Bn, b := Bb, c := Bb, x := Bxx, r := mr })
    (h : spM mg mr p (mDef fo p N.length body) vs H Q E) (hnx : fo = true → mr = .sh) : t { nx := fun _ H' => Q .non H', rt := Q } (L2.start N vs) H := by
  obtain ⟨ds, F, hl, r, sub, ns, q, x⟩ := h
  have k : mDef fo p N.length body ds = match body (ds.map some ++ List.replicate (N.length - p) none) with | .rt d => .ok d | .nx _ => if fo then .ok .non else .stuck | .ex x _ => .ex x | _ => .stuck := by
    unfold mDef
    rw [if_pos (by simpa using hl)]
  have hvl := RepL.len _ _ r
  have st : Stt (List.replicate N.length .sh) (ds.map some ++ List.replicate (N.length - p) none) (L2.start N vs) F H (fun _ => 0) := by
    have e := RepE.args (H := H) (N.length - p) r
    rw [hl, show p + (N.length - p) = N.length by omega] at e
    unfold L2.start
    rw [show N.length - vs.length = N.length - p by rw [hvl, hl]]
    exact ⟨sub, e, fun _ => Nat.zero_le _⟩
  refine hs _ _ F H _ st _ (fun ρ' σ' F' H' c' e ev st' => ?_) (fun d v F' H' cv e ev s' rv on => ?_) (fun ρ' σ' F' H' c' e ev st' => ?_) (fun ρ' σ' F' H' c' e ev st' => ?_) (fun y cls dd ρ' σ' F' H' c' e ev st' rx => ?_) (fun z => ns (by rw [k, z]))
  · rw [e] at k
    cases fo with
    | false => exact absurd k ns
    | true =>
    obtain rfl := hnx rfl
    exact q .non .non F' H' (fun _ => 0) k (ev.ev st'.sub) ⟨rfl, fun _ => rfl⟩ (fun a z => absurd z (by decide)) fun _ => Nat.zero_le _
  · rw [e] at k
    exact q d v F' H' cv k (ev.ev s') rv (fun a z => (ev.cnew a z).elim (fun y => absurd y (by decide)) id) on
  · rw [e] at k; exact absurd k ns
  · rw [e] at k; exact absurd k ns
  · rw [e] at k
    exact x y cls dd F' H' k (ev.ev st'.sub) rx
end
end Mi
/-! MiJ: the rules at a K that is told (in a comprehension's block X.K is not K by its letters). -/
namespace Mi
open PySem PySem.Spec PyProof.Rows L2
section
variable {X : Cx} {K : PySem.W.Frag}
theorem op_inK (h : X.K = K) (hu : X.A.units + 65 < cLine) : OpR X (compareOp .In) (rInA K) := h ▸ op_inA hu
theorem op_notInK (h : X.K = K) (hu : X.A.units + 65 < cLine) : OpR X (compareOp .NotIn) (rNotInA K) := h ▸ op_notInA hu
theorem op_eqK (h : X.K = K) (hu : X.A.units + 64 < cLine) : OpR X (compareOp .Eq) (rEqD K) := h ▸ op_eqD hu
theorem op_neK (h : X.K = K) (hu : X.A.units + 64 < cLine) : OpR X (compareOp .NotEq) (rNeD K) := h ▸ op_neD hu
theorem ix_anyK (h : X.K = K) (hu : X.A.units + 1 < cLine) : IxR X (rIxA K) := h ▸ ix_any hu
theorem op_addK (h : X.K = K) : OpR X (binaryOp .Add) (rAddA K) := h ▸ op_addA
theorem call_lenKK (h : X.K = K) : CallR X (.builtin "len") (rLenA K) := h ▸ call_lenA
theorem call_listK (h : X.K = K) : CallR X (.type "list") (rListO K) := h ▸ call_listO
theorem call_tupK (h : X.K = K) : CallR X (.type "tuple") (rTupO K) := h ▸ call_tupO
theorem cr_allK (h : X.K = K) (hc : X.calm = true) : CallR X (.builtin "all") (rAll K) := h ▸ cr_all hc
theorem cr_anyK (h : X.K = K) (hc : X.calm = true) : CallR X (.builtin "any") (rAny K) := h ▸ cr_any hc
theorem cr_sumK (h : X.K = K) (hc : X.calm = true) : CallR X (.builtin "sum") (rSum K) := h ▸ cr_sum hc
theorem cr_sortedK (h : X.K = K) : CallR X (.builtin "sorted") (rSortedI K) := h ▸ cr_sortedI
theorem sl_anyK (h : X.K = K) : SlR X (rSlX K) := h ▸ sl_any
theorem pi_seqK {tg l : Expr} {tl : TE} (h : X.K = K) (hl : PE X l tl) : PI X tg l (iSeq K tl) := h ▸ pi_seq hl
theorem pi_enumK {e : Expr} {ta : TA} {p pos tpos : Pos} {elts : List Expr} {kk : Nat} (h : X.K = K) (hg : Gl X "enumerate") (hm : X.mg "enumerate" = none) (ha : PA X [e] ta) (hs : starEach [e] X.env = [(false, eval e X.env)] := by rfl) :
    PI X (.Tuple elts kk tpos) (.Call (.Name "enumerate" p) [e] [] pos) (iEnum K ta) := h ▸ pi_enum hg hm ha hs
theorem pi_zipK {e e2 : Expr} {ta : TA} {p pos tpos : Pos} {elts : List Expr} {kk : Nat} (h : X.K = K) (hg : Gl X "zip") (hm : X.mg "zip" = none) (ha : PA X [e, e2] ta)
    (hs : starEach [e, e2] X.env = (false, eval e X.env) :: starEach [e2] X.env := by rfl) (hpl : (backTo pos (starEach [e2] X.env)).any (·.1) = false := by rfl) :
    PI X (.Tuple elts kk tpos) (.Call (.Name "zip" p) [e, e2] [] pos) (RZ.iZipA K ta) := h ▸ RZ.pi_zipA hg hm ha hs hpl
theorem pg_tupK {es : List Expr} {k : Nat} {t : TGs} {n : Nat} {pos : Pos} (h : X.K = K) (hc : X.calm = true) (hp : PGs X es t)
    (hn : (assignEach es X.env).length = n := by rfl) (hst : (assignEach es X.env).findIdx? (·.1) = none := by rfl) : PG X (.Tuple es k pos) (gTup K n t) := h ▸ pg_tup hc hp hn hst
theorem call_isiK1 (h : X.K = K) : CallR X (.builtin "isinstance") (rIsi K) := h ▸ call_isi
end
section
variable {K : PySem.W.Frag} {mg : Str → Option Value} {W : WX} {μ : List Mk} {ta tb te tc : TE} {ea eb e ec : ME} {m : Mk} {B : Bx}
/-! ### isinstance with a type of the builtins -/
def D.ty : D → String
  | .non => "NoneType"
  | .bl _ => "bool"
  | .int _ => "int"
  | .str _ => "str"
  | .lst _ => "list"
  | .tup _ => "tuple"
  | .dK _ _ => "dict"
  | .dT _ _ => "dict"
def D.isTy (T : String) (d : D) : R D := match kitB d.ty T with
  | some b => .ok (.bl b)
  | none => .stuck
theorem tyX_rep {H : Hp} {d : D} {v : V} (r : RepD H d v) : TyX K H v (.type d.ty) := by
  cases d with
  | non => cases r; exact .base .non
  | bl b => cases r; exact .base (.bl b)
  | int i => cases r; exact .base (.int i)
  | str s => cases r; exact .base (.str s)
  | lst ds => obtain ⟨a, vs, rfl, h, _⟩ := r; exact .base (.lst h)
  | tup ds => obtain ⟨a, vs, rfl, h, _⟩ := r; exact .base (.tup h)
  | dK ks ds => obtain ⟨a, kvs, rfl, h, _⟩ := r; exact .base (.dK h)
  | dT ks ds => obtain ⟨a, kvs, rfl, h, _⟩ := r; exact .base (.dT h)
theorem sim_isTy {T : String} (ha : SimR mg W μ ta ea) : SimP mg W μ (tCB (rIsi K) (tCons ta (tCons (tC (.ty T)) tNil))) (l1 (D.isTy T) ea) .sh := fun ρ σ F H c st Q q x ns => by
  refine ha ρ σ F H c st _ (fun d v F' H' e1 ev r => ?_) (fun y cls dd F' H' e1 ev rx => x y cls dd F' H' (bind_ex e1) ev rx) (bind_stuck (f := D.isTy T) ns)
  have k : l1 (D.isTy T) ea ρ = d.isTy T := by unfold l1; rw [e1]; rfl
  have ns' : d.isTy T ≠ .stuck := fun z => ns (k.trans z)
  unfold D.isTy at ns' k
  cases hk : kitB d.ty T with
  | none => rw [hk] at ns'; exact absurd rfl ns'
  | some b =>
    rw [hk] at k
    exact ⟨v, .ty T, .type d.ty, .type T, b, rfl, .ty T, tyX_rep r, kit_ty hk, q (.bl b) (.bl b) F' H' (fun _ => 0) k ev ⟨rfl, fun _ => rfl⟩ (fun a z => absurd z (by decide)) fun _ => Nat.zero_le _⟩
/-! ### texts -/
def smallS (n : Nat) : Bool := Nat.ble n 1000000
theorem smallS_le {n : Nat} (h : smallS n = true) : n ≤ 1000000 := Nat.le_of_ble_eq_true h
abbrev rSplit : V → List V → Hp → VK → Prop := fun x xs H Q => ∃ a b, x = .str a ∧ xs = [.str b] ∧ (b.length == 0) = false ∧ a.length + 2 ≤ sizeLine ∧ rNewStrs (Txt.split a b) H Q
def D.split : D → D → R D
  | .str a, .str b => if !(b.length == 0) && smallS a.length then .ok (.lst ((Txt.split a b).map .str)) else .stuck
  | _, _ => .stuck
end
end Mi
/-! MiK: zip of a list and a text. -/
namespace Mi
open PySem PySem.Spec PyProof.Rows L2
theorem nm1 {x y : Nat} (h : x ≠ y) : x ∉ [y] := fun q => h (List.mem_singleton.mp q)
theorem nm2 {x y z : Nat} (h : x ≠ y) (h2 : x ≠ z) : x ∉ [y, z] := fun q => (List.mem_cons.mp q).elim h fun q => h2 (List.mem_singleton.mp q)
theorem sep2_of (I a : Nat) (h : a < I) : ZipSep2 (I + 4) (I + 2) (I + 3) I (I + 1) [I, a] [I + 1] :=
  ⟨(by omega : I + 2 ≠ I + 4), (by omega : I + 3 ≠ I + 4), (by omega : I + 2 ≠ I + 3), (by omega : I + 2 ≠ I), List.mem_cons_self, nm2 (by omega) (by omega), nm2 (by omega) (by omega), (by omega : I + 2 ≠ I + 1), List.mem_cons_self, nm1 (by omega), nm1 (by omega), nm1 (by omega), nm2 (by omega) (by omega)⟩
def ItzS (K : PySem.W.Frag) (a : Addr) (z : Str) : It :=
  ⟨fun i H => ∃ (xs : List V) (x : V), SqL K H a xs ∧ xs[i]? = some x ∧ i < z.cps.size,
    fun i H v H' => ∃ T x c, v = .ref T ∧ H T = none ∧ H' = upd H T (.tup [x, .str ⟨#[c]⟩]) ∧ (∀ xs, SqL K H a xs → xs[i]? = some x) ∧ z.cps[i]? = some c,
    fun i H => ∃ xs : List V, SqL K H a xs ∧ i ≤ xs.length ∧ i ≤ z.cps.size ∧ (i = xs.length ∨ i = z.cps.size)⟩
theorem turn_zipS {P : Program} {w : World} {K : PySem.W.Frag} {elts : List Expr} {kk : Nat} {tpos : Pos} {a z TI TO i1 i2 : Addr} {x : Str} {t : Tok} (D : ZipSep2 z TI TO i1 i2 [i1, a] [i2]) :
    Turn P w K (.Tuple elts kk tpos) (ItzS K a x) [z, TI, TO, i1, i2] z (fun i h => IsZip h z TI TO .none ∧ IsTupOf2 h TI (.ref i1) (.ref i2) ∧ (∃ x y, IsTupOf2 h TO x y) ∧ h.IsListIter i1 a i ∧ h.IsStrIter i2 (strIterType x) x t i) where
  mem := by simp
  obj := fun i h st c hc => by
    obtain ⟨hz, hTI, ⟨x, y, hTO⟩, ⟨o1, e1, _, d1⟩, ⟨o2, e2, _, d2⟩⟩ := st
    have e' : c = z ∨ c = TI ∨ c = TO ∨ c = i1 ∨ c = i2 := by simpa using hc
    rcases e' with q | q | q | q | q
    · rw [q]; exact ⟨_, hz, fun v q => nomatch q⟩
    · rw [q]; exact ⟨_, hTI, fun v q => nomatch q⟩
    · rw [q]; exact ⟨_, hTO, fun v q => nomatch q⟩
    · rw [q]; exact ⟨o1, e1, fun v q => by rw [d1] at q; cases q⟩
    · rw [q]; exact ⟨o2, e2, fun v q => by rw [d2] at q; cases q⟩
  keep := fun i h h' st k => by
    obtain ⟨hz, hTI, ⟨x, y, hTO⟩, h1, ⟨o2, e2, d2⟩⟩ := st
    exact ⟨k z (by simp) _ hz, k TI (by simp) _ hTI, ⟨x, y, k TO (by simp) _ hTO⟩, h1.at fun o q => k i1 (by simp) o q, ⟨o2, k i2 (by simp) _ e2, d2⟩⟩
  item := by
    intro X hP hw hK hc i pins s σ H E I hf st hg
    subst hP hw hK
    obtain ⟨hz, hTI, ⟨x0, y0, hTO⟩, h1, h2⟩ := st
    obtain ⟨xs, xv, hqx, hx, hlt⟩ := hg
    obtain ⟨its, rv, p, _⟩ := I.list hqx
    obtain ⟨u, hu, ru⟩ := rv.get hx
    have hzl : z < s.heap.objs.size := Heap.lt_size hz
    have hai : a ≠ i1 := fun q => D.sep2_1 (by
      exfalso
      have := D.mem1
      obtain ⟨o1, e1, c1, _⟩ := h1
      obtain ⟨o2, _, e2, c2, _⟩ := id p
      rw [q, e1] at e2
      cases e2
      rw [c1] at c2
      exact absurd c2 (by decide))
    have lu : i < its.length := by
      obtain ⟨q, _⟩ := List.getElem?_eq_some_iff.mp hu
      exact q
    have D1 := Draws.list (prog := X.prog) (w := X.w) (A := X.A.in1) (I.ok.hd hc) i1 a hai its.toArray
    have D2 := Draws.text (prog := X.prog) (w := X.w) (A := X.A.in1) (I.ok.hd hc) i2 x t
    refine wpAny_pyNext_zipD2_item D D1 D2 hz hTI hTO ⟨h1, p.isList⟩ h2 (by simpa using lu) hlt fun v1 v2 h' tk e1 e2 z' TO' h1' h2' hT hsz hk => ?_
    obtain ⟨c, tc, hcx, rfl⟩ := e2
    have e1 : u = v1 := by
      have e1 : its.toArray[i]? = some v1 := e1
      have : its[i]? = some v1 := by simpa using e1
      rw [hu] at this
      exact Option.some.inj this
    subst e1
    refine ⟨_, rfl, wpAny_letOwnedTupleGo_zip (s := { s with heap := h', toks := tk }) z' fun h'' z'' sb => ?_⟩
    have hT2 : h''.get? s.heap.objs.size = some { cls := .type "tuple", data := .seq #[u, .str ⟨#[c]⟩ tc] } := (sb.2 _ (Nat.ne_of_gt hzl)).trans hT
    have new : ObjOk X.prog X.w (upd H s.heap.objs.size (.tup [xv, .str ⟨#[c]⟩])) h'' s.heap.objs.size (.tup [xv, .str ⟨#[c]⟩]) :=
      ⟨by show 2 ≤ sizeLine; decide, [u, .str ⟨#[c]⟩ tc], .cons ru (.cons ⟨tc, rfl⟩ .nil), ⟨_, hT2, rfl, _, rfl⟩⟩
    have I1 : Inv X pins σ (upd H s.heap.objs.size (.tup [xv, .str ⟨#[c]⟩])) { s with heap := h'', toks := tk } :=
      I.turnedNew (t' := tk) (ch := [z, TI, TO, i1, i2]) (fun c o hb q => (sb.2 c (fun q' => hb (by simp [q']))).trans (hk c o (fun q' => hb (by simp [q'])) (fun q' => hb (by simp [q'])) (fun q' => hb (by simp [q'])) (fun q' => hb (by simp [q'])) q)) hf (Nat.le_refl _) new
    refine ⟨.ref s.heap.objs.size, _, I1, rfl, ⟨_, xv, c, rfl, I.hok.fresh (Nat.le_refl _), rfl, fun l hl => by rw [I.list_inj hl hqx]; exact hx, hcx⟩, ⟨z'', ?_, ⟨u, .str ⟨#[c]⟩ tc, ?_⟩, ?_, ?_⟩, fun c hcm => ?_⟩
    · exact (sb.2 _ D.TIz).trans (hk _ _ D.TIz D.TITO D.TIi1 D.TIi2 hTI)
    · exact (sb.2 _ D.TOz).trans TO'
    · exact h1'.1.at fun o q => (sb.2 _ D.zi1.symm).trans q
    · obtain ⟨o2, e2, d2⟩ := h2'
      exact ⟨o2, (sb.2 _ D.zi2.symm).trans e2, d2⟩
    · have hlt : c < s.heap.objs.size := by
        have e' : c = z ∨ c = TI ∨ c = TO ∨ c = i1 ∨ c = i2 := by simpa using hcm
        rcases e' with q | q | q | q | q
        · rw [q]; exact hzl
        · rw [q]; exact Heap.lt_size hTI
        · rw [q]; exact Heap.lt_size hTO
        · rw [q]; obtain ⟨_, e1, _⟩ := h1; exact Heap.lt_size e1
        · rw [q]; obtain ⟨_, e2, _⟩ := h2; exact Heap.lt_size e2
      rw [upd_ne (Nat.ne_of_lt hlt)]
      exact (hf c hcm).1
  done := by
    intro X hP hw hK hc i pins s σ H E I hf st hg
    subst hP hw hK
    obtain ⟨hz, hTI, ⟨x0, y0, hTO⟩, h1, h2⟩ := st
    obtain ⟨xs, hqx, hl1, hl2, hend⟩ := hg
    obtain ⟨its, rv, p, _⟩ := I.list hqx
    have l1 := rv.length
    have hai : a ≠ i1 := fun q => by
      obtain ⟨o1, e1, c1, _⟩ := h1
      obtain ⟨o2, _, e2, c2, _⟩ := id p
      rw [q, e1] at e2
      cases e2
      rw [c1] at c2
      exact absurd c2 (by decide)
    have D1 := Draws.list (prog := X.prog) (w := X.w) (A := X.A.in1) (I.ok.hd hc) i1 a hai its.toArray
    have D2 := Draws.text (prog := X.prog) (w := X.w) (A := X.A.in1) (I.ok.hd hc) i2 x t
    exact wpAny_pyNext_zipD2_end D D1 D2 hz hTI hTO ⟨h1, p.isList⟩ h2 (by simp; omega) hl2 (by simp; omega) fun h' tk hk => ⟨rfl, I.turnedL (t' := tk) (ch := [z, TI, TO, i1, i2]) (fun c o hb q =>
      hk c o (fun q' => hb (by simp [q'])) (fun q' => hb (by simp [q'])) (fun q' => hb (by simp [q'])) (fun q' => hb (by simp [q'])) q) hf⟩
  self := fun A i s Q E st h => wpAny_pyIter_zip st.1 h
def iZipS (K : PySem.W.Frag) (ta : TA) : TI := fun σ H R => ta σ H fun vs H1 => ∃ a x xs, vs = [.ref a, .str x] ∧ SqL K H1 a xs ∧ R (ItzS K a x) H1
theorem pi_zipS {X : Cx} {e e2 : Expr} {ta : TA} {p pos tpos : Pos} {elts : List Expr} {kk : Nat} (hg : Gl X "zip") (hm : X.mg "zip" = none) (ha : PA X [e, e2] ta)
    (hs : starEach [e, e2] X.env = (false, eval e X.env) :: starEach [e2] X.env := by rfl) (hpl : (backTo pos (starEach [e2] X.env)).any (·.1) = false := by rfl) :
    PI X (.Tuple elts kk tpos) (.Call (.Name "zip" p) [e, e2] [] pos) (iZipS X.K ta) := by
  refine ⟨fun pins s σ H R I h => ?_⟩
  refine Call_ (ld_blt I hg hm PyProof.Rows.boot_zip (PyProof.Rows.callWith_type1 (thn (ha.run pos pins s σ H _ I h) fun us s1 ⟨vs, H1, I1, r1, q1⟩ => ?_) hs hpl))
  obtain ⟨a, x, xs, ex, hqx, q⟩ := q1
  subst ex
  cases r1 with
  | cons r rr =>
    cases rr with
    | cons r' rr =>
      cases rr
      cases r
      obtain ⟨t, rfl⟩ := r'
      have fresh5 : ∀ c, c ∈ [s1.heap.objs.size + 4, s1.heap.objs.size + 2, s1.heap.objs.size + 3, s1.heap.objs.size, s1.heap.objs.size + 1] → FpOk X pins H1 c := fun c hcm => by
        have e' : c = s1.heap.objs.size + 4 ∨ c = s1.heap.objs.size + 2 ∨ c = s1.heap.objs.size + 3 ∨ c = s1.heap.objs.size ∨ c = s1.heap.objs.size + 1 := by simpa using hcm
        have hle : s1.heap.objs.size ≤ c := by
          rcases e' with z | z | z | z | z
          · rw [z]; exact Nat.le_add_right _ _
          · rw [z]; exact Nat.le_add_right _ _
          · rw [z]; exact Nat.le_add_right _ _
          · rw [z]; exact Nat.le_refl _
          · rw [z]; exact Nat.le_add_right _ _
        exact I1.fpOk hle (I1.hok.fresh hle)
      obtain ⟨its, rv, p1, _⟩ := I1.list hqx
      refine zip_begins2 (begins_list a its.toArray) (begins_text x t) p1.isList trivial fun h' hz hTI hTO h1 h2 hsz hk => wpAny_pyIter_zip hz ?_
      have I2 : Inv X pins σ H1 { s1 with heap := h' } := I1.kept (t' := s1.toks) hk
      have lt := p1.lt
      refine ⟨s1.heap.objs.size + 4, [s1.heap.objs.size + 4, s1.heap.objs.size + 2, s1.heap.objs.size + 3, s1.heap.objs.size, s1.heap.objs.size + 1], _, _, H1, rfl, I2, turn_zipS (x := x) (t := t) (a := a) ?_, ⟨hz, hTI, ⟨_, _, hTO⟩, ⟨_, h1, rfl, rfl⟩, ⟨_, h2, rfl, rfl⟩⟩, fresh5, q⟩
      exact sep2_of _ _ lt
end Mi
/-! MiL: texts; written tables. -/
namespace Mi
open PySem PySem.Spec PyProof.Rows L2
theorem pi_zipSK {X : Cx} {K : PySem.W.Frag} {e e2 : Expr} {ta : TA} {p pos tpos : Pos} {elts : List Expr} {kk : Nat} (h : X.K = K) (hg : Gl X "zip") (hm : X.mg "zip" = none) (ha : PA X [e, e2] ta)
    (hs : starEach [e, e2] X.env = (false, eval e X.env) :: starEach [e2] X.env := by rfl) (hpl : (backTo pos (starEach [e2] X.env)).any (·.1) = false := by rfl) :
    PI X (.Tuple elts kk tpos) (.Call (.Name "zip" p) [e, e2] [] pos) (iZipS K ta) := h ▸ pi_zipS hg hm ha hs hpl
theorem flat_rep1 {H : Hp} {d : D} {v : V} (h : d.flat = true) (r : RepD H d v) (F : Hp) : RepD F d v := by cases d <;> first | exact r | cases h
theorem flat_repL {H : Hp} : ∀ {ds : List D} {vs : List V}, ds.all D.flat = true → RepL H ds vs → ∀ F, RepL F ds vs
  | [], _, _, r, F => r
  | d :: ds, _, h, ⟨v, r, e, h1, h2⟩, F => by
    rw [List.all_cons, Bool.and_eq_true] at h
    exact ⟨v, r, e, flat_rep1 h.1 h1 F, flat_repL h.2 h2 F⟩
section
variable {K : PySem.W.Frag} {mg : Str → Option Value} {W : WX} {μ : List Mk} {ta tb te tc : TE} {ea eb e ec : ME} {m : Mk} {B : Bx}
/-! ### zip of a list and a text -/
def fZipS : List D → R (List D)
  | [.lst ds, .str z] => .ok (ds.zipWith (fun d e => .tup [d, e]) (z.cps.toList.map fun c => D.str ⟨#[c]⟩))
  | _ => .stuck
def mZipS (a : MA) : MI := fun ρ => (a ρ).bind fZipS
theorem si_zipS {ta : TA} {ma : MA} (h : SimA mg W μ ta ma) : SimI mg W μ (iZipS K ta) (mZipS ma) := fun ρ σ F H c st Rr q x ns => by
  refine h ρ σ F H c st _ (fun ds vs F0 H' e1 ev r => ?_) (fun y cls dd F' H' e1 ev rx => x y cls dd F' H' (bind_ex e1) ev rx) (bind_stuck (f := fZipS) ns)
  have k : mZipS ma ρ = fZipS ds := by unfold mZipS; rw [e1]; rfl
  have ns2 : mZipS ma ρ ≠ .stuck := ns
  unfold fZipS at k
  split at k
  · rename_i ds z
    obtain ⟨v, w, rfl, ⟨a, vs, rfl, hp, hl⟩, hw⟩ := r.two
    cases (show w = .str z from hw)
    have lz : (z.cps.toList.map fun c => D.str ⟨#[c]⟩).length = z.cps.size := by rw [List.length_map, Array.length_toList]
    have ll := RepL.len _ _ hl
    refine ⟨a, z, vs, rfl, SqL.of (ev.sub _ _ hp), q _ _ F0 H' k ev ⟨fun F H h1 h2 => ?_, fun i F H hi h1 h2 => ?_, fun i F H x H' d h1 h2 y hd => ?_⟩⟩
    · refine ⟨vs, SqL.of (h2 _ _ (h1 _ _ hp)), ?_, ?_, ?_⟩
      all_goals rw [List.length_zipWith, lz]
      all_goals omega
    · rw [List.length_zipWith, lz] at hi
      exact ⟨vs, vs[i]'(by omega), SqL.of (h2 _ _ (h1 _ _ hp)), List.getElem?_eq_getElem _, by omega⟩
    · obtain ⟨T, z1, c1, rfl, hT, rfl, y1, y2⟩ := y
      obtain ⟨d1, d2, g1, g2, rfl⟩ := zip_get hd
      obtain ⟨v1, hv1, rv1⟩ := RepL.get hl g1
      rw [List.getElem?_map, Array.getElem?_toList, y2] at g2
      cases g2
      have ex1 : z1 = v1 := Option.some.inj ((y1 vs (SqL.of (h2 _ _ (h1 _ _ hp)))).symm.trans hv1)
      subst ex1
      have ev2 := Ev.new (o := .tup [z1, .str ⟨#[c1]⟩]) h2 hT
      exact ⟨_, ev2, T, _, rfl, upd_same, z1, [.str ⟨#[c1]⟩], rfl, RepD.up ev2.ext _ _ (RepD.up h1 _ _ rv1), .str ⟨#[c1]⟩, [], rfl, rfl, rfl⟩
  · exact absurd k ns2
/-! ### join, split -/
abbrev rJoin (K : PySem.W.Frag) : V → List V → Hp → VK → Prop := fun x xs H Q => ∃ a p, ∃ ys : List Str, x = .str a ∧ xs = [.ref p] ∧ (SqL K H p (ys.map V.str) ∨ SqT K H p (ys.map V.str)) ∧
    (ys.map (·.length)).sum + ys.length * a.length ≤ 16777216 ∧ Q (.str (Txt.join a ys)) H
theorem pe_joinK {X : Cx} {K : PySem.W.Frag} {o e : Expr} {to te : TE} {apos pos : Pos} (h : X.K = K) (ho : PE X o to) (he : PE X e te) (hs : starEach [e] X.env = [(false, eval e X.env)] := by rfl) (hbase : attributeBase o "join" X.env (eval o X.env) = eval o X.env := by rfl) (hline : (apos.endLine == pos.line) = true := by rfl) :
    PE X (.Call (.Attribute o "join" apos) [e] [] pos) (tM1 (rJoin K) to te) := h ▸ pe_join ho he hs hbase hline
def D.toS : D → R Str
  | .str a => .ok a
  | _ => .stuck
theorem D.toS_ok {d : D} {a : Str} (h : d.toS = .ok a) : d = .str a := by cases d <;> first | (cases h; rfl) | cases h
theorem D.toS_ex {d : D} {x : Xc} : d.toS ≠ .ex x := by cases d <;> exact fun h => nomatch h
def mS1 (f : Str → D → R D) (a b : ME) : ME := fun ρ => (a ρ).bind fun x => x.toS.bind fun s => (b ρ).bind fun y => f s y
def fJoin (a : Str) : D → R D
  | .lst ds => match strsOf ds with
    | some ys => if Nat.ble ((ys.map (·.length)).sum + ys.length * a.length) 16777216 then .ok (.str (Txt.join a ys)) else .stuck
    | none => .stuck
  | _ => .stuck
theorem fJoin_ex {a : Str} {b : D} {x : Xc} : fJoin a b ≠ .ex x := by
  unfold fJoin
  split
  · split
    · split <;> exact fun h => nomatch h
    · exact fun h => nomatch h
  · exact fun h => nomatch h
theorem repL_strs {H : Hp} : ∀ {ys : List Str} {vs : List V}, RepL H (ys.map D.str) vs → vs = ys.map V.str
  | [], _, r => r
  | y :: ys, _, ⟨v, r, e, h1, h2⟩ => by rw [e, repL_strs h2]; cases (show v = .str y from h1); rfl
theorem strs_repL {H : Hp} : ∀ ys : List Str, RepL H (ys.map D.str) (ys.map V.str)
  | [] => rfl
  | y :: ys => ⟨_, _, rfl, rfl, strs_repL ys⟩
/-- x.m(e), x a text -/
theorem sim_m1 {r : V → List V → Hp → VK → Prop} {f : Str → D → R D} {mk : Mk} (fx : ∀ a d x, f a d ≠ .ex x)
    (h : ∀ a d v F H (Q : VK) y, (∀ a o, F a = some o → H a = some o) → RepD H d v → f a d = .ok y → (∀ v F' H' cv, Ev F H F' H' → RepM F' H' mk y v cv → (∀ b, 0 < cv b → H b = none) → (∀ b, cv b ≤ 1) → Q v H') → r (.str a) [v] H Q)
    (ha : SimR mg W μ ta ea) (hb : SimR mg W μ tb eb) : SimP mg W μ (tM1 r ta tb) (mS1 f ea eb) mk := fun ρ σ F H c st Q q x ns => by
  have k0 : mS1 f ea eb ρ = (ea ρ).bind fun x => x.toS.bind fun s => (eb ρ).bind fun y => f s y := rfl
  refine ha ρ σ F H c st _ (fun d1 v1 F1 H1 e1 ev1 r1 => ?_) (fun y cls dd F' H' e1 ev rx => x y cls dd F' H' (by rw [k0, e1]; rfl) ev rx) (fun z => ns (by rw [k0, z]; rfl))
  rw [e1] at k0
  have k0 : mS1 f ea eb ρ = d1.toS.bind fun s => (eb ρ).bind fun y => f s y := k0
  cases hs : d1.toS with
  | ex y => exact absurd hs D.toS_ex
  | stuck => rw [hs] at k0; exact absurd k0 ns
  | ok a =>
    rw [hs] at k0
    have k0 : mS1 f ea eb ρ = (eb ρ).bind fun y => f a y := k0
    have hd := D.toS_ok hs
    subst hd
    cases (show v1 = .str a from r1)
    refine ⟨⟨a, rfl⟩, hb ρ σ F1 H1 c (st.ev ev1) _ (fun d2 v2 F2 H2 e2 ev2 r2 => ?_) (fun y cls dd F' H' e2 ev rx => x y cls dd F' H' (by rw [k0, e2]; rfl) (ev1.trans ev) rx) (fun z => ns (by rw [k0, z]; rfl))⟩
    rw [e2] at k0
    have k0 : mS1 f ea eb ρ = f a d2 := k0
    cases hf : f a d2 with
    | ex y => exact absurd hf (fx a d2 y)
    | stuck => exact absurd (k0.trans hf) ns
    | ok y =>
      have ev12 := ev1.trans ev2
      exact h a d2 v2 F2 H2 Q y ev2.sub r2 hf fun v F' H' cv ev rv nw on => q y v F' H' cv (k0.trans hf) (ev12.trans ev) rv (fun b z => new_back ev12 (nw b z)) on
theorem sim_join (ha : SimR mg W μ ta ea) (hb : SimR mg W μ tb eb) : SimP mg W μ (tM1 (rJoin K) ta tb) (mS1 fJoin ea eb) .sh := by
  refine sim_m1 (fun a d x => fJoin_ex) (fun a d v F H Q y hs r e q => ?_) ha hb
  unfold fJoin at e
  split at e
  · rename_i ds
    cases hy : strsOf ds with
    | none => rw [hy] at e; cases e
    | some ys =>
      rw [hy] at e
      have e : (if Nat.ble ((ys.map (·.length)).sum + ys.length * a.length) 16777216 then R.ok (D.str (Txt.join a ys)) else .stuck) = .ok y := e
      by_cases hz : Nat.ble ((ys.map (·.length)).sum + ys.length * a.length) 16777216 = true
      · rw [if_pos hz] at e
        cases e
        rw [strsOf_eq hy] at r
        obtain ⟨p, vs, rfl, hp, hl⟩ := r
        rw [repL_strs hl] at hp
        exact ⟨a, p, ys, rfl, rfl, .inl (SqL.of hp), Nat.le_of_ble_eq_true hz, q (.str _) F H (fun _ => 0) (Ev.refl hs) ⟨rfl, fun _ => rfl⟩ (fun b z => absurd z (by decide)) fun _ => Nat.zero_le _⟩
      · rw [if_neg hz] at e; cases e
  · cases e
def fSplit (a : Str) : D → R D
  | .str b => if !(b.length == 0) && smallS a.length then .ok (.lst ((Txt.split a b).map D.str)) else .stuck
  | _ => .stuck
theorem fSplit_ex {a : Str} {b : D} {x : Xc} : fSplit a b ≠ .ex x := by
  unfold fSplit
  split
  · split <;> exact fun h => nomatch h
  · exact fun h => nomatch h
theorem sim_split (ha : SimR mg W μ ta ea) (hb : SimR mg W μ tb eb) : SimP mg W μ (tM1 rSplit ta tb) (mS1 fSplit ea eb) (.ow .sh) := by
  refine sim_m1 (fun a d x => fSplit_ex) (fun a d v F H Q y hs r e q => ?_) ha hb
  unfold fSplit at e
  split at e
  · rename_i b
    by_cases hz : (!(b.length == 0) && smallS a.length) = true
    · rw [if_pos hz] at e
      cases e
      rw [Bool.and_eq_true, Bool.not_eq_true'] at hz
      cases (show v = .str b from r)
      refine ⟨a, b, rfl, rfl, hz.1, ?_, fun p hp => ?_⟩
      · have := smallS_le hz.2
        rw [sizeLine_eq]; omega
      · exact q _ F _ (one p) (Ev.newO hs hp) (RepM.newL hs hp (strs_repL _)) (fun b z => by rw [one_pos z]; exact hp) (one_le p)
    · rw [if_neg hz] at e; cases e
  · cases e
/-! ### a slice, a copy of an own list of scalars -/
def mSliceS (e : ME) (lo hi : MO) : ME := fun ρ => (e ρ).bind fun d => (lo ρ).bind fun a => (hi ρ).bind fun b => match d with
  | .lst ds => if ds.all D.flat then .ok (.lst (cutD ds a b)) else .stuck
  | _ => .stuck
theorem sim_sliceS {tl th : TO} {el eh : MO} (h : SimR mg W μ te e) (hl : SimO mg W μ tl el) (hh : SimO mg W μ th eh) : SimP mg W μ (tSl (rSlX K) te tl th) (mSliceS e el eh) (.ow .sh) := fun ρ σ F H c st Q q x ns => by
  have fx : mSliceS e el eh ρ = (e ρ).bind fun d => (el ρ).bind fun a => (eh ρ).bind fun b => match d with | .lst ds => if ds.all D.flat then .ok (.lst (cutD ds a b)) else .stuck | _ => .stuck := rfl
  refine h ρ σ F H c st _ (fun d v F1 H1 e1 ev1 r1 => ?_) (fun y cls dd F' H' e1 ev rx => x y cls dd F' H' (by rw [fx, e1]; rfl) ev rx) (fun z => ns (by rw [fx, z]; rfl))
  rw [e1] at fx
  have fx : mSliceS e el eh ρ = (el ρ).bind fun a => (eh ρ).bind fun b => match d with | .lst ds => if ds.all D.flat then .ok (.lst (cutD ds a b)) else .stuck | _ => .stuck := fx
  refine hl ρ σ F1 H1 c (st.ev ev1) _ (fun a F2 H2 e2 ev2 => ?_) (fun y cls dd F' H' e2 ev rx => x y cls dd F' H' (by rw [fx, e2]; rfl) (ev1.trans ev) rx) (fun z => ns (by rw [fx, z]; rfl))
  rw [e2] at fx
  have fx : mSliceS e el eh ρ = (eh ρ).bind fun b => match d with | .lst ds => if ds.all D.flat then .ok (.lst (cutD ds a b)) else .stuck | _ => .stuck := fx
  have ev12 := ev1.trans ev2
  refine hh ρ σ F2 H2 c (st.ev ev12) _ (fun b F3 H3 e3 ev3 => ?_) (fun y cls dd F' H' e3 ev rx => x y cls dd F' H' (by rw [fx, e3]; rfl) (ev12.trans ev) rx) (fun z => ns (by rw [fx, z]; rfl))
  rw [e3] at fx
  cases d with
  | lst ds =>
    have fx : mSliceS e el eh ρ = if ds.all D.flat then .ok (.lst (cutD ds a b)) else .stuck := fx
    by_cases hz : ds.all D.flat = true
    · rw [if_pos hz] at fx
      obtain ⟨p, vs, e4, h4, l4⟩ := RepD.up (ev2.trans ev3).keep _ _ r1
      refine .inl ⟨p, vs, e4, SqL.of h4, fun l hl => ?_⟩
      exact q _ _ F3 _ (one l) fx ((ev12.trans ev3).trans (Ev.newO ev3.sub hl)) (RepM.newL ev3.sub hl ((flat_repL hz l4 F3).cut a b)) (fun b z => by rw [one_pos z]; exact new_back (ev12.trans ev3) hl) (one_le l)
    · rw [if_neg hz] at fx; exact absurd fx ns
  | _ => exact absurd fx ns
end
/-! ### written tables -/
def seqAt (K : PySem.W.Frag) (T : String) (a : Addr) (vs : List V) : Bool := match K.lookup a with
  | some ⟨.type c, _, .seq its _, _⟩ => decide (c = T) && (decide (its.size ≤ sizeLine) && He.relAll vs its.toList)
  | _ => false
theorem seqAt_ok {K : PySem.W.Frag} {a : Addr} {vs : List V} (h : seqAt K "tuple" a vs = true) (H : Hp) : SqT K H a vs := by
  unfold seqAt at h
  cases q : K.lookup a with
  | none => rw [q] at h; cases h
  | some o =>
    obtain ⟨oc, od, dt, osl⟩ := o
    rw [q] at h
    cases oc with
    | type c =>
      cases dt with
      | seq its n =>
        obtain ⟨h1, h2⟩ := He.ba (show (decide (c = "tuple") && (decide (its.size ≤ sizeLine) && He.relAll vs its.toList)) = true from h)
        obtain ⟨h3, h4⟩ := He.ba h2
        exact .inr ⟨_, its, n, q, congrArg Value.type (of_decide_eq_true h1), rfl, of_decide_eq_true h3, He.relAll_ok h4⟩
      | _ => cases h
    | _ => cases dt <;> cases h
/-- the dict at a has these text keys, and behind each a value that p tells true -/
def tabAll {α : Type} (p : α → Value → Bool) : List (Str × α) → List DictEntry → Bool
  | [], [] => true
  | kv :: r, e :: es => (match e.key with | .str y _ => decide (y = kv.1) | _ => false) && (p kv.2 e.val && tabAll p r es)
  | _, _ => false
def tabB {α : Type} (K : PySem.W.Frag) (p : α → Value → Bool) (a : Addr) (kvs : List (Str × α)) : Bool := match K.lookup a with
  | some ⟨_, _, .dict es _, _⟩ => tabAll p kvs es.toList
  | _ => false
def tget {α : Type} : List (Str × α) → Str → Option α
  | [], _ => none
  | kv :: r, z => if kv.1 = z then some kv.2 else tget r z
theorem tabAll_ok {α : Type} {p : α → Value → Bool} (z : Str) : ∀ {kvs : List (Str × α)} {es : List DictEntry}, tabAll p kvs es = true →
    (∀ y, tget kvs z = some y → ∃ e, es.find? (·.key.isStr z) = some e ∧ p y e.val = true) ∧ (tget kvs z = none → es.find? (·.key.isStr z) = none ∧ es.any (·.refKey) = false)
  | [], [], _ => ⟨fun y h => (nomatch h), fun _ => ⟨rfl, rfl⟩⟩
  | [], _ :: _, h => by cases h
  | _ :: _, [], h => by cases h
  | kv :: r, e :: es, h => by
    obtain ⟨h1, h2⟩ := He.ba (show ((match e.key with | .str y _ => decide (y = kv.1) | _ => false) && (p kv.2 e.val && tabAll p r es)) = true from h)
    obtain ⟨h3, h4⟩ := He.ba h2
    obtain ⟨i1, i2⟩ := tabAll_ok z h4
    obtain ⟨hh, key, val⟩ := e
    cases key with
    | str y t =>
      have ey : y = kv.1 := of_decide_eq_true h1
      subst ey
      by_cases c : kv.1 = z
      · have ek : Value.isStr (.str kv.1 t) z = true := by show (kv.1 == z) = true; rw [c]; exact beq_self_eq_true z
        have ef : (({ hash := hh, key := .str kv.1 t, val := val } : DictEntry) :: es).find? (·.key.isStr z) = some { hash := hh, key := .str kv.1 t, val := val } := by
          rw [List.find?_cons]; show (match Value.isStr (.str kv.1 t) z with | true => _ | false => _) = _; rw [ek]
        have et : tget (kv :: r) z = some kv.2 := by show (if kv.1 = z then _ else _) = _; rw [if_pos c]
        rw [et]
        refine ⟨fun y hy => ?_, fun hn => nomatch hn⟩
        cases hy
        exact ⟨_, ef, h3⟩
      · have ek : Value.isStr (.str kv.1 t) z = false := by show (kv.1 == z) = false; exact beq_eq_false_iff_ne.mpr c
        have ef : (({ hash := hh, key := .str kv.1 t, val := val } : DictEntry) :: es).find? (·.key.isStr z) = es.find? (·.key.isStr z) := by
          rw [List.find?_cons]; show (match Value.isStr (.str kv.1 t) z with | true => _ | false => _) = _; rw [ek]
        have et : tget (kv :: r) z = tget r z := by show (if kv.1 = z then _ else _) = _; rw [if_neg c]
        rw [ef, et]
        exact ⟨i1, fun hn => ⟨(i2 hn).1, by rw [List.any_cons, (i2 hn).2]; rfl⟩⟩
    | _ => cases h1
theorem tabB_ok {α : Type} {K : PySem.W.Frag} {p : α → Value → Bool} {a : Addr} {kvs : List (Str × α)} (h : tabB K p a kvs = true) (z : Str) :
    (∀ y, tget kvs z = some y → ∃ u, PySem.W.nsIn K a z = some (some u) ∧ p y u = true) ∧ (tget kvs z = none → PySem.W.nsIn K a z = some none) := by
  unfold tabB at h
  unfold PySem.W.nsIn
  cases q : K.lookup a with
  | none => rw [q] at h; cases h
  | some o =>
    obtain ⟨oc, od, dt, osl⟩ := o
    rw [q] at h
    cases dt with
    | dict es n =>
      obtain ⟨i1, i2⟩ := tabAll_ok z h
      refine ⟨fun y hy => ?_, fun hn => ?_⟩
      · obtain ⟨e, h1, h2⟩ := i1 y hy
        exact ⟨e.val, by show (match es.toList.find? (·.key.isStr z) with | some e => some (some e.val) | none => _) = _; rw [h1], h2⟩
      · obtain ⟨h1, h2⟩ := i2 hn
        show (match es.toList.find? (·.key.isStr z) with | some e => some (some e.val) | none => _) = _
        rw [h1]
        show (if es.toList.any (·.refKey) = true then none else some none) = _
        rw [h2]; rfl
    | _ => cases h
end Mi
/-! MiM: a written dict with text keys. -/
namespace Mi
open PySem PySem.Spec PyProof.Rows L2
def rInKd (K : PySem.W.Frag) (d : Addr) : R2 := fun x y H Q => ∃ (z : Str) (r : Option Value), x = .str z ∧ y = .ref d ∧ PySem.W.nsIn K d z = some r ∧ Q (.bl r.isSome) H
def rNotInKd (K : PySem.W.Frag) (d : Addr) : R2 := fun x y H Q => ∃ (z : Str) (r : Option Value), x = .str z ∧ y = .ref d ∧ PySem.W.nsIn K d z = some r ∧ Q (.bl (!r.isSome)) H
section
variable {X : Cx} {K : PySem.W.Frag} {w : World} {d : Addr} {es : Array DictEntry} {n : Nat}
theorem op_inKd (h : X.K = K) (hw : X.w = w) (D : KDict K w d es n) : OpR X (compareOp .In) (rInKd K d) := by subst h hw; exact op_in_kd D
theorem op_notInKd (h : X.K = K) (hw : X.w = w) (D : KDict K w d es n) : OpR X (compareOp .NotIn) (rNotInKd K d) := by subst h hw; exact op_notIn_kd D
theorem ix_kdK (h : X.K = K) (hw : X.w = w) : IxR X (rIxD K w) := by subst h hw; exact ix_kdict
end
section
variable {K : PySem.W.Frag} {w : World} {mg : Str → Option Value} {W : WX} {μ : List Mk} {ta tb te tc : TE} {ea eb e ec : ME} {m : Mk} {B : Bx} {α : Type} {p : α → Value → Bool} {kvs : List (Str × α)} {d : Addr} {es : Array DictEntry} {n : Nat}
def fInKd (kvs : List (Str × α)) : D → R D
  | .str z => .ok (.bl (tget kvs z).isSome)
  | _ => .stuck
def fNotInKd (kvs : List (Str × α)) : D → R D
  | .str z => .ok (.bl (!(tget kvs z).isSome))
  | _ => .stuck
theorem tab_ns (ht : tabB K p d kvs = true) (z : Str) : ∃ r, PySem.W.nsIn K d z = some r ∧ r.isSome = (tget kvs z).isSome := by
  obtain ⟨h1, h2⟩ := tabB_ok ht z
  cases q : tget kvs z with
  | none => exact ⟨none, h2 q, rfl⟩
  | some y => obtain ⟨u, h, _⟩ := h1 y q; exact ⟨some u, h, rfl⟩
theorem sim_inKd (ht : tabB K p d kvs = true) (ha : SimR mg W μ ta ea) : SimP mg W μ (tOp (rInKd K d) ta (tC (.ref d))) (l1 (fInKd kvs) ea) .sh := fun ρ σ F H c st Q q x ns => by
  refine ha ρ σ F H c st _ (fun d1 v F' H' e1 ev r => ?_) (fun y cls dd F' H' e1 ev rx => x y cls dd F' H' (bind_ex e1) ev rx) (bind_stuck (f := fInKd kvs) ns)
  have k : l1 (fInKd kvs) ea ρ = fInKd kvs d1 := by unfold l1; rw [e1]; rfl
  have ns' : fInKd kvs d1 ≠ .stuck := fun z => ns (k.trans z)
  cases d1 with
  | str z =>
    obtain ⟨o, h1, h2⟩ := tab_ns ht z
    cases (show v = .str z from r)
    exact ⟨z, o, rfl, rfl, h1, q _ (.bl o.isSome) F' H' (fun _ => 0) k ev ⟨by show V.bl _ = V.bl _; rw [h2], fun _ => rfl⟩ (fun a z => absurd z (by decide)) fun _ => Nat.zero_le _⟩
  | _ => exact absurd rfl ns'
theorem sim_notInKd (ht : tabB K p d kvs = true) (ha : SimR mg W μ ta ea) : SimP mg W μ (tOp (rNotInKd K d) ta (tC (.ref d))) (l1 (fNotInKd kvs) ea) .sh := fun ρ σ F H c st Q q x ns => by
  refine ha ρ σ F H c st _ (fun d1 v F' H' e1 ev r => ?_) (fun y cls dd F' H' e1 ev rx => x y cls dd F' H' (bind_ex e1) ev rx) (bind_stuck (f := fNotInKd kvs) ns)
  have k : l1 (fNotInKd kvs) ea ρ = fNotInKd kvs d1 := by unfold l1; rw [e1]; rfl
  have ns' : fNotInKd kvs d1 ≠ .stuck := fun z => ns (k.trans z)
  cases d1 with
  | str z =>
    obtain ⟨o, h1, h2⟩ := tab_ns ht z
    cases (show v = .str z from r)
    exact ⟨z, o, rfl, rfl, h1, q _ (.bl (!o.isSome)) F' H' (fun _ => 0) k ev ⟨by show V.bl _ = V.bl _; rw [h2], fun _ => rfl⟩ (fun a z => absurd z (by decide)) fun _ => Nat.zero_le _⟩
  | _ => exact absurd rfl ns'
def pStr (s : Str) (u : Value) : Bool := He.relB (.str s) u
def pInts (K : PySem.W.Frag) (ns : List Int) (u : Value) : Bool := match u with
  | .ref a => seqAt K "tuple" a (ns.map V.int)
  | _ => false
def fIxS (kvs : List (Str × Str)) : D → R D
  | .str z => match tget kvs z with
    | some s => .ok (.str s)
    | none => .stuck
  | _ => .stuck
theorem sim_ixKdS {kvs : List (Str × Str)} (D' : KDict K w d es n) (ht : tabB K pStr d kvs = true) (ha : SimR mg W μ ta ea) : SimP mg W μ (tOp (rIxD K w) (tC (.ref d)) ta) (l1 (fIxS kvs) ea) .sh := fun ρ σ F H c st Q q x ns => by
  refine ha ρ σ F H c st _ (fun d1 v F' H' e1 ev r => ?_) (fun y cls dd F' H' e1 ev rx => x y cls dd F' H' (bind_ex e1) ev rx) (bind_stuck (f := fIxS kvs) ns)
  have k : l1 (fIxS kvs) ea ρ = fIxS kvs d1 := by unfold l1; rw [e1]; rfl
  have ns' : fIxS kvs d1 ≠ .stuck := fun z => ns (k.trans z)
  cases d1 with
  | str z =>
    cases (show v = .str z from r)
    have k : l1 (fIxS kvs) ea ρ = match tget kvs z with | some s => .ok (.str s) | none => .stuck := k
    have ns' : (match tget kvs z with | some s => R.ok (D.str s) | none => .stuck) ≠ .stuck := ns'
    cases hq : tget kvs z with
    | none => rw [hq] at ns'; exact absurd rfl ns'
    | some s =>
      rw [hq] at k
      obtain ⟨u, h1, h2⟩ := (tabB_ok ht z).1 s hq
      exact ⟨d, z, .str s, rfl, rfl, ⟨es, n, u, D'.at_, D'.lit, h1, He.relB_ok h2⟩, q _ _ F' H' (fun _ => 0) k ev ⟨rfl, fun _ => rfl⟩ (fun a z => absurd z (by decide)) fun _ => Nat.zero_le _⟩
  | _ => exact absurd rfl ns'
theorem repL_ints {H : Hp} : ∀ ns : List Int, RepL H (ns.map D.int) (ns.map V.int)
  | [] => rfl
  | n :: ns => ⟨_, _, rfl, rfl, repL_ints ns⟩
def fNotInT (kvs : List (Str × List Int)) : D → D → R D
  | .int i, .str z => match tget kvs z with
    | some ns => .ok (.bl (!(ns.map D.int).any fun z => PyData.eqv z.py (D.int i).py))
    | none => .stuck
  | _, _ => .stuck
theorem sim_notInT {kvs : List (Str × List Int)} (D' : KDict K w d es n) (ht : tabB K (pInts K) d kvs = true) (ha : SimR mg W μ ta ea) (hb : SimR mg W μ tb eb) :
    SimP mg W μ (tOp (rNotInA K) ta (tOp (rIxD K w) (tC (.ref d)) tb)) (l2 (fNotInT kvs) ea eb) .sh := fun ρ σ F H c st Q q x ns => by
  refine ha ρ σ F H c st _ (fun d1 v1 F1 H1 e1 ev1 r1 => ?_) (fun y cls dd F' H' e1 ev rx => x y cls dd F' H' (bind_ex e1) ev rx) (bind_stuck (f := fun x => (eb ρ).bind fun y => fNotInT kvs x y) ns)
  have k1 : l2 (fNotInT kvs) ea eb ρ = (eb ρ).bind fun y => fNotInT kvs d1 y := by unfold l2; rw [e1]; rfl
  rw [k1] at ns
  refine hb ρ σ F1 H1 c (st.ev ev1) _ (fun d2 v2 F2 H2 e2 ev2 r2 => ?_) (fun y cls dd F' H' e2 ev rx => x y cls dd F' H' (k1.trans (bind_ex e2)) (ev1.trans ev) rx) (bind_stuck ns)
  have k2 : l2 (fNotInT kvs) ea eb ρ = fNotInT kvs d1 d2 := by rw [k1, e2]; rfl
  rw [e2] at ns
  have ns' : fNotInT kvs d1 d2 ≠ .stuck := ns
  cases d1 with
  | int i =>
    cases d2 with
    | str z =>
      cases (show v1 = .int i from r1)
      cases (show v2 = .str z from r2)
      have k2 : l2 (fNotInT kvs) ea eb ρ = match tget kvs z with | some ns => .ok (.bl (!(ns.map D.int).any fun z => PyData.eqv z.py (D.int i).py)) | none => .stuck := k2
      have ns' : (match tget kvs z with | some ns => R.ok (D.bl (!(ns.map D.int).any fun z => PyData.eqv z.py (D.int i).py)) | none => .stuck) ≠ .stuck := ns'
      cases hq : tget kvs z with
      | none => rw [hq] at ns'; exact absurd rfl ns'
      | some js =>
        rw [hq] at k2
        obtain ⟨u, h1, h2⟩ := (tabB_ok ht z).1 js hq
        cases u with
        | ref a =>
          have h2 : seqAt K "tuple" a (js.map V.int) = true := h2
          have hj : (js.map D.int).all D.flat = true := by
            rw [List.all_eq_true]
            intro d hd
            obtain ⟨i, _, e⟩ := List.mem_map.mp hd
            rw [← e]; rfl
          have hin : inV (.int i) (js.map V.int) = (js.map D.int).any fun z => PyData.eqv z.py (D.int i).py := flat_any (H := H2) (x := .int i) rfl rfl hj (repL_ints js)
          have hfl := flat_all (H := H2) hj (repL_ints js)
          refine ⟨d, z, .ref a, rfl, rfl, ⟨es, n, .ref a, D'.at_, D'.lit, h1, rfl⟩, .inr (.inr (.inl ⟨a, js.map V.int, rfl, .inr (seqAt_ok h2 H2), rfl, hfl, ?_⟩))⟩
          exact q _ _ F2 H2 (fun _ => 0) k2 (ev1.trans ev2) ⟨by show V.bl _ = V.bl _; rw [hin]; rfl, fun _ => rfl⟩ (fun a z => absurd z (by decide)) fun _ => Nat.zero_le _
        | _ => cases h2
    | _ => exact absurd rfl ns'
  | _ => exact absurd (by cases d2 <;> rfl) ns'
end
end Mi
/-! MiN: the def that reads the script; the law. -/
namespace Mi
open PySem L2
def mRun (body : MS) (ρ : Rho) : R D := match body ρ with
  | .rt d => .ok d
  | .ex x _ => .ex x
  | _ => .stuck
def numRho (n : Nat) (ns : List Int) (k : Int) : Rho := none :: some (.int k) :: some (.lst (cutD (ns.map D.int) none (some 63))) :: List.replicate n none
def fNum (n : Nat) (rest : MS) (ns : List Int) (k : Int) : R D := mRun rest (numRho n ns k)
def spNum (K : PySem.W.Frag) (mg : Str → Option Value) (mr : Mk) (n : Nat) (rest : MS) : Sp := fun vs H Q E => ∃ (a : Addr) (ns : List Int) (k : Int) (F : Hp), vs = [.ref a, .int k] ∧ SqL K H a (ns.map V.int) ∧ (∀ a o, F a = some o → H a = some o) ∧ fNum n rest ns k ≠ .stuck ∧
  (∀ d v F' H' cv, fNum n rest ns k = .ok d → Ev F H F' H' → RepM F' H' mr d v cv → (∀ a, 0 < cv a → H a = none) → (∀ a, cv a ≤ 1) → Q v H') ∧
  (∀ x cls dd F' H', fNum n rest ns k = .ex x → Ev F H F' H' → RepX mg x cls dd H' → E cls dd H')
theorem repInts {H : Hp} : ∀ ns : List Int, RepL H (ns.map D.int) (ns.map V.int)
  | [] => rfl
  | n :: ns => ⟨_, _, rfl, rfl, repInts ns⟩
section
variable {K : PySem.W.Frag} {mg : Str → Option Value}
theorem num_body {mr : Mk} {n : Nat} {N : List Str} {rest : MS} {t : TS} {vs : List V} {H : Hp} {Q : VK} {E : XK} {Bn Bb Bxx : List Mk} (hN : N.length = n + 3)
    (hs : SimS mg (fun cls d _ H => E cls d H) (.sh :: .sh :: .sh :: List.replicate n .sh) t rest { n := Bn, b := Bb, c := Bb, x := Bxx, r := mr })
    (h : spNum K mg mr n rest vs H Q E) : tSeq (tAsg (tSl (rSlX K) (tVar 0) tNoPart (tPart (tC (.int 63)))) (gName 2)) t { nx := fun _ H' => Q .non H', rt := Q } (L2.start N vs) H := by
  obtain ⟨a, ns, k, F, rfl, hS, sub, nst, q, x⟩ := h
  have es : L2.start N [.ref a, .int k] = some (.ref a) :: some (.int k) :: none :: List.replicate n none := by
    unfold L2.start
    rw [hN]; rfl
  rw [es]
  refine ⟨.ref a, rfl, 63, rfl, .inl ⟨a, ns.map V.int, rfl, hS, fun l hl => ?_⟩⟩
  have ev0 : Ev F H (upd F l (.lst (cutV (ns.map V.int) none (some 63)))) (upd H l (.lst (cutV (ns.map V.int) none (some 63)))) := Ev.new sub hl
  have k0 : fNum n rest ns k = mRun rest (numRho n ns k) := rfl
  unfold mRun at k0
  have st : Stt (.sh :: .sh :: .sh :: List.replicate n .sh) (numRho n ns k) (some (.ref a) :: some (.int k) :: some (.ref l) :: List.replicate n none) (upd F l (.lst (cutV (ns.map V.int) none (some 63)))) (upd H l (.lst (cutV (ns.map V.int) none (some 63)))) (fun _ => 0) :=
    ⟨ev0.sub, ⟨none, _, some (.ref a), _, fun _ => 0, fun _ => 0, rfl, rfl, fun _ => rfl, ⟨some (.int k), _, some (.int k), _, fun _ => 0, fun _ => 0, rfl, rfl, ⟨_, rfl, rfl, fun _ => rfl⟩,
      ⟨some _, _, some (.ref l), _, fun _ => 0, fun _ => 0, rfl, rfl, ⟨_, rfl, ⟨l, _, rfl, upd_same, (repInts ns).cut _ _⟩, fun _ => rfl⟩, RepE.none n, fun _ => rfl⟩, fun _ => rfl⟩, fun _ => rfl⟩, fun _ => Nat.zero_le _⟩
  refine hs _ _ _ _ _ st _ (fun ρ' σ' F' H' c' e ev st' => ?_) (fun d v F' H' cv e ev s' rv on => ?_) (fun ρ' σ' F' H' c' e ev st' => ?_) (fun ρ' σ' F' H' c' e ev st' => ?_) (fun y cls dd ρ' σ' F' H' c' e ev st' rx => ?_) (fun z => nst (by rw [k0, z]))
  · rw [e] at k0; exact absurd k0 nst
  · rw [e] at k0
    exact q d v F' H' cv k0 (ev0.trans (ev.ev s')) rv (fun a z => new_back ev0 ((ev.cnew a z).elim (fun y => absurd y (by decide)) id)) on
  · rw [e] at k0; exact absurd k0 nst
  · rw [e] at k0; exact absurd k0 nst
  · rw [e] at k0
    exact x y cls dd F' H' k0 (ev0.trans (ev.ev st'.sub)) rx
def lawRho (n : Nat) (d : D) : Rho := none :: some d :: List.replicate n none
def fLaw (n0 : Nat) (num : MS) (C : Int) (n : Nat) (rest : MS) (ns : List Int) : R D := (fNum n0 num ns C).bind fun d => mRun rest (lawRho n d)
def spLaw (K : PySem.W.Frag) : Sp := fun vs H Q _ => ∃ (a : Addr) (ns : List Int), vs = [.ref a] ∧ SqL K H a (ns.map V.int) ∧ ∀ H', Q (.bl true) H'
theorem law_body {mr : Mk} {n0 n : Nat} {C : Int} {N : List Str} {num rest : MS} {t : TS} {vs : List V} {H : Hp} {Q : VK} {E : XK} {Bn Bb Bxx : List Mk} (hN : N.length = n + 2)
    (hs : SimS mg (fun cls d _ H => E cls d H) (.sh :: mr :: List.replicate n .sh) t rest { n := Bn, b := Bb, c := Bb, x := Bxx, r := .sh })
    (hv : ∀ ns, fLaw n0 num C n rest ns = .ok (.bl true))
    (h : spLaw K vs H Q E) : tSeq (tAsg (tCallS (spNum K mg mr n0 num) (WE fun cls d _ H => E cls d H) (tCons (tVar 0) (tCons (tC (.int C)) tNil))) (gName 1)) t { nx := fun _ H' => Q .non H', rt := Q } (L2.start N vs) H := by
  obtain ⟨a, ns, rfl, hS, q⟩ := h
  have es : L2.start N [.ref a] = some (.ref a) :: none :: List.replicate n none := by
    unfold L2.start
    rw [hN]; rfl
  rw [es]
  have k0 := hv ns
  unfold fLaw at k0
  refine ⟨.ref a, rfl, a, ns, C, fun _ => none, rfl, hS, fun a o e => (nomatch e), fun z => ?_, fun d v F' H' cv e ev rv nw on => ?_, fun x cls dd F' H' e ev rx => ?_⟩
  · rw [z] at k0; cases k0
  · rw [e] at k0
    have k0 : mRun rest (lawRho n d) = .ok (.bl true) := k0
    unfold mRun at k0
    have st : Stt (.sh :: mr :: List.replicate n .sh) (lawRho n d) (some (.ref a) :: some v :: List.replicate n none) F' H' cv :=
      ⟨ev.sub, ⟨none, _, some (.ref a), _, fun _ => 0, cv, rfl, rfl, fun _ => rfl, ⟨some d, _, some v, _, cv, fun _ => 0, rfl, rfl, ⟨v, rfl, rv⟩, RepE.none n, fun _ => rfl⟩, fun b => by show cv b = 0 + cv b; omega⟩, on⟩
    refine hs _ _ _ _ _ st _ (fun ρ' σ' F' H' c' e ev st' => ?_) (fun d v F' H' cv e ev s' rv on => ?_) (fun ρ' σ' F' H' c' e ev st' => ?_) (fun ρ' σ' F' H' c' e ev st' => ?_) (fun y cls dd ρ' σ' F' H' c' e ev st' rx => ?_) (fun z => ?_)
    · rw [e] at k0; cases k0
    · rw [e] at k0
      cases k0
      cases (show v = .bl true from rv.1)
      exact q H'
    · rw [e] at k0; cases k0
    · rw [e] at k0; cases k0
    · rw [e] at k0; cases k0
    · rw [z] at k0; cases k0
  · rw [e] at k0; cases k0
end
end Mi
/-! MiP: plain facts of mirrors. -/
namespace Mi
open PySem L2
@[simp] theorem bind_okS {α β : Type} (a : α) (f : α → R β) : (R.ok a).bind f = f a := rfl
@[simp] theorem bind_exS {α β : Type} (x : Xc) (f : α → R β) : (R.ex x : R α).bind f = .ex x := rfl
@[simp] theorem bind_stS {α β : Type} (f : α → R β) : (R.stuck : R α).bind f = .stuck := rfl
@[simp] theorem noEx_okS {α : Type} (a : α) : noEx (R.ok a) = R.ok a := rfl
theorem go_inv {g : MG} {s : MS} {I : Nat → Rho → Prop} : ∀ (ds : List D) (i : Nat) (ρ : Rho), I i ρ → (∀ j d ρ, ds[j]? = some d → I (i + j) ρ → ∃ ρ1 ρ2, g d ρ = .ok ρ1 ∧ s ρ1 = .nx ρ2 ∧ I (i + j + 1) ρ2) →
    ∃ ρ', mGo g s ds ρ = .nx ρ' ∧ I (i + ds.length) ρ'
  | [], i, ρ, h, _ => ⟨ρ, rfl, h⟩
  | d :: ds, i, ρ, h, st => by
    obtain ⟨ρ1, ρ2, h1, h2, h3⟩ := st 0 d ρ rfl h
    obtain ⟨ρ', h4, h5⟩ := go_inv ds (i + 1) ρ2 h3 fun j d ρ hj hI => by
      have e : i + 1 + j = i + (j + 1) := by omega
      rw [e] at hI
      obtain ⟨a, b, q1, q2, q3⟩ := st (j + 1) d ρ (by simpa using hj) hI
      exact ⟨a, b, q1, q2, by rw [e]; exact q3⟩
    refine ⟨ρ', ?_, by rw [List.length_cons, show i + (ds.length + 1) = i + 1 + ds.length by omega]; exact h5⟩
    unfold mGo
    rw [h1]
    show (s ρ1).turn (mGo g s ds) = _
    rw [h2]
    exact h4
/-- a comprehension, item by item -/
theorem lc_map {g : MG} {t : MT} {e : ME} {ρ : Rho} {p : D → Bool} {f : D → D} : ∀ {ds : List D}, (∀ d ∈ ds, ∃ ρ1, g d ρ = .ok ρ1 ∧ t ρ1 = .ok (p d) ∧ (p d = true → e ρ1 = .ok (f d))) → lcGo g t e ρ ds = .ok ((ds.filter p).map f)
  | [], _ => rfl
  | d :: ds, h => by
    obtain ⟨ρ1, h1, h2, h3⟩ := h d List.mem_cons_self
    have ih := lc_map (ds := ds) fun d hd => h d (List.mem_cons_of_mem _ hd)
    unfold lcGo
    rw [h1, noEx_okS, bind_okS, h2, noEx_okS, bind_okS]
    cases hp : p d with
    | true =>
      rw [h3 hp, noEx_okS, if_pos rfl, bind_okS, ih, bind_okS, List.filter_cons, if_pos hp]; rfl
    | false =>
      rw [if_neg Bool.false_ne_true, ih, List.filter_cons, hp, if_neg Bool.false_ne_true]
theorem lc_all {g : MG} {t : MT} {e : ME} {ρ : Rho} {f : D → D} {ds : List D} (h : ∀ d ∈ ds, ∃ ρ1, g d ρ = .ok ρ1 ∧ t ρ1 = .ok true ∧ e ρ1 = .ok (f d)) : lcGo g t e ρ ds = .ok (ds.map f) := by
  have := lc_map (g := g) (t := t) (e := e) (ρ := ρ) (p := fun _ => true) (f := f) (ds := ds) fun d hd => let ⟨a, b, c, d⟩ := h d hd; ⟨a, b, c, fun _ => d⟩
  rw [this, List.filter_eq_self.mpr fun _ _ => rfl]
section
variable (ρ : Rho) (i j n : Nat) (d : D) (a b c e get : ME) (r : MA) (t u : MT) (s s' : MS) (f : D → D → R D) (f1 : D → R D) (fs : List D → R D) (mo mp : MO) (it : MI) (g : MG) (gs : List D → Rho → R Rho) (put : Rho → D → Rho)
@[simp] theorem mVar_a : mVar i ρ = match ρ[i]? with | some (some d) => .ok d | _ => .stuck := rfl
@[simp] theorem mC_a : mC d ρ = .ok d := rfl
@[simp] theorem mNil_a : mNil ρ = .ok [] := rfl
@[simp] theorem mCons_a : mCons e r ρ = (e ρ).bind fun d => (r ρ).bind fun ds => .ok (d :: ds) := rfl
@[simp] theorem mCall_a : mCall fs r ρ = (r ρ).bind fs := rfl
@[simp] theorem l1_a : l1 f1 a ρ = (a ρ).bind f1 := rfl
@[simp] theorem l2_a : l2 f a b ρ = (a ρ).bind fun x => (b ρ).bind fun y => f x y := rfl
@[simp] theorem mSeq_a : mSeq s s' ρ = match s ρ with | .nx ρ' => s' ρ' | o => o := rfl
@[simp] theorem mSet_a : mSet i e ρ = rO (e ρ) ρ fun d => .nx (ρ.set i (some d)) := rfl
@[simp] theorem mIf_a : mIf t s s' ρ = rO (t ρ) ρ fun z => if z then s ρ else s' ρ := rfl
@[simp] theorem mRet_a : mRet e ρ = rO (e ρ) ρ .rt := rfl
@[simp] theorem mNext_a : mNext ρ = .nx ρ := rfl
@[simp] theorem mDrop_a : mDrop e ρ = rO (e ρ) ρ fun _ => .nx ρ := rfl
@[simp] theorem mB_a : mB e ρ = (e ρ).bind D.toB := rfl
@[simp] theorem mAnd_a : mAnd t u ρ = (t ρ).bind fun x => if x then u ρ else .ok false := rfl
@[simp] theorem mOr_a : mOr t u ρ = (t ρ).bind fun x => if x then .ok true else u ρ := rfl
@[simp] theorem mNot_a : mNot t ρ = (t ρ).bind fun x => .ok (!x) := rfl
@[simp] theorem mAndV_a : mAndV a b ρ = (a ρ).bind fun x => x.toB.bind fun z => if z then b ρ else .ok (.bl false) := rfl
@[simp] theorem mOrV_a : mOrV a b ρ = (a ρ).bind fun x => x.toB.bind fun z => if z then .ok (.bl true) else b ρ := rfl
@[simp] theorem mNotV_a : mNotV a ρ = (a ρ).bind fun x => x.toB.bind fun z => .ok (.bl (!z)) := rfl
@[simp] theorem mIfE_a : mIfE t a b ρ = (t ρ).bind fun z => if z then a ρ else b ρ := rfl
@[simp] theorem mLst_a : mLst r ρ = (r ρ).bind fun ds => if small ds.length then .ok (.lst ds) else .stuck := rfl
@[simp] theorem mTup_a : mTup r ρ = (r ρ).bind fun ds => if small ds.length then .ok (.tup ds) else .stuck := rfl
@[simp] theorem mNoPart_a : mNoPart ρ = .ok none := rfl
@[simp] theorem mPart_a : mPart e ρ = (e ρ).bind fun d => match d with | .int i => .ok (some i) | _ => .stuck := rfl
@[simp] theorem mSlice_a : mSlice e mo mp ρ = (e ρ).bind fun d => (mo ρ).bind fun a => (mp ρ).bind fun b => d.slice a b := rfl
@[simp] theorem mYes_a : mYes ρ = .ok true := rfl
@[simp] theorem mIt_a : mIt e ρ = (e ρ).bind D.items := rfl
@[simp] theorem mGName_a : mGName i d ρ = .ok (ρ.set i (some d)) := rfl
@[simp] theorem mGNil_a : mGNil [] ρ = .ok ρ := rfl
@[simp] theorem mGCons_a (ds : List D) : mGCons g gs (d :: ds) ρ = (g d ρ).bind fun ρ' => gs ds ρ' := rfl
@[simp] theorem mGTup_a (ds : List D) : mGTup n gs (.tup ds) ρ = if ds.length == n then gs ds ρ else .stuck := rfl
@[simp] theorem mApp_a : mApp get put e ρ = rO ((get ρ).bind D.isL) ρ fun ds => rO (e ρ) ρ fun y => .nx (put ρ (.lst (ds ++ [y]))) := rfl
@[simp] theorem putV_a : putV i ρ d = ρ.set i (some d) := rfl
@[simp] theorem mPar_a : mPar i j r ρ = rO (r ρ) ρ (parD i j ρ) := rfl
@[simp] theorem parD_a (d e : D) : parD i j ρ [d, e] = .nx ((ρ.set i (some d)).set j (some e)) := rfl
@[simp] theorem mAsgG_a : mAsgG e g ρ = rO (e ρ) ρ fun d => rO (noEx (g d ρ)) ρ .nx := rfl
@[simp] theorem mGSub_a : mGSub get put a d ρ = (get ρ).bind fun x => (a ρ).bind fun k => (x.setAt k d).bind fun d' => .ok (put ρ d') := rfl
@[simp] theorem toB_a (b : Bool) : (D.bl b).toB = .ok b := rfl
@[simp] theorem toS_a (z : Str) : (D.str z).toS = .ok z := rfl
@[simp] theorem mS1_a (f : Str → D → R D) : mS1 f a b ρ = (a ρ).bind fun x => x.toS.bind fun s => (b ρ).bind fun y => f s y := rfl
@[simp] theorem mRange1_a : mRange1 r ρ = (r ρ).bind fRg1 := rfl
@[simp] theorem mRange2_a : mRange2 r ρ = (r ρ).bind fRg2 := rfl
@[simp] theorem mRange3_a : mRange3 r ρ = (r ρ).bind fRg3 := rfl
@[simp] theorem mEnum_a : mEnum r ρ = (r ρ).bind fEnum := rfl
@[simp] theorem mZip_a : mZip r ρ = (r ρ).bind fZip := rfl
@[simp] theorem mZipS_a : mZipS r ρ = (r ρ).bind fZipS := rfl
@[simp] theorem fInt_i (i : Int) : fInt [.int i] = .ok (.int i) := rfl
@[simp] theorem fInt_b (b : Bool) : fInt [.bl b] = .ok (.int (if b then 1 else 0)) := rfl
@[simp] theorem fAbs_i (i : Int) : fAbs [.int i] = .ok (.int (if i < 0 then -i else i)) := rfl
@[simp] theorem fMax_i (i j : Int) : fMax2 [.int i, .int j] = .ok (.int (if j > i then j else i)) := rfl
@[simp] theorem fMin_i (i j : Int) : fMin2 [.int i, .int j] = .ok (.int (if j < i then j else i)) := rfl
@[simp] theorem fLen_l (ds : List D) : fLen [.lst ds] = .ok (.int ds.length) := rfl
@[simp] theorem fLen_t (ds : List D) : fLen [.tup ds] = .ok (.int ds.length) := rfl
@[simp] theorem opI_a (C : Int → Int → Bool) (h : Int → Int → D) (i j : Int) : D.opI C h (.int i) (.int j) = if C i j then .ok (h i j) else .stuck := rfl
@[simp] theorem add_i (i j : Int) : D.add (.int i) (.int j) = .ok (.int (i + j)) := rfl
@[simp] theorem items_l (ds : List D) : (D.lst ds).items = .ok ds := rfl
@[simp] theorem items_t (ds : List D) : (D.tup ds).items = .ok ds := rfl
@[simp] theorem items_s (z : Str) : (D.str z).items = .ok (z.cps.toList.map fun c => D.str ⟨#[c]⟩) := rfl
@[simp] theorem isL_a (ds : List D) : (D.lst ds).isL = if small ds.length then .ok ds else .stuck := rfl
@[simp] theorem slice_l (ds : List D) (x y : Option Int) : (D.lst ds).slice x y = .ok (.lst (cutD ds x y)) := rfl
@[simp] theorem slice_t (ds : List D) (x y : Option Int) : (D.tup ds).slice x y = .ok (.tup (cutD ds x y)) := rfl
end
def fin (fo : Bool) : O → R D
  | .rt d => .ok d
  | .nx _ => if fo then .ok .non else .stuck
  | .ex x _ => .ex x
  | _ => .stuck
@[simp] theorem fin_rt (fo : Bool) (d : D) : fin fo (.rt d) = .ok d := rfl
@[simp] theorem fin_ex (fo : Bool) (x : Xc) (ρ : Rho) : fin fo (.ex x ρ) = .ex x := rfl
@[simp] theorem fin_nx (ρ : Rho) : fin true (.nx ρ) = .ok .non := rfl
theorem mul_i {i j : Int} (h : in64 i = true ∨ in64 j = true) : D.mul (.int i) (.int j) = .ok (.int (i * j)) := by
  show (if (in64 i || in64 j) = true then R.ok (D.int (i * j)) else .stuck) = _
  rw [if_pos (by rw [Bool.or_eq_true]; exact h)]
theorem in64_of {i : Int} (h : -(2 ^ 64) < i) (h2 : i < 2 ^ 64) : in64 i = true := by unfold in64; rw [Bool.and_eq_true]; exact ⟨decide_eq_true h, decide_eq_true h2⟩
theorem small_of {n : Nat} (h : n ≤ 100000) : small n = true := Nat.ble_eq_true_of_le h
theorem rg1_of {n : Int} (h : n ≤ 100000) (h0 : -1000000 ≤ n) : fRg1 [.int n] = .ok ((List.range n.toNat).map fun i => D.int (i : Nat)) := by
  show (if rg62 n = true then _ else _) = _
  rw [if_pos (by unfold rg62; rw [Bool.and_eq_true]; exact ⟨decide_eq_true (by omega), decide_eq_true (by omega)⟩)]
theorem mLc_fil {it : MI} {g : MG} {t : MT} {e : ME} {vs : List Nat} {ρ : Rho} {ds : List D} {p : D → Bool} {f : D → D} (hi : it ρ = .ok ds) (hs : ds.length ≤ 100000)
    (h : ∀ d ∈ ds, ∃ ρ1, g d (wipeR ρ vs) = .ok ρ1 ∧ t ρ1 = .ok (p d) ∧ (p d = true → e ρ1 = .ok (f d))) : mLc it g t e vs ρ = .ok (.lst ((ds.filter p).map f)) := by
  unfold mLc
  rw [hi, bind_okS, if_pos (small_of hs), lc_map h, bind_okS]
theorem mLc_all {it : MI} {g : MG} {t : MT} {e : ME} {vs : List Nat} {ρ : Rho} {ds : List D} {f : D → D} (hi : it ρ = .ok ds) (hs : ds.length ≤ 100000)
    (h : ∀ d ∈ ds, ∃ ρ1, g d (wipeR ρ vs) = .ok ρ1 ∧ t ρ1 = .ok true ∧ e ρ1 = .ok (f d)) : mLc it g t e vs ρ = .ok (.lst (ds.map f)) := by
  unfold mLc
  rw [hi, bind_okS, if_pos (small_of hs), lc_all h, bind_okS]
theorem mFor_inv {it : MI} {g : MG} {s : MS} {ρ : Rho} {ds : List D} (I : Nat → Rho → Prop) (hi : it ρ = .ok ds) (h0 : I 0 ρ)
    (st : ∀ j d ρ, ds[j]? = some d → I j ρ → ∃ ρ1 ρ2, g d ρ = .ok ρ1 ∧ s ρ1 = .nx ρ2 ∧ I (j + 1) ρ2) : ∃ ρ', mFor it g s ρ = .nx ρ' ∧ I ds.length ρ' := by
  obtain ⟨ρ', h1, h2⟩ := go_inv (g := g) (s := s) (I := I) ds 0 ρ h0 fun j d ρ hj hI => by
    rw [Nat.zero_add] at hI ⊢
    exact st j d ρ hj hI
  rw [Nat.zero_add] at h2
  refine ⟨ρ', ?_, h2⟩
  unfold mFor
  rw [hi]
  exact h1
theorem range_get {n j : Nat} {d : D} {f : Nat → D} (h : ((List.range n).map f)[j]? = some d) : j < n ∧ d = f j := by
  rw [List.getElem?_map] at h
  by_cases hj : j < n
  · rw [List.getElem?_range hj] at h
    exact ⟨hj, (Option.some.inj h).symm⟩
  · rw [List.getElem?_eq_none (by rw [List.length_range]; omega)] at h
    cases h
theorem wipe_nil (ρ : Rho) : wipeR ρ [] = ρ := rfl
def nOk (x : Int) : Prop := 0 ≤ x ∧ x < 1009
end Mi
/-! MiQ: data compared, plainly. -/
namespace Mi
open PySem L2
def Asc (w : Str) : Prop := ∀ c ∈ w.cps.toList, c < 128
theorem strOk_of {w : Str} (h : Asc w) : PyData.strOk w = true := by
  unfold PyData.strOk
  rw [Array.all_eq_true_iff_forall_mem]
  intro c hc
  have := h c (Array.mem_toList_iff.mpr hc)
  exact decide_eq_true (by omega)
theorem shp_int (i : Int) : (D.int i).shp = true := by simp [D.shp, SeqAt.shaped, D.py, PyData.canLay0, PyData.depth]
theorem shp_bl (i : Bool) : (D.bl i).shp = true := by simp [D.shp, SeqAt.shaped, D.py, PyData.canLay0, PyData.depth]
theorem shp_non : (D.non).shp = true := by simp [D.shp, SeqAt.shaped, D.py, PyData.canLay0, PyData.depth]
theorem shp_str {w : Str} (h : Asc w) : (D.str w).shp = true := by simp [D.shp, SeqAt.shaped, D.py, PyData.canLay0, PyData.depth, strOk_of h]
theorem lay_strs : ∀ {ws : List Str}, (∀ w ∈ ws, Asc w) → PyData.canLayAll0 (pyL (ws.map D.str)) = true ∧ PyData.depthAll (pyL (ws.map D.str)) = 0
  | [], _ => by simp [pyL, PyData.canLayAll0, PyData.depthAll]
  | w :: ws, h => by
    obtain ⟨h1, h2⟩ := lay_strs (ws := ws) fun v hv => h v (List.mem_cons_of_mem _ hv)
    simp [pyL, PyData.canLayAll0, PyData.depthAll, h1, h2, D.py, PyData.canLay0, PyData.depth, strOk_of (h w List.mem_cons_self)]
theorem shp_strs {ws : List Str} (h : ∀ w ∈ ws, Asc w) : (D.lst (ws.map D.str)).shp = true := by
  obtain ⟨h1, h2⟩ := lay_strs h
  simp [D.shp, SeqAt.shaped, D.py, PyData.canLay0, PyData.depth, h1, h2]
theorem eqv_strs : ∀ (ws vs : List Str), PyData.eqvAll (pyL (ws.map D.str)) (pyL (vs.map D.str)) = decide (ws = vs)
  | [], [] => by simp [pyL, PyData.eqvAll]
  | [], v :: vs => by simp [pyL, PyData.eqvAll]
  | w :: ws, [] => by simp [pyL, PyData.eqvAll]
  | w :: ws, v :: vs => by
    have := eqv_strs ws vs
    simp [pyL, PyData.eqvAll, D.py, PyData.eqv, this]
    by_cases c : w = v <;> simp [c]
theorem eqq_str {a b : Str} (ha : Asc a) (hb : Asc b) : D.eqq (.str a) (.str b) = .ok (.bl (decide (a = b))) := by
  unfold D.eqq
  rw [shp_str ha, shp_str hb, Bool.and_self, if_pos rfl]
  simp [D.py, PyData.eqv, Bool.beq_eq_decide_eq]
theorem neq_str {a b : Str} (ha : Asc a) (hb : Asc b) : D.neq (.str a) (.str b) = .ok (.bl (!decide (a = b))) := by
  unfold D.neq
  rw [shp_str ha, shp_str hb, Bool.and_self, if_pos rfl]
  simp [D.py, PyData.eqv, Bool.beq_eq_decide_eq]
theorem eqq_strs {a b : List Str} (ha : ∀ w ∈ a, Asc w) (hb : ∀ w ∈ b, Asc w) : D.eqq (.lst (a.map .str)) (.lst (b.map .str)) = .ok (.bl (decide (a = b))) := by
  unfold D.eqq
  rw [shp_strs ha, shp_strs hb, Bool.and_self, if_pos rfl]
  simp only [D.py, PyData.eqv, eqv_strs]
theorem neq_strs {a b : List Str} (ha : ∀ w ∈ a, Asc w) (hb : ∀ w ∈ b, Asc w) : D.neq (.lst (a.map .str)) (.lst (b.map .str)) = .ok (.bl (!decide (a = b))) := by
  unfold D.neq
  rw [shp_strs ha, shp_strs hb, Bool.and_self, if_pos rfl]
  simp only [D.py, PyData.eqv, eqv_strs]
@[simp] theorem eqq_int (a b : Int) : D.eqq (.int a) (.int b) = .ok (.bl (decide (a = b))) := by
  unfold D.eqq
  rw [shp_int, shp_int, Bool.and_self, if_pos rfl]
  simp [D.py, PyData.eqv, Bool.beq_eq_decide_eq]
@[simp] theorem neq_int (a b : Int) : D.neq (.int a) (.int b) = .ok (.bl (!decide (a = b))) := by
  unfold D.neq
  rw [shp_int, shp_int, Bool.and_self, if_pos rfl]
  simp [D.py, PyData.eqv, Bool.beq_eq_decide_eq]
@[simp] theorem eqq_bl (a b : Bool) : D.eqq (.bl a) (.bl b) = .ok (.bl (decide (a = b))) := by
  unfold D.eqq
  rw [shp_bl, shp_bl, Bool.and_self, if_pos rfl]
  simp [D.py, PyData.eqv, Bool.beq_eq_decide_eq]
theorem inn_char (c : Nat) (z : Str) : D.inn (.str ⟨#[c]⟩) (.str z) = .ok (.bl (decide (c ∈ z.cps.toList))) := rfl
theorem notin_char (c : Nat) (z : Str) : D.notin (.str ⟨#[c]⟩) (.str z) = .ok (.bl (!decide (c ∈ z.cps.toList))) := rfl
theorem any_strs (a : Str) (zs : List Str) : ((zs.map D.str).any fun z => PyData.eqv z.py (D.str a).py) = decide (a ∈ zs) := by
  induction zs with
  | nil => simp
  | cons z zs ih =>
    rw [List.map_cons, List.any_cons, ih]
    simp only [D.py, PyData.eqv]
    by_cases c : z = a
    · subst c; simp
    · have c' : ¬ a = z := fun e => c e.symm
      simp [c, c']
theorem flat_strs (zs : List Str) : (zs.map D.str).all D.flat = true := by
  rw [List.all_eq_true]
  intro d hd
  obtain ⟨i, _, e⟩ := List.mem_map.mp hd
  rw [← e]; rfl
theorem inn_strs (a : Str) (zs : List Str) : D.inn (.str a) (.tup (zs.map .str)) = .ok (.bl (decide (a ∈ zs))) := by
  unfold D.inn D.innB
  simp only [show (D.str a).flat = true from rfl, flat_strs, Bool.and_self, if_pos, bind_okS, any_strs]
theorem ix0_str {w : Str} {c : Nat} {r : List Nat} (h : w.cps.toList = c :: r) (hl : w.length ≤ 100000) : D.ix (.str w) (.int 0) = .ok (.str ⟨#[c]⟩) := by
  show (if small w.length then (oR (atI w.cps.toList 0)).bind fun c => R.ok (D.str ⟨#[c]⟩) else .stuck) = _
  rw [if_pos (small_of hl), h, show atI (c :: r) (0 : Int) = some c from atI_nat (j := 0) rfl]
  rfl
theorem len_str {w : Str} (hl : w.length ≤ 100000) : fLen [.str w] = .ok (.int w.length) := by
  show (if small w.length then R.ok (D.int w.length) else .stuck) = _
  rw [if_pos (small_of hl)]
theorem bls_map {α : Type} (l : List α) (p : α → Bool) : blsOf (l.map fun c => D.bl (p c)) = some (l.map p) := by
  induction l with
  | nil => rfl
  | cons a l ih => simp [blsOf, ih]
theorem all_map {α : Type} (l : List α) (p : α → Bool) : fAll [.lst (l.map fun c => D.bl (p c))] = .ok (.bl (l.all p)) := by
  show (match blsOf (l.map fun c => D.bl (p c)) with | some bs => R.ok (D.bl (bs.all id)) | none => .stuck) = _
  rw [bls_map]
  simp [List.all_map]
theorem any_map {α : Type} (l : List α) (p : α → Bool) : fAny [.lst (l.map fun c => D.bl (p c))] = .ok (.bl (l.any p)) := by
  show (match blsOf (l.map fun c => D.bl (p c)) with | some bs => R.ok (D.bl (bs.any id)) | none => .stuck) = _
  rw [bls_map]
  simp [List.any_map]
/-- all(c in Z for c in w) -/
theorem cmp_chars {w : Str} {Z : Str} {o : Option D} (hl : w.length ≤ 100000) :
    mLc (mIt (mVar 0)) (mGName 1) mYes (l2 D.inn (mVar 1) (mC (.str Z))) [1] [some (.str w), o] = .ok (.lst (w.cps.toList.map fun c => .bl (decide (c ∈ Z.cps.toList)))) := by
  have h := mLc_all (it := mIt (mVar 0)) (g := mGName 1) (t := mYes) (e := l2 D.inn (mVar 1) (mC (.str Z))) (vs := [1]) (ρ := [some (.str w), o]) (ds := w.cps.toList.map fun c => D.str ⟨#[c]⟩)
    (f := fun d => match d with | .str x => .bl (decide (x.cps.getD 0 0 ∈ Z.cps.toList)) | d => d) rfl (by rw [List.length_map]; exact hl) (fun d hd => by
      obtain ⟨c, _, rfl⟩ := List.mem_map.mp hd
      exact ⟨_, rfl, rfl, rfl⟩)
  rw [h, List.map_map]
  rfl
end Mi
/-! MiZ: the law's end, what flies out told world by world. -/
namespace Mi
open PySem PySem.Spec PyProof.Rows L2
theorem walk_ofW {l : PySem.W.OpenLaw} {n k : Nat} {q : Program} {loose : List Str} {XP : (Str → Option Value) → Heap → Prop} {YP : World → Heap → Prop} {d : DefRec} {CX : World → CXT} {x : Str}
    (hn : l.most = some n) (hn2 : n ≤ sizeLine) (hdf : d.params.defaults = []) (hr : Room k callerA)
    (F : ∀ (w : World) (mg : Str → Option Value) (fa : Addr) (h : Heap), YP w h → h.Ns mainGlobals mg → mg d.name = some (.ref fa) →
      ∃ (K : PySem.W.Frag) (fd : FuncData) (sp : Sp), K.In h ∧ (∀ (s : Shared) (u : Value), BindsTo s fd ⟨[u], []⟩ [(x, u)]) ∧
        (∀ (H : Hp) (a : Addr) (ns : List Int), ns.length ≤ n → Only H → SqL K H a (ns.map V.int) → sp [.ref a] H (fun v _ => v = .bl true) fun _ _ _ => False) ∧
        ∀ base : Heap, K.In base → base.Ns mainGlobals mg → FnOk l.prog w K mg base (CX w) k fa fd [x] sp)
    (hCX : ∀ (w : World) (H : Hp) (s : Shared) (e : Value) (s' : Shared), CX w [] H s (fun _ _ _ => False) e s' → False) :
    PySem.W.WalkO q loose XP YP l.row.toRowW d [] (fun f vs => PySem.call f vs) := by
  refine Att.attach_call hn hdf fun w s₀ s₁ mg mb fa o pm cd doc a vs ns G Y ho hd hcd hmg hobj hints hlen hg => ?_
  obtain ⟨K, fd, sp, KX, hb, hsp, hF⟩ := F w mg fa _ Y G.T.g hmg
  exact law_call KX G.T.g G.T.b G.T.builtins G.T.nolimit hg hobj hints (Nat.le_trans hlen hn2) hr hF hb (fun H hO hS => hsp H a ns hlen hO hS) fun H e s' => hCX w H s₁ e s'
theorem cx_never {P : Program} {w : World} {outer : List Env} {H : Hp} {s : Shared} {u : Value} {s' : Shared} (h : L2.CX P w outer H s (fun _ _ _ => False) u s') : False := by
  obtain ⟨_, _, _, _, _, _, _, _, _, _, _, _, z⟩ := h
  exact z
end Mi
namespace Mi
open PySem L2
def t_FORMS : List (Str × Str) := [("square", "n"), ("product", "nnn"), ("turn", "nnddd"), ("switch", "nnddd"), ("remove", "n"), ("drop", "n"), ("answer", "n"), ("answers", ""), ("print", "n"), ("squares", ""), ("questions", ""), ("undo", ""), ("redo", "")]
def t_ASKED : List (Str × List Int) := [("order", [0]), ("mate", [0]), ("sign", [2]), ("span", [0, 2, 4, 6])]
/-- _law_row: 0 _law_cell, 1 _law_many, 2 _law_row_here, 3 _law_rest, 4 _law_mixed, 5 _law_k -/
def m__law_row : MS := (mSeq (mSet 2 (mLst mNil)) (mSeq (mSet 3 (mCall fAbs (mCons (mVar 0) mNil))) (mSeq (mSet 4 (l2 D.mod (mCall fInt (mCons (l2 D.add (l2 D.mul (mVar 3) (mC (.int 48271))) (mC (.int 69621))) mNil)) (mC (.int 2147483647)))) (mSeq (mFor (mRange1 (mCons (mVar 1) mNil)) (mGName 5) (mSeq (mSet 4 (l2 D.mod (mCall fInt (mCons (l2 D.add (l2 D.mul (mVar 4) (mC (.int 16807))) (l2 D.mul (mC (.int 271)) (l2 D.add (mVar 5) (mC (.int 3))))) mNil)) (mC (.int 2147483629)))) (mIf (mB (l2 D.ge (mCall fAbs (mCons (mVar 0) mNil)) (l2 D.pow (mC (.int 10)) (mC (.int 18))))) (mSeq (mApp (mVar 2) (putV 2) (l2 D.mod (mCall fInt (mCons (mVar 3) mNil)) (mC (.int 1009)))) (mSet 3 (l2 D.fdiv (mVar 3) (mC (.int 1009))))) (mApp (mVar 2) (putV 2) (l2 D.mod (mCall fInt (mCons (l2 D.fdiv (mVar 4) (mC (.int 7))) mNil)) (mC (.int 1009))))))) (mRet (mVar 2))))))
def f__law_row : List D → R D := mDef false 2 6 m__law_row
/-- _law_numbers, behind its first row: 0 _law_script, 1 _law_many, 2 _law_cells, 3 _law_each, 4 _law_numbers_here, 5 _law_cell, 6 _law_number -/
def m__law_numbers : MS := (mSeq (mSet 3 (l2 D.add (mC (.int 1)) (l2 D.fdiv (mVar 1) (mCall fMax2 (mCons (mC (.int 1)) (mCons (mCall fLen (mCons (mVar 2) mNil)) mNil)))))) (mSeq (mSet 4 (mLst mNil)) (mSeq (mFor (mIt (mVar 2)) (mGName 5) (mFor (mIt (mCall f__law_row (mCons (mVar 5) (mCons (mVar 3) mNil)))) (mGName 6) (mApp (mVar 4) (putV 4) (mVar 6)))) (mSeq (mWh (mB (l2 D.lt (mCall fLen (mCons (mVar 4) mNil)) (mVar 1))) (mApp (mVar 4) (putV 4) (mC (.int 0))) 100000) (mRet (mSliceS (mVar 4) mNoPart (mPart (mVar 1))))))))
/-- split_words: 0 line, 1 word -/
def m_split_words : MS := (mRet (mLc (mIt (mS1 fSplit (mVar 0) (mC (.str " ")))) (mGName 1) (mB (l2 D.neq (mVar 1) (mC (.str "")))) (mVar 1) [1]))
def f_split_words : List D → R D := mDef false 1 2 m_split_words
/-- is_name: 0 text, 1 char -/
def m_is_name : MS := (mSeq (mIf (mOr (mNot (mB (mChain D.le D.le (mC (.int 1)) (mCall fLen (mCons (mVar 0) mNil)) (mC (.int 12))))) (mB (l2 D.inn (l2 D.ix (mVar 0) (mC (.int 0))) (mC (.str "0123456789"))))) (mRet (mC (.bl false))) mNext) (mRet (mCall fAll (mCons (mLc (mIt (mVar 0)) (mGName 1) mYes (l2 D.inn (mVar 1) (mC (.str "abcdefghijklmnopqrstuvwxyz0123456789"))) [1]) mNil))))
def f_is_name : List D → R D := mDef false 1 2 m_is_name
/-- is_number: 0 word, 1 char -/
def m_is_number : MS := (mSeq (mIf (mOr (mNot (mB (mChain D.le D.le (mC (.int 1)) (mCall fLen (mCons (mVar 0) mNil)) (mC (.int 31))))) (mNot (mB (mCall fAll (mCons (mLc (mIt (mVar 0)) (mGName 1) mYes (l2 D.inn (mVar 1) (mC (.str "0123456789"))) [1]) mNil))))) (mRet (mC (.bl false))) mNext) (mRet (mOrV (l2 D.eqq (mVar 0) (mC (.str "0"))) (l2 D.neq (l2 D.ix (mVar 0) (mC (.int 0))) (mC (.str "0"))))))
def f_is_number : List D → R D := mDef false 1 2 m_is_number
/-- has_form: 0 words, 1 form, 2 word, 3 sort -/
def m_has_form : MS := (mSeq (mIf (mB (l2 D.neq (mCall fLen (mCons (mVar 0) mNil)) (mCall fLen (mCons (mVar 1) mNil)))) (mRet (mC (.bl false))) mNext) (mRet (mCall fAll (mCons (mLc (mZipS (mCons (mVar 0) (mCons (mVar 1) mNil))) (mGTup 2 (mGCons (mGName 2) (mGCons (mGName 3) mGNil))) mYes (mIfE (mB (l2 D.eqq (mVar 3) (mC (.str "n")))) (mCall f_is_name (mCons (mVar 2) mNil)) (mCall f_is_number (mCons (mVar 2) mNil))) [2, 3]) mNil))))
def f_has_form : List D → R D := mDef false 2 4 m_has_form
/-- is_command: 0 words, 1 first, 2 rest, 3 word -/
def m_is_command : MS := (mSeq (mPar 1 2 (mCons (l2 D.ix (mVar 0) (mC (.int 0))) (mCons (mSlice (mVar 0) (mPart (mC (.int 1))) mNoPart) mNil))) (mSeq (mIf (mB (l1 (fInKd t_FORMS) (mVar 1))) (mRet (mCall f_has_form (mCons (mVar 2) (mCons (l1 (fIxS t_FORMS) (mVar 1)) mNil)))) mNext) (mSeq (mIf (mOr (mB (l2 D.neq (mVar 1) (mC (.str "ask")))) (mOr (mB (l2 D.lt (mCall fLen (mCons (mVar 2) mNil)) (mC (.int 3)))) (mOr (mB (l1 (fNotInKd t_ASKED) (l2 D.ix (mVar 2) (mC (.int 1))))) (mB (l2 (fNotInT t_ASKED) (l2 D.sub (mCall fLen (mCons (mVar 2) mNil)) (mC (.int 3))) (l2 D.ix (mVar 2) (mC (.int 1)))))))) (mRet (mC (.bl false))) mNext) (mRet (mAndV (mCall f_is_name (mCons (l2 D.ix (mVar 2) (mC (.int 0))) mNil)) (mAndV (mCall f_is_name (mCons (l2 D.ix (mVar 2) (mC (.int 2))) mNil)) (mCall fAll (mCons (mLc (mIt (mSlice (mVar 2) (mPart (mC (.int 3))) mNoPart)) (mGName 3) mYes (mCall f_is_number (mCons (mVar 3) mNil)) [3]) mNil))))))))
def f_is_command : List D → R D := mDef false 1 4 m_is_command
/-- _law_word: 0 _law_number, 1 _law_more, 2 _law_words, 3 _law_letters, 4 _law_size, 5 _law_long, 6 _law_figures, 7 _law_word_here, 8 _law_k -/
def m__law_word : MS := (mSeq (mSet 2 (mTup (mCons (mC (.str "square")) (mCons (mC (.str "product")) (mCons (mC (.str "turn")) (mCons (mC (.str "switch")) (mCons (mC (.str "remove")) (mCons (mC (.str "drop")) (mCons (mC (.str "answer")) (mCons (mC (.str "answers")) (mCons (mC (.str "print")) (mCons (mC (.str "squares")) (mCons (mC (.str "questions")) (mCons (mC (.str "undo")) mNil)))))))))))))) (mSeq (mSet 2 (l2 D.add (mVar 2) (mTup (mCons (mC (.str "redo")) (mCons (mC (.str "ask")) (mCons (mC (.str "order")) (mCons (mC (.str "sign")) (mCons (mC (.str "span")) (mCons (mC (.str "mate")) (mCons (mC (.str "end")) (mCons (mC (.str "7")) mNil))))))))))) (mSeq (mSet 3 (mC (.str "abcdefghijklmnopqrstuvwxyz0123456789"))) (mSeq (mIf (mB (l2 D.eqq (l2 D.mod (mCall fInt (mCons (mVar 0) mNil)) (mC (.int 4))) (mC (.int 0)))) (mRet (l2 D.ix (mVar 2) (l2 D.mod (mCall fInt (mCons (l2 D.fdiv (mVar 0) (mC (.int 4))) mNil)) (mC (.int 20))))) mNext) (mSeq (mSet 4 (l2 D.mod (mCall fInt (mCons (l2 D.fdiv (mVar 0) (mC (.int 4))) mNil)) (mC (.int 7)))) (mSeq (mIf (mB (l2 D.eqq (l2 D.mod (mCall fInt (mCons (mVar 0) mNil)) (mC (.int 4))) (mC (.int 1)))) (mSeq (mSet 5 (l2 D.add (l2 D.add (mC (.int 1)) (mVar 4)) (l2 D.mul (mC (.int 26)) (mCall fInt (mCons (l2 D.eqq (l2 D.mod (mCall fInt (mCons (mVar 1) mNil)) (mC (.int 5))) (mC (.int 0))) mNil))))) (mSeq (mSet 6 (mS1 fJoin (mC (.str "")) (mLc (mRange1 (mCons (mVar 5) mNil)) (mGName 8) mYes (l2 D.ix (mVar 3) (l2 D.add (mC (.int 26)) (l2 D.mod (mCall fInt (mCons (l2 D.add (l2 D.add (mVar 1) (l2 D.mul (l2 D.mul (mVar 8) (mVar 8)) (mC (.int 3)))) (l2 D.fdiv (mVar 0) (mC (.int 28)))) mNil)) (mC (.int 10))))) [8]))) (mRet (l2 D.add (l2 D.ix (mTup (mCons (mC (.str "")) (mCons (mC (.str "")) (mCons (mC (.str "")) (mCons (mC (.str "-")) mNil))))) (l2 D.mod (mCall fInt (mCons (mVar 1) mNil)) (mC (.int 4)))) (mVar 6))))) mNext) (mSeq (mSet 7 (l2 D.add (l2 D.ix (mVar 3) (l2 D.mod (mCall fInt (mCons (mVar 1) mNil)) (mC (.int 36)))) (mS1 fJoin (mC (.str "")) (mLc (mRange1 (mCons (l2 D.mul (mVar 4) (mC (.int 2))) mNil)) (mGName 8) mYes (l2 D.ix (mVar 3) (l2 D.mod (mCall fInt (mCons (l2 D.add (l2 D.add (mVar 1) (l2 D.mul (l2 D.mul (mC (.int 11)) (mVar 8)) (mVar 0))) (mVar 8)) mNil)) (mC (.int 36)))) [8])))) (mSeq (mIf (mB (l2 D.eqq (l2 D.mod (mCall fInt (mCons (mVar 1) mNil)) (mC (.int 9))) (mC (.int 0)))) (mRet (l2 D.add (l2 D.add (mSlice (mVar 7) mNoPart (mPart (mC (.int 2)))) (mC (.str "_"))) (mSlice (mVar 7) (mPart (mC (.int 2))) mNoPart))) mNext) (mRet (mVar 7))))))))))
def f__law_word : List D → R D := mDef false 2 9 m__law_word
/-- _law_is_name: 0 _law_word_here, 1 _law_char -/
def m__law_is_name : MS := (mSeq (mIf (mOr (mB (l2 D.lt (mCall fLen (mCons (mVar 0) mNil)) (mC (.int 1)))) (mOr (mB (l2 D.gt (mCall fLen (mCons (mVar 0) mNil)) (mC (.int 12)))) (mB (l2 D.notin (l2 D.ix (mVar 0) (mC (.int 0))) (mC (.str "abcdefghijklmnopqrstuvwxyz")))))) (mRet (mC (.bl false))) mNext) (mRet (mCall fAll (mCons (mLc (mIt (mVar 0)) (mGName 1) mYes (l2 D.inn (mVar 1) (mC (.str "abcdefghijklmnopqrstuvwxyz0123456789"))) [1]) mNil))))
def f__law_is_name : List D → R D := mDef false 1 2 m__law_is_name
/-- _law_is_number: 0 _law_word_here, 1 _law_char -/
def m__law_is_number : MS := (mSeq (mIf (mOr (mB (l2 D.lt (mCall fLen (mCons (mVar 0) mNil)) (mC (.int 1)))) (mOr (mB (l2 D.gt (mCall fLen (mCons (mVar 0) mNil)) (mC (.int 31)))) (mAnd (mB (l2 D.gt (mCall fLen (mCons (mVar 0) mNil)) (mC (.int 1)))) (mB (l2 D.eqq (l2 D.ix (mVar 0) (mC (.int 0))) (mC (.str "0"))))))) (mRet (mC (.bl false))) mNext) (mRet (mCall fAll (mCons (mLc (mIt (mVar 0)) (mGName 1) mYes (l2 D.inn (mVar 1) (mC (.str "0123456789"))) [1]) mNil))))
def f__law_is_number : List D → R D := mDef false 1 2 m__law_is_number
/-- _law_formed: 0 _law_numbers_here, 1 _law_words, 2 _law_names, 3 _law_figures, 4 _law_many, 5 _law_kind, 6 _law_word_here, 7 _law_k -/
def m__law_formed : MS := (mSeq (mSet 2 (l2 D.add (mLc (mIt (mVar 1)) (mGName 6) (mB (mCall f__law_is_name (mCons (mVar 6) mNil))) (mVar 6) [6]) (mLst (mCons (mC (.str "a")) (mCons (mC (.str "b")) (mCons (mC (.str "c")) mNil)))))) (mSeq (mSet 3 (l2 D.add (mLc (mIt (mVar 1)) (mGName 6) (mB (mCall f__law_is_number (mCons (mVar 6) mNil))) (mVar 6) [6]) (mLst (mCons (mC (.str "0")) (mCons (mC (.str "7")) (mCons (mC (.str "12")) mNil)))))) (mSeq (mSet 4 (l2 D.mod (mCall fInt (mCons (l2 D.ix (mVar 0) (mC (.int 43))) mNil)) (mC (.int 8)))) (mSeq (mSet 5 (l2 D.mod (mCall fInt (mCons (l2 D.ix (mVar 0) (mC (.int 42))) mNil)) (mC (.int 12)))) (mSeq (mIf (mB (l2 D.lt (mVar 5) (mC (.int 3)))) (mRet (mLst (mCons (l2 D.ix (mTup (mCons (mC (.str "answers")) (mCons (mC (.str "squares")) (mCons (mC (.str "questions")) (mCons (mC (.str "undo")) (mCons (mC (.str "redo")) mNil)))))) (l2 D.mod (mVar 4) (mC (.int 5)))) mNil))) mNext) (mSeq (mIf (mB (l2 D.lt (mVar 5) (mC (.int 5)))) (mRet (mLst (mCons (l2 D.ix (mTup (mCons (mC (.str "square")) (mCons (mC (.str "remove")) (mCons (mC (.str "drop")) (mCons (mC (.str "answer")) (mCons (mC (.str "print")) mNil)))))) (l2 D.mod (mVar 4) (mC (.int 5)))) (mCons (l2 D.ix (mVar 2) (mC (.int 0))) mNil)))) mNext) (mSeq (mIf (mB (l2 D.eqq (mVar 5) (mC (.int 5)))) (mRet (mLst (mCons (mC (.str "product")) (mCons (l2 D.ix (mVar 2) (mC (.int 0))) (mCons (l2 D.ix (mVar 2) (mC (.int 1))) (mCons (l2 D.ix (mVar 2) (mC (.int 2))) mNil)))))) mNext) (mSeq (mIf (mB (l2 D.lt (mVar 5) (mC (.int 8)))) (mRet (l2 D.catL (mLst (mCons (l2 D.ix (mTup (mCons (mC (.str "turn")) (mCons (mC (.str "switch")) mNil))) (l2 D.mod (mVar 4) (mC (.int 2)))) (mCons (l2 D.ix (mVar 2) (mC (.int 0))) (mCons (l2 D.ix (mVar 2) (mC (.int 1))) mNil)))) (mLc (mRange1 (mCons (mC (.int 3)) mNil)) (mGName 7) mYes (l2 D.ix (mVar 3) (l2 D.mod (mVar 7) (mCall fLen (mCons (mVar 3) mNil)))) [7]))) mNext) (mSeq (mIf (mB (l2 D.eqq (mVar 5) (mC (.int 8)))) (mRet (mLst (mCons (mC (.str "ask")) (mCons (l2 D.ix (mVar 2) (mC (.int 0))) (mCons (l2 D.ix (mTup (mCons (mC (.str "order")) (mCons (mC (.str "mate")) mNil))) (l2 D.mod (mVar 4) (mC (.int 2)))) (mCons (l2 D.ix (mVar 2) (mC (.int 1))) mNil)))))) mNext) (mSeq (mIf (mB (l2 D.eqq (mVar 5) (mC (.int 9)))) (mRet (mLst (mCons (mC (.str "ask")) (mCons (l2 D.ix (mVar 2) (mC (.int 0))) (mCons (mC (.str "sign")) (mCons (l2 D.ix (mVar 2) (mC (.int 1))) (mCons (l2 D.ix (mVar 3) (mC (.int 0))) (mCons (l2 D.ix (mVar 3) (mC (.int 1))) mNil)))))))) mNext) (mRet (l2 D.catL (mLst (mCons (mC (.str "ask")) (mCons (l2 D.ix (mVar 2) (mC (.int 0))) (mCons (mC (.str "span")) (mCons (l2 D.ix (mVar 2) (mC (.int 1))) mNil))))) (mLc (mRange1 (mCons (mVar 4) mNil)) (mGName 7) mYes (l2 D.ix (mVar 3) (l2 D.mod (mVar 7) (mCall fLen (mCons (mVar 3) mNil)))) [7])))))))))))))
def f__law_formed : List D → R D := mDef false 2 8 m__law_formed
/-- _law_all_numbers: 0 _law_words, 1 _law_word_here -/
def m__law_all_numbers : MS := (mRet (mCall fAll (mCons (mLc (mIt (mVar 0)) (mGName 1) mYes (mCall f__law_is_number (mCons (mVar 1) mNil)) [1]) mNil)))
def f__law_all_numbers : List D → R D := mDef false 1 2 m__law_all_numbers
/-- _law_all_names: 0 _law_words, 1 _law_word_here -/
def m__law_all_names : MS := (mRet (mCall fAll (mCons (mLc (mIt (mVar 0)) (mGName 1) mYes (mCall f__law_is_name (mCons (mVar 1) mNil)) [1]) mNil)))
def f__law_all_names : List D → R D := mDef false 1 2 m__law_all_names
/-- _law_command: 0 _law_words, 1 _law_first, 2 _law_rest -/
def m__law_command : MS := (mSeq (mSet 1 (l2 D.ix (mVar 0) (mC (.int 0)))) (mSeq (mSet 2 (mSlice (mVar 0) (mPart (mC (.int 1))) mNoPart)) (mSeq (mIf (mB (l2 D.inn (mVar 1) (mTup (mCons (mC (.str "answers")) (mCons (mC (.str "squares")) (mCons (mC (.str "questions")) (mCons (mC (.str "undo")) (mCons (mC (.str "redo")) mNil)))))))) (mRet (l2 D.eqq (mCall fLen (mCons (mVar 2) mNil)) (mC (.int 0)))) mNext) (mSeq (mIf (mB (l2 D.inn (mVar 1) (mTup (mCons (mC (.str "square")) (mCons (mC (.str "remove")) (mCons (mC (.str "drop")) (mCons (mC (.str "answer")) (mCons (mC (.str "print")) mNil)))))))) (mRet (mAndV (l2 D.eqq (mCall fLen (mCons (mVar 2) mNil)) (mC (.int 1))) (mCall f__law_is_name (mCons (l2 D.ix (mVar 2) (mC (.int 0))) mNil)))) mNext) (mSeq (mIf (mB (l2 D.eqq (mVar 1) (mC (.str "product")))) (mRet (mAndV (l2 D.eqq (mCall fLen (mCons (mVar 2) mNil)) (mC (.int 3))) (mCall f__law_all_names (mCons (mVar 2) mNil)))) mNext) (mSeq (mIf (mB (l2 D.inn (mVar 1) (mTup (mCons (mC (.str "turn")) (mCons (mC (.str "switch")) mNil))))) (mRet (mAndV (l2 D.eqq (mCall fLen (mCons (mVar 2) mNil)) (mC (.int 5))) (mAndV (mCall f__law_all_names (mCons (mSlice (mVar 2) mNoPart (mPart (mC (.int 2)))) mNil)) (mCall f__law_all_numbers (mCons (mSlice (mVar 2) (mPart (mC (.int 2))) mNoPart) mNil))))) mNext) (mSeq (mIf (mOr (mB (l2 D.neq (mVar 1) (mC (.str "ask")))) (mOr (mB (l2 D.lt (mCall fLen (mCons (mVar 2) mNil)) (mC (.int 3)))) (mOr (mNot (mB (mCall f__law_is_name (mCons (l2 D.ix (mVar 2) (mC (.int 0))) mNil)))) (mNot (mB (mCall f__law_is_name (mCons (l2 D.ix (mVar 2) (mC (.int 2))) mNil))))))) (mRet (mC (.bl false))) mNext) (mSeq (mIf (mNot (mB (mCall f__law_all_numbers (mCons (mSlice (mVar 2) (mPart (mC (.int 3))) mNoPart) mNil)))) (mRet (mC (.bl false))) mNext) (mSeq (mIf (mB (l2 D.eqq (l2 D.ix (mVar 2) (mC (.int 1))) (mC (.str "span")))) (mRet (l2 D.inn (mCall fLen (mCons (mVar 2) mNil)) (mTup (mCons (mC (.int 3)) (mCons (mC (.int 5)) (mCons (mC (.int 7)) (mCons (mC (.int 9)) mNil))))))) mNext) (mRet (l2 D.inn (mTup (mCons (l2 D.ix (mVar 2) (mC (.int 1))) (mCons (mCall fLen (mCons (mVar 2) mNil)) mNil))) (mTup (mCons (mTup (mCons (mC (.str "order")) (mCons (mC (.int 3)) mNil))) (mCons (mTup (mCons (mC (.str "mate")) (mCons (mC (.int 3)) mNil))) (mCons (mTup (mCons (mC (.str "sign")) (mCons (mC (.int 5)) mNil))) mNil)))))))))))))))
def f__law_command : List D → R D := mDef false 1 3 m__law_command
/-- law, behind its first row: 0 _law_script, 1 _law_numbers_here, 2 _law_words, 3 _law_line, 4 _law_place, 5 _law_text, 6 _law_k, 7 _law_told, 8 _law_passed, 9 _law_actual -/
def m_law : MS := (mSeq (mSet 2 (mLc (mRange1 (mCons (l2 D.add (mC (.int 1)) (l2 D.mod (mCall fInt (mCons (l2 D.ix (mVar 1) (mC (.int 40))) mNil)) (mC (.int 9)))) mNil)) (mGName 6) mYes (mCall f__law_word (mCons (l2 D.ix (mVar 1) (l2 D.mul (mC (.int 2)) (mVar 6))) (mCons (l2 D.ix (mVar 1) (l2 D.add (l2 D.mul (mC (.int 2)) (mVar 6)) (mC (.int 1)))) mNil))) [6])) (mSeq (mIf (mB (l2 D.gt (l2 D.mod (mCall fInt (mCons (l2 D.ix (mVar 1) (mC (.int 41))) mNil)) (mC (.int 3))) (mC (.int 0)))) (mSeq (mSet 3 (mCall f__law_formed (mCons (mVar 1) (mCons (mVar 2) mNil)))) (mSeq (mSet 4 (l2 D.mod (mCall fInt (mCons (l2 D.ix (mVar 1) (mC (.int 44))) mNil)) (mCall fLen (mCons (mVar 3) mNil)))) (mSeq (mIf (mB (l2 D.eqq (l2 D.mod (mCall fInt (mCons (l2 D.ix (mVar 1) (mC (.int 45))) mNil)) (mC (.int 6))) (mC (.int 0)))) (mAsgG (l2 D.ix (mVar 2) (mC (.int 0))) (mGSub (mVar 3) (putV 3) (mVar 4))) mNext) (mSeq (mIf (mAnd (mB (l2 D.eqq (l2 D.mod (mCall fInt (mCons (l2 D.ix (mVar 1) (mC (.int 45))) mNil)) (mC (.int 6))) (mC (.int 1)))) (mB (l2 D.gt (mCall fLen (mCons (mVar 3) mNil)) (mC (.int 1))))) (mSet 3 (l2 D.catL (mSliceS (mVar 3) mNoPart (mPart (mVar 4))) (mSliceS (mVar 3) (mPart (l2 D.add (mVar 4) (mC (.int 1)))) mNoPart))) mNext) (mSeq (mIf (mB (l2 D.eqq (l2 D.mod (mCall fInt (mCons (l2 D.ix (mVar 1) (mC (.int 45))) mNil)) (mC (.int 6))) (mC (.int 2)))) (mApp (mVar 3) (putV 3) (l2 D.ix (mVar 2) (mC (.int 0)))) mNext) (mSet 2 (mVar 3))))))) mNext) (mSeq (mSet 5 (l2 D.mul (mC (.str " ")) (l2 D.mod (mCall fInt (mCons (l2 D.ix (mVar 1) (mC (.int 46))) mNil)) (mC (.int 3))))) (mSeq (mFor (mRange1 (mCons (mCall fLen (mCons (mVar 2) mNil)) mNil)) (mGName 6) (mSeq (mSet 5 (l2 D.add (mVar 5) (l2 D.ix (mVar 2) (mVar 6)))) (mIf (mB (l2 D.lt (l2 D.add (mVar 6) (mC (.int 1))) (mCall fLen (mCons (mVar 2) mNil)))) (mSet 5 (l2 D.add (mVar 5) (l2 D.mul (mC (.str " ")) (l2 D.add (mC (.int 1)) (l2 D.mod (mCall fInt (mCons (l2 D.add (l2 D.ix (mVar 1) (mC (.int 47))) (l2 D.mul (mVar 6) (l2 D.ix (mVar 1) (mC (.int 48))))) mNil)) (mC (.int 3))))))) mNext))) (mSeq (mSet 5 (l2 D.add (mVar 5) (l2 D.mul (mC (.str " ")) (l2 D.mod (mCall fInt (mCons (l2 D.ix (mVar 1) (mC (.int 49))) mNil)) (mC (.int 3)))))) (mSeq (mSet 7 (mCall f_split_words (mCons (mVar 5) mNil))) (mSeq (mIf (mOr (mNot (mB (l1 (D.isTy "list") (mVar 7)))) (mOr (mB (l2 D.neq (mVar 7) (mVar 2))) (mB (l2 D.neq (mCall f_split_words (mCons (l2 D.mul (mC (.str " ")) (l2 D.mod (mCall fInt (mCons (l2 D.ix (mVar 1) (mC (.int 50))) mNil)) (mC (.int 4)))) mNil)) (mLst mNil))))) (mRet (mC (.bl false))) mNext) (mSeq (mIf (mB (l2 D.neq (mCall f_split_words (mCons (mC (.str "a\tb \t")) mNil)) (mLst (mCons (mC (.str "a\tb")) (mCons (mC (.str "\t")) mNil))))) (mRet (mC (.bl false))) mNext) (mSeq (mSet 8 (mCall fList (mCons (mVar 2) mNil))) (mSeq (mSet 9 (mCall f_is_command (mCons (mVar 8) mNil))) (mRet (mAndV (l1 (D.isTy "bool") (mVar 9)) (mAndV (l2 D.eqq (mVar 9) (mCall f__law_command (mCons (mVar 2) mNil))) (l2 D.eqq (mVar 8) (mVar 2)))))))))))))))
def f_law : List Int → R D := fLaw 4 m__law_numbers 60 8 m_law
end Mi
namespace Mi
open PySem L2
/-! ### the numbers of a script -/
theorem row_spec (c m : Int) (h0 : 0 ≤ m) (h1 : m ≤ 1000) : ∃ xs : List Int, f__law_row [.int c, .int m] = .ok (.lst (xs.map D.int)) ∧ (xs.length : Int) = m ∧ ∀ x ∈ xs, nOk x := by
  obtain ⟨ρ', h2, xs, rest, mixed, kk, rfl, h3, h4⟩ := mFor_inv (it := mRange1 (mCons (mVar 1) mNil)) (g := mGName 5) (s := (mSeq (mSet 4 (l2 D.mod (mCall fInt (mCons (l2 D.add (l2 D.mul (mVar 4) (mC (.int 16807))) (l2 D.mul (mC (.int 271)) (l2 D.add (mVar 5) (mC (.int 3))))) mNil)) (mC (.int 2147483629)))) (mIf (mB (l2 D.ge (mCall fAbs (mCons (mVar 0) mNil)) (l2 D.pow (mC (.int 10)) (mC (.int 18))))) (mSeq (mApp (mVar 2) (putV 2) (l2 D.mod (mCall fInt (mCons (mVar 3) mNil)) (mC (.int 1009)))) (mSet 3 (l2 D.fdiv (mVar 3) (mC (.int 1009))))) (mApp (mVar 2) (putV 2) (l2 D.mod (mCall fInt (mCons (l2 D.fdiv (mVar 4) (mC (.int 7))) mNil)) (mC (.int 1009)))))))
    (ρ := [some (.int c), some (.int m), some (.lst []), some (.int (if c < 0 then -c else c)), some (.int (((if c < 0 then -c else c) * 48271 + 69621) % 2147483647)), none]) (ds := (List.range m.toNat).map fun i => D.int (i : Nat))
    (fun i ρ => ∃ (xs : List Int) (rest mixed : Int) (kk : Option D), ρ = [some (.int c), some (.int m), some (.lst (xs.map D.int)), some (.int rest), some (.int mixed), kk] ∧ xs.length = i ∧ ∀ x ∈ xs, nOk x)
    (by simp [rg1_of (n := m) (by omega) (by omega)]) ⟨[], _, _, _, rfl, rfl, fun x h => nomatch h⟩ (fun j d ρ hj ⟨xs, rest, mixed, kk, e, hl, hx⟩ => by
      subst e
      obtain ⟨hjm, rfl⟩ := range_get hj
      have hsm : small xs.length = true := small_of (by omega)
      by_cases hc : (1000000000000000000 : Int) ≤ (if c < 0 then -c else c)
      · refine ⟨_, [some (.int c), some (.int m), some (.lst ((xs ++ [rest % 1009]).map D.int)), some (.int (rest / 1009)), some (.int ((mixed * 16807 + 271 * ((j : Int) + 3)) % 2147483629)), some (.int j)], rfl, ?_, ⟨_, _, _, _, rfl, by simp [hl], fun x hx' => ?_⟩⟩
        · simp [hsm, mul_i (show in64 mixed = true ∨ in64 16807 = true from .inr (by decide)), mul_i (show in64 271 = true ∨ in64 ((j : Int) + 3) = true from .inl (by decide)), hc]
        · rcases List.mem_append.mp hx' with q | q
          · exact hx x q
          · rw [List.mem_singleton.mp q]; exact ⟨by omega, by omega⟩
      · refine ⟨_, [some (.int c), some (.int m), some (.lst ((xs ++ [((mixed * 16807 + 271 * ((j : Int) + 3)) % 2147483629 / 7) % 1009]).map D.int)), some (.int rest), some (.int ((mixed * 16807 + 271 * ((j : Int) + 3)) % 2147483629)), some (.int j)], rfl, ?_, ⟨_, _, _, _, rfl, by simp [hl], fun x hx' => ?_⟩⟩
        · simp [hsm, mul_i (show in64 mixed = true ∨ in64 16807 = true from .inr (by decide)), mul_i (show in64 271 = true ∨ in64 ((j : Int) + 3) = true from .inl (by decide)), hc]
        · rcases List.mem_append.mp hx' with q | q
          · exact hx x q
          · rw [List.mem_singleton.mp q]; exact ⟨by omega, by omega⟩)
  refine ⟨xs, ?_, ?_, h4⟩
  · simp [f__law_row, mDef, m__law_row, small, mul_i (show in64 (if c < 0 then -c else c) = true ∨ in64 48271 = true from .inr (by decide)), h2]
  · rw [h3]; simp; omega
theorem cut_take (xs : List D) (n : Nat) : cutD xs none (some (n : Int)) = xs.take n := by
  unfold cutD
  rw [HT.sIx_none, HT.sIx_nat, List.drop_zero]
  by_cases h : n ≤ xs.length
  · rw [Nat.min_eq_left h]; rfl
  · rw [Nat.min_eq_right (by omega), Nat.sub_zero, List.take_of_length_le (Nat.le_refl _), List.take_of_length_le (by omega)]
def numSt (k each : Int) (cells xs : List Int) (a b : Option D) : Rho := [none, some (.int k), some (.lst (cells.map D.int)), some (.int each), some (.lst (xs.map D.int)), a, b]
theorem num_inner (k each : Int) (cells xs ys : List Int) (a b : Option D) (hx : xs.length + ys.length ≤ 90000) : ∃ b', mGo (mGName 6) (mApp (mVar 4) (putV 4) (mVar 6)) (ys.map D.int) (numSt k each cells xs a b) = .nx (numSt k each cells (xs ++ ys) a b') := by
  induction ys generalizing xs b with
  | nil => exact ⟨b, by rw [List.append_nil]; rfl⟩
  | cons y ys ih =>
    rw [List.length_cons] at hx
    obtain ⟨b', h⟩ := ih (xs ++ [y]) (some (.int y)) (by simp; omega)
    refine ⟨b', ?_⟩
    have hsm : small xs.length = true := small_of (by omega)
    have e : mGo (mGName 6) (mApp (mVar 4) (putV 4) (mVar 6)) ((y :: ys).map D.int) (numSt k each cells xs a b) = mGo (mGName 6) (mApp (mVar 4) (putV 4) (mVar 6)) (ys.map D.int) (numSt k each cells (xs ++ [y]) a (some (.int y))) := by
      rw [List.map_cons]
      conv => lhs; unfold mGo
      simp [numSt, hsm, O.turn]
    rw [e, h, List.append_assoc]; rfl
theorem num_while (k each : Int) (cells : List Int) (a b : Option D) : ∀ (n fuel : Nat) (xs : List Int), (xs.length : Int) + n = k ∨ ((xs.length : Int) ≥ k ∧ n = 0) → n < fuel → xs.length + n ≤ 90000 → (∀ x ∈ xs, nOk x) →
    ∃ ys : List Int, mWh (mB (l2 D.lt (mCall fLen (mCons (mVar 4) mNil)) (mVar 1))) (mApp (mVar 4) (putV 4) (mC (.int 0))) fuel (numSt k each cells xs a b) = .nx (numSt k each cells ys a b) ∧ (k ≤ ys.length) ∧ (∀ x ∈ ys, nOk x)
  | 0, fuel + 1, xs, h, _, hs, hx => ⟨xs, by
      have hc : ¬ ((xs.length : Int) < k) := by omega
      unfold mWh
      simp [numSt, hc], by omega, hx⟩
  | n + 1, fuel + 1, xs, h, hf, hs, hx => by
    have hc : (xs.length : Int) < k := by omega
    have hsm : small xs.length = true := small_of (by omega)
    obtain ⟨ys, h1, h2, h3⟩ := num_while k each cells a b n fuel (xs ++ [0]) (by rw [List.length_append, List.length_singleton]; omega) (by omega) (by rw [List.length_append, List.length_singleton]; omega) (fun x hx' => by
      rcases List.mem_append.mp hx' with q | q
      · exact hx x q
      · rw [List.mem_singleton.mp q]; exact ⟨by omega, by omega⟩)
    refine ⟨ys, ?_, h2, h3⟩
    rw [← h1]
    conv => lhs; unfold mWh
    simp [numSt, hc, hsm, O.turn]
theorem flat_ints (xs : List Int) : (xs.map D.int).all D.flat = true := by
  rw [List.all_eq_true]
  intro d hd
  obtain ⟨i, _, e⟩ := List.mem_map.mp hd
  rw [← e]; rfl
theorem num_spec (ns : List Int) (k : Nat) (h1 : k ≤ 200) : ∃ xs : List Int, fNum 4 m__law_numbers ns (k : Int) = .ok (.lst (xs.map D.int)) ∧ xs.length = k ∧ ∀ x ∈ xs, nOk x := by
  obtain ⟨cells, hcells⟩ : ∃ cells, cells = ns.take 63 := ⟨_, rfl⟩
  have hL : cells.length ≤ 63 := by rw [hcells, List.length_take]; omega
  have hst : numRho 4 ns (k : Int) = [none, some (.int k), some (.lst (cells.map D.int)), none, none, none, none] := by
    unfold numRho
    rw [show (some 63 : Option Int) = some ((63 : Nat) : Int) from rfl, cut_take, hcells, List.map_take]; rfl
  obtain ⟨M, hM, hM1⟩ : ∃ M : Int, M = (if (cells.length : Int) > 1 then (cells.length : Int) else 1) ∧ 1 ≤ M ∧ M ≤ 63 := ⟨_, rfl, by split <;> omega⟩
  obtain ⟨e, he, he1⟩ : ∃ e : Nat, (e : Int) = 1 + (k : Int) / M ∧ e ≤ 201 := by
    have q0 : 0 ≤ (k : Int) / M := Int.ediv_nonneg (by omega) (by omega)
    have q1 : (k : Int) / M ≤ k := Int.ediv_le_self _ (by omega)
    exact ⟨(1 + (k : Int) / M).toNat, by omega, by omega⟩
  obtain ⟨ρ', f1, xs, a, b, rfl, f2, f3⟩ := mFor_inv (it := mIt (mVar 2)) (g := mGName 5) (s := (mFor (mIt (mCall f__law_row (mCons (mVar 5) (mCons (mVar 3) mNil)))) (mGName 6) (mApp (mVar 4) (putV 4) (mVar 6))))
    (ρ := numSt k e cells [] none none) (ds := cells.map D.int) (fun i ρ => ∃ (xs : List Int) (a b : Option D), ρ = numSt k e cells xs a b ∧ xs.length = i * e ∧ ∀ x ∈ xs, nOk x)
    rfl ⟨[], none, none, rfl, by simp, fun x h => nomatch h⟩ (fun j d ρ hj ⟨xs, a, b, er, hl, hx⟩ => by
      subst er
      rw [List.getElem?_map] at hj
      obtain ⟨c, hc, rfl⟩ : ∃ c, cells[j]? = some c ∧ D.int c = d := by
        cases h : cells[j]? with
        | none => rw [h] at hj; cases hj
        | some c => rw [h] at hj; exact ⟨c, rfl, by simpa using hj⟩
      have hjl : j < cells.length := (List.getElem?_eq_some_iff.mp hc).1
      obtain ⟨ys, g1, g2, g3⟩ := row_spec c e (by omega) (by omega)
      have hb : j * e ≤ 63 * 201 := Nat.mul_le_mul (by omega) he1
      obtain ⟨b', g4⟩ := num_inner k e cells xs ys (some (.int c)) b (by omega)
      refine ⟨numSt k e cells xs (some (.int c)) b, numSt k e cells (xs ++ ys) (some (.int c)) b', rfl, ?_, ⟨xs ++ ys, _, _, rfl, ?_, fun x hx' => (List.mem_append.mp hx').elim (hx x) (g3 x)⟩⟩
      · have e0 : (mIt (mCall f__law_row (mCons (mVar 5) (mCons (mVar 3) mNil)))) (numSt k e cells xs (some (.int c)) b) = .ok (ys.map D.int) := by
          have : (mIt (mCall f__law_row (mCons (mVar 5) (mCons (mVar 3) mNil)))) (numSt k e cells xs (some (.int c)) b) = (f__law_row [.int c, .int e]).bind D.items := rfl
          rw [this, g1]; rfl
        unfold mFor
        rw [e0]
        exact g4
      · rw [List.length_append, hl, Nat.add_mul]; omega)
  rw [List.length_map] at f2
  have hb : cells.length * e ≤ 63 * 201 := Nat.mul_le_mul hL he1
  obtain ⟨ys, w1, w2, w3⟩ := num_while k e cells a b (k - xs.length) 100000 xs (by omega) (by omega) (by omega) f3
  refine ⟨ys.take k, ?_, by rw [List.length_take]; omega, fun x hx => w3 x (List.mem_of_mem_take hx)⟩
  have hdiv : D.fdiv (.int (k : Int)) (.int M) = .ok (.int ((k : Int) / M)) := by
    show (if (decide (0 < M) && decide (M < 1073741824)) = true then R.ok (D.int ((k : Int) / M)) else .stuck) = _
    rw [if_pos (by rw [Bool.and_eq_true]; exact ⟨decide_eq_true (by omega), decide_eq_true (by omega)⟩)]
  have h0 : (mSet 3 (l2 D.add (mC (.int 1)) (l2 D.fdiv (mVar 1) (mCall fMax2 (mCons (mC (.int 1)) (mCons (mCall fLen (mCons (mVar 2) mNil)) mNil)))))) [none, some (.int k), some (.lst (cells.map D.int)), none, none, none, none] = .nx [none, some (.int k), some (.lst (cells.map D.int)), some (.int e), none, none, none] := by
    have e1 : fMax2 [.int 1, .int ((cells.map D.int).length : Int)] = .ok (.int M) := by rw [List.length_map, hM]; rfl
    show rO ((fMax2 [.int 1, .int ((cells.map D.int).length : Int)]).bind fun y => (D.fdiv (.int (k : Int)) y).bind fun z => D.add (.int 1) z) _ _ = _
    rw [e1, bind_okS, hdiv, bind_okS, add_i, ← he]; rfl
  have hs : (mSliceS (mVar 4) mNoPart (mPart (mVar 1))) (numSt k e cells ys a b) = .ok (.lst ((ys.take k).map D.int)) := by
    show (if (ys.map D.int).all D.flat = true then R.ok (D.lst (cutD (ys.map D.int) none (some (k : Int)))) else .stuck) = _
    rw [if_pos (flat_ints ys), cut_take, List.map_take]
  unfold fNum mRun
  rw [hst]
  unfold m__law_numbers
  rw [mSeq_a, h0]
  show (match mSeq (mSet 4 (mLst mNil)) _ [none, some (.int k), some (.lst (cells.map D.int)), some (.int e), none, none, none] with | .rt d => R.ok d | .ex x _ => .ex x | _ => .stuck) = _
  have h4 : (mSet 4 (mLst mNil)) [none, some (.int k), some (.lst (cells.map D.int)), some (.int e), none, none, none] = .nx (numSt k e cells [] none none) := rfl
  rw [mSeq_a, h4]
  dsimp only
  rw [mSeq_a, f1]
  dsimp only
  rw [mSeq_a, w1]
  dsimp only
  rw [mRet_a, hs]
  rfl
end Mi
namespace Mi
open PySem L2
def digL : List Nat := [48, 49, 50, 51, 52, 53, 54, 55, 56, 57]
def letL : List Nat := [97, 98, 99, 100, 101, 102, 103, 104, 105, 106, 107, 108, 109, 110, 111, 112, 113, 114, 115, 116, 117, 118, 119, 120, 121, 122]
theorem dig_e : (Str.ofString "0123456789").cps.toList = digL := by decide +kernel
theorem let_e : (Str.ofString "abcdefghijklmnopqrstuvwxyz").cps.toList = letL := by decide +kernel
theorem nam_e : (Str.ofString "abcdefghijklmnopqrstuvwxyz0123456789").cps.toList = letL ++ digL := by decide +kernel
theorem nam_split : ∀ c ∈ letL ++ digL, (decide (c ∈ digL)) = !decide (c ∈ letL) := by decide +kernel
/-- a name -/
def nmP (l : List Nat) : Bool := decide (1 ≤ l.length) && (decide (l.length ≤ 12) && (!decide (l.headD 0 ∈ digL) && l.all fun c => decide (c ∈ letL ++ digL)))
def numP (l : List Nat) : Bool := decide (1 ≤ l.length) && (decide (l.length ≤ 31) && (l.all (fun c => decide (c ∈ digL)) && (decide (l.length = 1) || !decide (l.headD 0 = 48))))
theorem len_tl (w : Str) : w.length = w.cps.toList.length := Array.length_toList.symm
theorem is_name_spec {w : Str} (hl : w.length ≤ 1000) : f_is_name [.str w] = .ok (.bl (nmP w.cps.toList)) := by
  have hl' : w.length ≤ 100000 := by omega
  have hlen := len_str hl'
  have e0 : f_is_name [.str w] = fin false (m_is_name [some (.str w), none]) := rfl
  have hc := cmp_chars (Z := Str.ofString "abcdefghijklmnopqrstuvwxyz0123456789") (o := none) hl'
  rw [nam_e] at hc
  have ha := all_map w.cps.toList fun c => decide (c ∈ letL ++ digL)
  unfold nmP
  rw [← len_tl]
  by_cases h1 : 1 ≤ w.length
  · have g1 : decide ((1 : Int) ≤ (w.length : Int)) = true := decide_eq_true (by omega)
    by_cases h2 : w.length ≤ 12
    · have g2 : decide ((w.length : Int) ≤ 12) = true := decide_eq_true (by omega)
      obtain ⟨c, r, hw⟩ : ∃ c r, w.cps.toList = c :: r := by
        cases hw : w.cps.toList with
        | nil => rw [len_tl, hw] at h1; exact absurd h1 (by decide)
        | cons c r => exact ⟨c, r, rfl⟩
      have hx := ix0_str hw hl'
      rw [show w.cps.toList.headD 0 = c by rw [hw]; rfl]
      cases hd : decide (c ∈ digL) with
      | true => simp only [e0, m_is_name, mChain, hlen, hx, inn_char, dig_e, hd, g1, g2, bind_okS, bind_exS, bind_stS, noEx_okS, mVar_a, mC_a, mNil_a, mCons_a, mCall_a, l1_a, l2_a, mSeq_a, mSet_a, mIf_a, mRet_a, mNext_a, mDrop_a, mB_a, mAnd_a, mOr_a, mNot_a, mAndV_a, mOrV_a, mNotV_a, mIfE_a, mLst_a, mTup_a, mNoPart_a, mPart_a, mSlice_a, mYes_a, mIt_a, mGName_a, mGNil_a, mGCons_a, mGTup_a, mApp_a, putV_a, mPar_a, parD_a, mAsgG_a, mGSub_a, toB_a, toS_a, mS1_a, mRange1_a, mRange2_a, mRange3_a, mEnum_a, mZip_a, mZipS_a, fInt_i, fInt_b, fAbs_i, fMax_i, fMin_i, fLen_l, fLen_t, opI_a, add_i, items_l, items_t, items_s, isL_a, slice_l, slice_t, fin_rt, fin_ex, fin_nx, rO_ok, rO_ex, rO_stuck, List.getElem?_cons_zero, List.getElem?_cons_succ, List.set_cons_zero, List.set_cons_succ, if_true, ite_true, ite_false, Bool.not_true, Bool.not_false, Bool.false_eq_true, if_pos, eqq_int, neq_int, eqq_bl, List.length_cons, List.length_nil, List.length_map, decide_eq_true h1, decide_eq_true h2, Bool.true_and, Bool.false_and]
      | false => simp only [e0, m_is_name, mChain, hlen, hx, inn_char, dig_e, hd, g1, g2, hc, ha, bind_okS, bind_exS, bind_stS, noEx_okS, mVar_a, mC_a, mNil_a, mCons_a, mCall_a, l1_a, l2_a, mSeq_a, mSet_a, mIf_a, mRet_a, mNext_a, mDrop_a, mB_a, mAnd_a, mOr_a, mNot_a, mAndV_a, mOrV_a, mNotV_a, mIfE_a, mLst_a, mTup_a, mNoPart_a, mPart_a, mSlice_a, mYes_a, mIt_a, mGName_a, mGNil_a, mGCons_a, mGTup_a, mApp_a, putV_a, mPar_a, parD_a, mAsgG_a, mGSub_a, toB_a, toS_a, mS1_a, mRange1_a, mRange2_a, mRange3_a, mEnum_a, mZip_a, mZipS_a, fInt_i, fInt_b, fAbs_i, fMax_i, fMin_i, fLen_l, fLen_t, opI_a, add_i, items_l, items_t, items_s, isL_a, slice_l, slice_t, fin_rt, fin_ex, fin_nx, rO_ok, rO_ex, rO_stuck, List.getElem?_cons_zero, List.getElem?_cons_succ, List.set_cons_zero, List.set_cons_succ, if_true, ite_true, ite_false, Bool.not_true, Bool.not_false, Bool.false_eq_true, if_pos, eqq_int, neq_int, eqq_bl, List.length_cons, List.length_nil, List.length_map, decide_eq_true h1, decide_eq_true h2, Bool.true_and, Bool.false_and]
    · have g2 : decide ((w.length : Int) ≤ 12) = false := decide_eq_false (by omega)
      simp only [e0, m_is_name, mChain, hlen, g1, g2, bind_okS, bind_exS, bind_stS, noEx_okS, mVar_a, mC_a, mNil_a, mCons_a, mCall_a, l1_a, l2_a, mSeq_a, mSet_a, mIf_a, mRet_a, mNext_a, mDrop_a, mB_a, mAnd_a, mOr_a, mNot_a, mAndV_a, mOrV_a, mNotV_a, mIfE_a, mLst_a, mTup_a, mNoPart_a, mPart_a, mSlice_a, mYes_a, mIt_a, mGName_a, mGNil_a, mGCons_a, mGTup_a, mApp_a, putV_a, mPar_a, parD_a, mAsgG_a, mGSub_a, toB_a, toS_a, mS1_a, mRange1_a, mRange2_a, mRange3_a, mEnum_a, mZip_a, mZipS_a, fInt_i, fInt_b, fAbs_i, fMax_i, fMin_i, fLen_l, fLen_t, opI_a, add_i, items_l, items_t, items_s, isL_a, slice_l, slice_t, fin_rt, fin_ex, fin_nx, rO_ok, rO_ex, rO_stuck, List.getElem?_cons_zero, List.getElem?_cons_succ, List.set_cons_zero, List.set_cons_succ, if_true, ite_true, ite_false, Bool.not_true, Bool.not_false, Bool.false_eq_true, if_pos, eqq_int, neq_int, eqq_bl, List.length_cons, List.length_nil, List.length_map, decide_eq_true h1, decide_eq_false h2, Bool.true_and, Bool.false_and]
  · have g1 : decide ((1 : Int) ≤ (w.length : Int)) = false := decide_eq_false (by omega)
    simp only [e0, m_is_name, mChain, hlen, g1, bind_okS, bind_exS, bind_stS, noEx_okS, mVar_a, mC_a, mNil_a, mCons_a, mCall_a, l1_a, l2_a, mSeq_a, mSet_a, mIf_a, mRet_a, mNext_a, mDrop_a, mB_a, mAnd_a, mOr_a, mNot_a, mAndV_a, mOrV_a, mNotV_a, mIfE_a, mLst_a, mTup_a, mNoPart_a, mPart_a, mSlice_a, mYes_a, mIt_a, mGName_a, mGNil_a, mGCons_a, mGTup_a, mApp_a, putV_a, mPar_a, parD_a, mAsgG_a, mGSub_a, toB_a, toS_a, mS1_a, mRange1_a, mRange2_a, mRange3_a, mEnum_a, mZip_a, mZipS_a, fInt_i, fInt_b, fAbs_i, fMax_i, fMin_i, fLen_l, fLen_t, opI_a, add_i, items_l, items_t, items_s, isL_a, slice_l, slice_t, fin_rt, fin_ex, fin_nx, rO_ok, rO_ex, rO_stuck, List.getElem?_cons_zero, List.getElem?_cons_succ, List.set_cons_zero, List.set_cons_succ, if_true, ite_true, ite_false, Bool.not_true, Bool.not_false, Bool.false_eq_true, if_pos, eqq_int, neq_int, eqq_bl, List.length_cons, List.length_nil, List.length_map, decide_eq_false h1, Bool.false_and]
theorem head_of {w : Str} (h1 : 1 ≤ w.length) : ∃ c r, w.cps.toList = c :: r := by
  cases hw : w.cps.toList with
  | nil => rw [len_tl, hw] at h1; exact absurd h1 (by decide)
  | cons c r => exact ⟨c, r, rfl⟩
theorem law_is_name_spec {w : Str} (hl : w.length ≤ 1000) : f__law_is_name [.str w] = .ok (.bl (nmP w.cps.toList)) := by
  have hl' : w.length ≤ 100000 := by omega
  have hlen := len_str hl'
  have e0 : f__law_is_name [.str w] = fin false (m__law_is_name [some (.str w), none]) := rfl
  have hc := cmp_chars (Z := Str.ofString "abcdefghijklmnopqrstuvwxyz0123456789") (o := none) hl'
  rw [nam_e] at hc
  have ha := all_map w.cps.toList fun c => decide (c ∈ letL ++ digL)
  unfold nmP
  rw [← len_tl]
  by_cases h1 : 1 ≤ w.length
  · have g1 : decide ((w.length : Int) < 1) = false := decide_eq_false (by omega)
    by_cases h2 : w.length ≤ 12
    · have g2 : decide (12 < (w.length : Int)) = false := decide_eq_false (by omega)
      obtain ⟨c, r, hw⟩ := head_of h1
      have hx := ix0_str hw hl'
      rw [show w.cps.toList.headD 0 = c by rw [hw]; rfl]
      cases hd : decide (c ∈ letL) with
      | false =>
        simp only [e0, m__law_is_name, hlen, hx, notin_char, let_e, hd, g1, g2, bind_okS, bind_exS, bind_stS, noEx_okS, mVar_a, mC_a, mNil_a, mCons_a, mCall_a, l1_a, l2_a, mSeq_a, mSet_a, mIf_a, mRet_a, mNext_a, mDrop_a, mB_a, mAnd_a, mOr_a, mNot_a, mAndV_a, mOrV_a, mNotV_a, mIfE_a, mLst_a, mTup_a, mNoPart_a, mPart_a, mSlice_a, mYes_a, mIt_a, mGName_a, mGNil_a, mGCons_a, mGTup_a, mApp_a, putV_a, mPar_a, parD_a, mAsgG_a, mGSub_a, toB_a, toS_a, mS1_a, mRange1_a, mRange2_a, mRange3_a, mEnum_a, mZip_a, mZipS_a, fInt_i, fInt_b, fAbs_i, fMax_i, fMin_i, fLen_l, fLen_t, opI_a, add_i, items_l, items_t, items_s, isL_a, slice_l, slice_t, fin_rt, fin_ex, fin_nx, rO_ok, rO_ex, rO_stuck, List.getElem?_cons_zero, List.getElem?_cons_succ, List.set_cons_zero, List.set_cons_succ, if_true, ite_true, ite_false, Bool.not_true, Bool.not_false, Bool.false_eq_true, if_pos, eqq_int, neq_int, eqq_bl, List.length_cons, List.length_nil, List.length_map, decide_eq_true h1, decide_eq_true h2, Bool.true_and, Bool.false_and]
        by_cases hn : c ∈ letL ++ digL
        · have := nam_split c hn
          rw [hd] at this
          rw [this]; rfl
        · rw [hw, List.all_cons, decide_eq_false hn, Bool.false_and, Bool.and_false]
      | true =>
        simp only [e0, m__law_is_name, hlen, hx, notin_char, let_e, hd, g1, g2, hc, ha, bind_okS, bind_exS, bind_stS, noEx_okS, mVar_a, mC_a, mNil_a, mCons_a, mCall_a, l1_a, l2_a, mSeq_a, mSet_a, mIf_a, mRet_a, mNext_a, mDrop_a, mB_a, mAnd_a, mOr_a, mNot_a, mAndV_a, mOrV_a, mNotV_a, mIfE_a, mLst_a, mTup_a, mNoPart_a, mPart_a, mSlice_a, mYes_a, mIt_a, mGName_a, mGNil_a, mGCons_a, mGTup_a, mApp_a, putV_a, mPar_a, parD_a, mAsgG_a, mGSub_a, toB_a, toS_a, mS1_a, mRange1_a, mRange2_a, mRange3_a, mEnum_a, mZip_a, mZipS_a, fInt_i, fInt_b, fAbs_i, fMax_i, fMin_i, fLen_l, fLen_t, opI_a, add_i, items_l, items_t, items_s, isL_a, slice_l, slice_t, fin_rt, fin_ex, fin_nx, rO_ok, rO_ex, rO_stuck, List.getElem?_cons_zero, List.getElem?_cons_succ, List.set_cons_zero, List.set_cons_succ, if_true, ite_true, ite_false, Bool.not_true, Bool.not_false, Bool.false_eq_true, if_pos, eqq_int, neq_int, eqq_bl, List.length_cons, List.length_nil, List.length_map, decide_eq_true h1, decide_eq_true h2, Bool.true_and, Bool.false_and]
        by_cases hn : c ∈ letL ++ digL
        · have := nam_split c hn
          rw [hd] at this
          rw [this]; rfl
        · rw [hw, List.all_cons, decide_eq_false hn, Bool.false_and, Bool.and_false]
    · have g2 : decide (12 < (w.length : Int)) = true := decide_eq_true (by omega)
      simp only [e0, m__law_is_name, hlen, g1, g2, bind_okS, bind_exS, bind_stS, noEx_okS, mVar_a, mC_a, mNil_a, mCons_a, mCall_a, l1_a, l2_a, mSeq_a, mSet_a, mIf_a, mRet_a, mNext_a, mDrop_a, mB_a, mAnd_a, mOr_a, mNot_a, mAndV_a, mOrV_a, mNotV_a, mIfE_a, mLst_a, mTup_a, mNoPart_a, mPart_a, mSlice_a, mYes_a, mIt_a, mGName_a, mGNil_a, mGCons_a, mGTup_a, mApp_a, putV_a, mPar_a, parD_a, mAsgG_a, mGSub_a, toB_a, toS_a, mS1_a, mRange1_a, mRange2_a, mRange3_a, mEnum_a, mZip_a, mZipS_a, fInt_i, fInt_b, fAbs_i, fMax_i, fMin_i, fLen_l, fLen_t, opI_a, add_i, items_l, items_t, items_s, isL_a, slice_l, slice_t, fin_rt, fin_ex, fin_nx, rO_ok, rO_ex, rO_stuck, List.getElem?_cons_zero, List.getElem?_cons_succ, List.set_cons_zero, List.set_cons_succ, if_true, ite_true, ite_false, Bool.not_true, Bool.not_false, Bool.false_eq_true, if_pos, eqq_int, neq_int, eqq_bl, List.length_cons, List.length_nil, List.length_map, decide_eq_true h1, decide_eq_false h2, Bool.true_and, Bool.false_and]
  · have g1 : decide ((w.length : Int) < 1) = true := decide_eq_true (by omega)
    simp only [e0, m__law_is_name, hlen, g1, bind_okS, bind_exS, bind_stS, noEx_okS, mVar_a, mC_a, mNil_a, mCons_a, mCall_a, l1_a, l2_a, mSeq_a, mSet_a, mIf_a, mRet_a, mNext_a, mDrop_a, mB_a, mAnd_a, mOr_a, mNot_a, mAndV_a, mOrV_a, mNotV_a, mIfE_a, mLst_a, mTup_a, mNoPart_a, mPart_a, mSlice_a, mYes_a, mIt_a, mGName_a, mGNil_a, mGCons_a, mGTup_a, mApp_a, putV_a, mPar_a, parD_a, mAsgG_a, mGSub_a, toB_a, toS_a, mS1_a, mRange1_a, mRange2_a, mRange3_a, mEnum_a, mZip_a, mZipS_a, fInt_i, fInt_b, fAbs_i, fMax_i, fMin_i, fLen_l, fLen_t, opI_a, add_i, items_l, items_t, items_s, isL_a, slice_l, slice_t, fin_rt, fin_ex, fin_nx, rO_ok, rO_ex, rO_stuck, List.getElem?_cons_zero, List.getElem?_cons_succ, List.set_cons_zero, List.set_cons_succ, if_true, ite_true, ite_false, Bool.not_true, Bool.not_false, Bool.false_eq_true, if_pos, eqq_int, neq_int, eqq_bl, List.length_cons, List.length_nil, List.length_map, decide_eq_false h1, Bool.false_and]
theorem asc0 : Asc (Str.ofString "0") := by unfold Asc; decide +kernel
theorem str1 {w : Str} {c : Nat} {r : List Nat} (h : w.cps.toList = c :: r) (z : Nat) : (decide (w = ⟨#[z]⟩)) = (decide (w.length = 1) && decide (c = z)) := by
  rw [len_tl, h, Bool.eq_iff_iff, Bool.and_eq_true, decide_eq_true_eq, decide_eq_true_eq, decide_eq_true_eq]
  constructor
  · intro e
    rw [e] at h
    obtain ⟨h1, h2⟩ := List.cons.inj h
    rw [← h2, ← h1]; exact ⟨rfl, rfl⟩
  · rintro ⟨h1, h2⟩
    have hr : r = [] := List.length_eq_zero_iff.mp (by simpa using h1)
    subst hr h2
    obtain ⟨a⟩ := w
    congr 1
    exact Array.toList_inj.mp h
theorem asc_one {w : Str} (ha : Asc w) {c : Nat} {r : List Nat} (h : w.cps.toList = c :: r) : Asc ⟨#[c]⟩ := fun x hx => by
  have : x = c := by simpa using hx
  rw [this]; exact ha c (by rw [h]; exact List.mem_cons_self)
theorem zero_str : Str.ofString "0" = ⟨#[48]⟩ := by decide +kernel
theorem one_char (c z : Nat) : decide ((⟨#[c]⟩ : Str) = ⟨#[z]⟩) = decide (c = z) := by
  by_cases h : c = z
  · rw [h]; simp
  · simp [h]
theorem is_number_spec {w : Str} (hl : w.length ≤ 1000) (hA : Asc w) : f_is_number [.str w] = .ok (.bl (numP w.cps.toList)) := by
  have hl' : w.length ≤ 100000 := by omega
  have hlen := len_str hl'
  have e0 : f_is_number [.str w] = fin false (m_is_number [some (.str w), none]) := rfl
  have hc := cmp_chars (Z := Str.ofString "0123456789") (o := none) hl'
  rw [dig_e] at hc
  have ha := all_map w.cps.toList fun c => decide (c ∈ digL)
  unfold numP
  rw [← len_tl]
  by_cases h1 : 1 ≤ w.length
  · have g1 : decide ((1 : Int) ≤ (w.length : Int)) = true := decide_eq_true (by omega)
    by_cases h2 : w.length ≤ 31
    · have g2 : decide ((w.length : Int) ≤ 31) = true := decide_eq_true (by omega)
      obtain ⟨c, r, hw⟩ := head_of h1
      have hx := ix0_str hw hl'
      have q1 := eqq_str hA asc0
      have q2 := neq_str (asc_one hA hw) asc0
      rw [zero_str, str1 hw] at q1
      rw [zero_str, one_char] at q2
      rw [show w.cps.toList.headD 0 = c by rw [hw]; rfl]
      cases hd : (w.cps.toList.all fun c => decide (c ∈ digL)) with
      | false =>
        rw [hd] at ha
        simp only [e0, m_is_number, mChain, hlen, g1, g2, hc, ha, bind_okS, bind_exS, bind_stS, noEx_okS, mVar_a, mC_a, mNil_a, mCons_a, mCall_a, l1_a, l2_a, mSeq_a, mSet_a, mIf_a, mRet_a, mNext_a, mDrop_a, mB_a, mAnd_a, mOr_a, mNot_a, mAndV_a, mOrV_a, mNotV_a, mIfE_a, mLst_a, mTup_a, mNoPart_a, mPart_a, mSlice_a, mYes_a, mIt_a, mGName_a, mGNil_a, mGCons_a, mGTup_a, mApp_a, putV_a, mPar_a, parD_a, mAsgG_a, mGSub_a, toB_a, toS_a, mS1_a, mRange1_a, mRange2_a, mRange3_a, mEnum_a, mZip_a, mZipS_a, fInt_i, fInt_b, fAbs_i, fMax_i, fMin_i, fLen_l, fLen_t, opI_a, add_i, items_l, items_t, items_s, isL_a, slice_l, slice_t, fin_rt, fin_ex, fin_nx, rO_ok, rO_ex, rO_stuck, List.getElem?_cons_zero, List.getElem?_cons_succ, List.set_cons_zero, List.set_cons_succ, if_true, ite_true, ite_false, Bool.not_true, Bool.not_false, Bool.false_eq_true, if_pos, eqq_int, neq_int, eqq_bl, List.length_cons, List.length_nil, List.length_map, decide_eq_true h1, decide_eq_true h2, Bool.true_and, Bool.false_and]
      | true =>
        rw [hd] at ha
        cases k1 : decide (w.length = 1) with
        | true =>
          cases k2 : decide (c = 48) with
          | true =>
            rw [k1, k2] at q1
            simp only [e0, m_is_number, mChain, hlen, g1, g2, hc, ha, zero_str, q1, bind_okS, bind_exS, bind_stS, noEx_okS, mVar_a, mC_a, mNil_a, mCons_a, mCall_a, l1_a, l2_a, mSeq_a, mSet_a, mIf_a, mRet_a, mNext_a, mDrop_a, mB_a, mAnd_a, mOr_a, mNot_a, mAndV_a, mOrV_a, mNotV_a, mIfE_a, mLst_a, mTup_a, mNoPart_a, mPart_a, mSlice_a, mYes_a, mIt_a, mGName_a, mGNil_a, mGCons_a, mGTup_a, mApp_a, putV_a, mPar_a, parD_a, mAsgG_a, mGSub_a, toB_a, toS_a, mS1_a, mRange1_a, mRange2_a, mRange3_a, mEnum_a, mZip_a, mZipS_a, fInt_i, fInt_b, fAbs_i, fMax_i, fMin_i, fLen_l, fLen_t, opI_a, add_i, items_l, items_t, items_s, isL_a, slice_l, slice_t, fin_rt, fin_ex, fin_nx, rO_ok, rO_ex, rO_stuck, List.getElem?_cons_zero, List.getElem?_cons_succ, List.set_cons_zero, List.set_cons_succ, if_true, ite_true, ite_false, Bool.not_true, Bool.not_false, Bool.false_eq_true, if_pos, eqq_int, neq_int, eqq_bl, List.length_cons, List.length_nil, List.length_map, decide_eq_true h1, decide_eq_true h2, Bool.true_and, Bool.false_and, Bool.true_or]
          | false =>
            rw [k1, k2] at q1
            rw [k2] at q2
            simp only [e0, m_is_number, mChain, hlen, g1, g2, hc, ha, hx, zero_str, q1, q2, bind_okS, bind_exS, bind_stS, noEx_okS, mVar_a, mC_a, mNil_a, mCons_a, mCall_a, l1_a, l2_a, mSeq_a, mSet_a, mIf_a, mRet_a, mNext_a, mDrop_a, mB_a, mAnd_a, mOr_a, mNot_a, mAndV_a, mOrV_a, mNotV_a, mIfE_a, mLst_a, mTup_a, mNoPart_a, mPart_a, mSlice_a, mYes_a, mIt_a, mGName_a, mGNil_a, mGCons_a, mGTup_a, mApp_a, putV_a, mPar_a, parD_a, mAsgG_a, mGSub_a, toB_a, toS_a, mS1_a, mRange1_a, mRange2_a, mRange3_a, mEnum_a, mZip_a, mZipS_a, fInt_i, fInt_b, fAbs_i, fMax_i, fMin_i, fLen_l, fLen_t, opI_a, add_i, items_l, items_t, items_s, isL_a, slice_l, slice_t, fin_rt, fin_ex, fin_nx, rO_ok, rO_ex, rO_stuck, List.getElem?_cons_zero, List.getElem?_cons_succ, List.set_cons_zero, List.set_cons_succ, if_true, ite_true, ite_false, Bool.not_true, Bool.not_false, Bool.false_eq_true, if_pos, eqq_int, neq_int, eqq_bl, List.length_cons, List.length_nil, List.length_map, decide_eq_true h1, decide_eq_true h2, Bool.true_and, Bool.and_false, Bool.false_and, Bool.true_or]
        | false =>
          rw [k1] at q1
          cases k2 : decide (c = 48) with
          | true =>
            rw [k2] at q2
            simp only [e0, m_is_number, mChain, hlen, g1, g2, hc, ha, hx, zero_str, q1, q2, bind_okS, bind_exS, bind_stS, noEx_okS, mVar_a, mC_a, mNil_a, mCons_a, mCall_a, l1_a, l2_a, mSeq_a, mSet_a, mIf_a, mRet_a, mNext_a, mDrop_a, mB_a, mAnd_a, mOr_a, mNot_a, mAndV_a, mOrV_a, mNotV_a, mIfE_a, mLst_a, mTup_a, mNoPart_a, mPart_a, mSlice_a, mYes_a, mIt_a, mGName_a, mGNil_a, mGCons_a, mGTup_a, mApp_a, putV_a, mPar_a, parD_a, mAsgG_a, mGSub_a, toB_a, toS_a, mS1_a, mRange1_a, mRange2_a, mRange3_a, mEnum_a, mZip_a, mZipS_a, fInt_i, fInt_b, fAbs_i, fMax_i, fMin_i, fLen_l, fLen_t, opI_a, add_i, items_l, items_t, items_s, isL_a, slice_l, slice_t, fin_rt, fin_ex, fin_nx, rO_ok, rO_ex, rO_stuck, List.getElem?_cons_zero, List.getElem?_cons_succ, List.set_cons_zero, List.set_cons_succ, if_true, ite_true, ite_false, Bool.not_true, Bool.not_false, Bool.false_eq_true, if_pos, eqq_int, neq_int, eqq_bl, List.length_cons, List.length_nil, List.length_map, decide_eq_true h1, decide_eq_true h2, Bool.true_and, Bool.and_false, Bool.false_and, Bool.false_or]
          | false =>
            rw [k2] at q2
            simp only [e0, m_is_number, mChain, hlen, g1, g2, hc, ha, hx, zero_str, q1, q2, bind_okS, bind_exS, bind_stS, noEx_okS, mVar_a, mC_a, mNil_a, mCons_a, mCall_a, l1_a, l2_a, mSeq_a, mSet_a, mIf_a, mRet_a, mNext_a, mDrop_a, mB_a, mAnd_a, mOr_a, mNot_a, mAndV_a, mOrV_a, mNotV_a, mIfE_a, mLst_a, mTup_a, mNoPart_a, mPart_a, mSlice_a, mYes_a, mIt_a, mGName_a, mGNil_a, mGCons_a, mGTup_a, mApp_a, putV_a, mPar_a, parD_a, mAsgG_a, mGSub_a, toB_a, toS_a, mS1_a, mRange1_a, mRange2_a, mRange3_a, mEnum_a, mZip_a, mZipS_a, fInt_i, fInt_b, fAbs_i, fMax_i, fMin_i, fLen_l, fLen_t, opI_a, add_i, items_l, items_t, items_s, isL_a, slice_l, slice_t, fin_rt, fin_ex, fin_nx, rO_ok, rO_ex, rO_stuck, List.getElem?_cons_zero, List.getElem?_cons_succ, List.set_cons_zero, List.set_cons_succ, if_true, ite_true, ite_false, Bool.not_true, Bool.not_false, Bool.false_eq_true, if_pos, eqq_int, neq_int, eqq_bl, List.length_cons, List.length_nil, List.length_map, decide_eq_true h1, decide_eq_true h2, Bool.true_and, Bool.and_false, Bool.false_and, Bool.false_or]
    · have g2 : decide ((w.length : Int) ≤ 31) = false := decide_eq_false (by omega)
      simp only [e0, m_is_number, mChain, hlen, g1, g2, bind_okS, bind_exS, bind_stS, noEx_okS, mVar_a, mC_a, mNil_a, mCons_a, mCall_a, l1_a, l2_a, mSeq_a, mSet_a, mIf_a, mRet_a, mNext_a, mDrop_a, mB_a, mAnd_a, mOr_a, mNot_a, mAndV_a, mOrV_a, mNotV_a, mIfE_a, mLst_a, mTup_a, mNoPart_a, mPart_a, mSlice_a, mYes_a, mIt_a, mGName_a, mGNil_a, mGCons_a, mGTup_a, mApp_a, putV_a, mPar_a, parD_a, mAsgG_a, mGSub_a, toB_a, toS_a, mS1_a, mRange1_a, mRange2_a, mRange3_a, mEnum_a, mZip_a, mZipS_a, fInt_i, fInt_b, fAbs_i, fMax_i, fMin_i, fLen_l, fLen_t, opI_a, add_i, items_l, items_t, items_s, isL_a, slice_l, slice_t, fin_rt, fin_ex, fin_nx, rO_ok, rO_ex, rO_stuck, List.getElem?_cons_zero, List.getElem?_cons_succ, List.set_cons_zero, List.set_cons_succ, if_true, ite_true, ite_false, Bool.not_true, Bool.not_false, Bool.false_eq_true, if_pos, eqq_int, neq_int, eqq_bl, List.length_cons, List.length_nil, List.length_map, decide_eq_true h1, decide_eq_false h2, Bool.true_and, Bool.false_and]
  · have g1 : decide ((1 : Int) ≤ (w.length : Int)) = false := decide_eq_false (by omega)
    simp only [e0, m_is_number, mChain, hlen, g1, bind_okS, bind_exS, bind_stS, noEx_okS, mVar_a, mC_a, mNil_a, mCons_a, mCall_a, l1_a, l2_a, mSeq_a, mSet_a, mIf_a, mRet_a, mNext_a, mDrop_a, mB_a, mAnd_a, mOr_a, mNot_a, mAndV_a, mOrV_a, mNotV_a, mIfE_a, mLst_a, mTup_a, mNoPart_a, mPart_a, mSlice_a, mYes_a, mIt_a, mGName_a, mGNil_a, mGCons_a, mGTup_a, mApp_a, putV_a, mPar_a, parD_a, mAsgG_a, mGSub_a, toB_a, toS_a, mS1_a, mRange1_a, mRange2_a, mRange3_a, mEnum_a, mZip_a, mZipS_a, fInt_i, fInt_b, fAbs_i, fMax_i, fMin_i, fLen_l, fLen_t, opI_a, add_i, items_l, items_t, items_s, isL_a, slice_l, slice_t, fin_rt, fin_ex, fin_nx, rO_ok, rO_ex, rO_stuck, List.getElem?_cons_zero, List.getElem?_cons_succ, List.set_cons_zero, List.set_cons_succ, if_true, ite_true, ite_false, Bool.not_true, Bool.not_false, Bool.false_eq_true, if_pos, eqq_int, neq_int, eqq_bl, List.length_cons, List.length_nil, List.length_map, decide_eq_false h1, Bool.false_and]
theorem law_is_number_spec {w : Str} (hl : w.length ≤ 1000) (hA : Asc w) : f__law_is_number [.str w] = .ok (.bl (numP w.cps.toList)) := by
  have hl' : w.length ≤ 100000 := by omega
  have hlen := len_str hl'
  have e0 : f__law_is_number [.str w] = fin false (m__law_is_number [some (.str w), none]) := rfl
  have hc := cmp_chars (Z := Str.ofString "0123456789") (o := none) hl'
  rw [dig_e] at hc
  have ha := all_map w.cps.toList fun c => decide (c ∈ digL)
  unfold numP
  rw [← len_tl]
  by_cases h1 : 1 ≤ w.length
  · have g1 : decide ((w.length : Int) < 1) = false := decide_eq_false (by omega)
    by_cases h2 : w.length ≤ 31
    · have g2 : decide (31 < (w.length : Int)) = false := decide_eq_false (by omega)
      obtain ⟨c, r, hw⟩ := head_of h1
      have hx := ix0_str hw hl'
      have q2 := eqq_str (asc_one hA hw) asc0
      rw [zero_str, one_char] at q2
      rw [show w.cps.toList.headD 0 = c by rw [hw]; rfl]
      by_cases h3 : w.length = 1
      · have g3 : decide (1 < (w.length : Int)) = false := decide_eq_false (by omega)
        simp only [e0, m__law_is_number, hlen, hx, g1, g2, g3, hc, ha, bind_okS, bind_exS, bind_stS, noEx_okS, mVar_a, mC_a, mNil_a, mCons_a, mCall_a, l1_a, l2_a, mSeq_a, mSet_a, mIf_a, mRet_a, mNext_a, mDrop_a, mB_a, mAnd_a, mOr_a, mNot_a, mAndV_a, mOrV_a, mNotV_a, mIfE_a, mLst_a, mTup_a, mNoPart_a, mPart_a, mSlice_a, mYes_a, mIt_a, mGName_a, mGNil_a, mGCons_a, mGTup_a, mApp_a, putV_a, mPar_a, parD_a, mAsgG_a, mGSub_a, toB_a, toS_a, mS1_a, mRange1_a, mRange2_a, mRange3_a, mEnum_a, mZip_a, mZipS_a, fInt_i, fInt_b, fAbs_i, fMax_i, fMin_i, fLen_l, fLen_t, opI_a, add_i, items_l, items_t, items_s, isL_a, slice_l, slice_t, fin_rt, fin_ex, fin_nx, rO_ok, rO_ex, rO_stuck, List.getElem?_cons_zero, List.getElem?_cons_succ, List.set_cons_zero, List.set_cons_succ, if_true, ite_true, ite_false, Bool.not_true, Bool.not_false, Bool.false_eq_true, if_pos, eqq_int, neq_int, eqq_bl, List.length_cons, List.length_nil, List.length_map, decide_eq_true h1, decide_eq_true h2, decide_eq_true h3, Bool.true_and, Bool.and_true, Bool.true_or]
      · have g3 : decide (1 < (w.length : Int)) = true := decide_eq_true (by omega)
        cases k2 : decide (c = 48) with
        | true =>
          rw [k2] at q2
          simp only [e0, m__law_is_number, hlen, hx, g1, g2, g3, zero_str, q2, bind_okS, bind_exS, bind_stS, noEx_okS, mVar_a, mC_a, mNil_a, mCons_a, mCall_a, l1_a, l2_a, mSeq_a, mSet_a, mIf_a, mRet_a, mNext_a, mDrop_a, mB_a, mAnd_a, mOr_a, mNot_a, mAndV_a, mOrV_a, mNotV_a, mIfE_a, mLst_a, mTup_a, mNoPart_a, mPart_a, mSlice_a, mYes_a, mIt_a, mGName_a, mGNil_a, mGCons_a, mGTup_a, mApp_a, putV_a, mPar_a, parD_a, mAsgG_a, mGSub_a, toB_a, toS_a, mS1_a, mRange1_a, mRange2_a, mRange3_a, mEnum_a, mZip_a, mZipS_a, fInt_i, fInt_b, fAbs_i, fMax_i, fMin_i, fLen_l, fLen_t, opI_a, add_i, items_l, items_t, items_s, isL_a, slice_l, slice_t, fin_rt, fin_ex, fin_nx, rO_ok, rO_ex, rO_stuck, List.getElem?_cons_zero, List.getElem?_cons_succ, List.set_cons_zero, List.set_cons_succ, if_true, ite_true, ite_false, Bool.not_true, Bool.not_false, Bool.false_eq_true, if_pos, eqq_int, neq_int, eqq_bl, List.length_cons, List.length_nil, List.length_map, decide_eq_true h1, decide_eq_true h2, decide_eq_false h3, Bool.true_and, Bool.and_false, Bool.false_or]
        | false =>
          rw [k2] at q2
          simp only [e0, m__law_is_number, hlen, hx, g1, g2, g3, zero_str, q2, hc, ha, bind_okS, bind_exS, bind_stS, noEx_okS, mVar_a, mC_a, mNil_a, mCons_a, mCall_a, l1_a, l2_a, mSeq_a, mSet_a, mIf_a, mRet_a, mNext_a, mDrop_a, mB_a, mAnd_a, mOr_a, mNot_a, mAndV_a, mOrV_a, mNotV_a, mIfE_a, mLst_a, mTup_a, mNoPart_a, mPart_a, mSlice_a, mYes_a, mIt_a, mGName_a, mGNil_a, mGCons_a, mGTup_a, mApp_a, putV_a, mPar_a, parD_a, mAsgG_a, mGSub_a, toB_a, toS_a, mS1_a, mRange1_a, mRange2_a, mRange3_a, mEnum_a, mZip_a, mZipS_a, fInt_i, fInt_b, fAbs_i, fMax_i, fMin_i, fLen_l, fLen_t, opI_a, add_i, items_l, items_t, items_s, isL_a, slice_l, slice_t, fin_rt, fin_ex, fin_nx, rO_ok, rO_ex, rO_stuck, List.getElem?_cons_zero, List.getElem?_cons_succ, List.set_cons_zero, List.set_cons_succ, if_true, ite_true, ite_false, Bool.not_true, Bool.not_false, Bool.false_eq_true, if_pos, eqq_int, neq_int, eqq_bl, List.length_cons, List.length_nil, List.length_map, decide_eq_true h1, decide_eq_true h2, decide_eq_false h3, Bool.true_and, Bool.and_true, Bool.false_or]
    · have g2 : decide (31 < (w.length : Int)) = true := decide_eq_true (by omega)
      simp only [e0, m__law_is_number, hlen, g1, g2, bind_okS, bind_exS, bind_stS, noEx_okS, mVar_a, mC_a, mNil_a, mCons_a, mCall_a, l1_a, l2_a, mSeq_a, mSet_a, mIf_a, mRet_a, mNext_a, mDrop_a, mB_a, mAnd_a, mOr_a, mNot_a, mAndV_a, mOrV_a, mNotV_a, mIfE_a, mLst_a, mTup_a, mNoPart_a, mPart_a, mSlice_a, mYes_a, mIt_a, mGName_a, mGNil_a, mGCons_a, mGTup_a, mApp_a, putV_a, mPar_a, parD_a, mAsgG_a, mGSub_a, toB_a, toS_a, mS1_a, mRange1_a, mRange2_a, mRange3_a, mEnum_a, mZip_a, mZipS_a, fInt_i, fInt_b, fAbs_i, fMax_i, fMin_i, fLen_l, fLen_t, opI_a, add_i, items_l, items_t, items_s, isL_a, slice_l, slice_t, fin_rt, fin_ex, fin_nx, rO_ok, rO_ex, rO_stuck, List.getElem?_cons_zero, List.getElem?_cons_succ, List.set_cons_zero, List.set_cons_succ, if_true, ite_true, ite_false, Bool.not_true, Bool.not_false, Bool.false_eq_true, if_pos, eqq_int, neq_int, eqq_bl, List.length_cons, List.length_nil, List.length_map, decide_eq_true h1, decide_eq_false h2, Bool.true_and, Bool.false_and]
  · have g1 : decide ((w.length : Int) < 1) = true := decide_eq_true (by omega)
    simp only [e0, m__law_is_number, hlen, g1, bind_okS, bind_exS, bind_stS, noEx_okS, mVar_a, mC_a, mNil_a, mCons_a, mCall_a, l1_a, l2_a, mSeq_a, mSet_a, mIf_a, mRet_a, mNext_a, mDrop_a, mB_a, mAnd_a, mOr_a, mNot_a, mAndV_a, mOrV_a, mNotV_a, mIfE_a, mLst_a, mTup_a, mNoPart_a, mPart_a, mSlice_a, mYes_a, mIt_a, mGName_a, mGNil_a, mGCons_a, mGTup_a, mApp_a, putV_a, mPar_a, parD_a, mAsgG_a, mGSub_a, toB_a, toS_a, mS1_a, mRange1_a, mRange2_a, mRange3_a, mEnum_a, mZip_a, mZipS_a, fInt_i, fInt_b, fAbs_i, fMax_i, fMin_i, fLen_l, fLen_t, opI_a, add_i, items_l, items_t, items_s, isL_a, slice_l, slice_t, fin_rt, fin_ex, fin_nx, rO_ok, rO_ex, rO_stuck, List.getElem?_cons_zero, List.getElem?_cons_succ, List.set_cons_zero, List.set_cons_succ, if_true, ite_true, ite_false, Bool.not_true, Bool.not_false, Bool.false_eq_true, if_pos, eqq_int, neq_int, eqq_bl, List.length_cons, List.length_nil, List.length_map, decide_eq_false h1, Bool.false_and]
end Mi
namespace Mi
open PySem L2
def Wd (ws : List Str) : Prop := ∀ w ∈ ws, w.length ≤ 1000 ∧ Asc w
abbrev nm (w : Str) : Bool := nmP w.cps.toList
abbrev nu (w : Str) : Bool := numP w.cps.toList
theorem lc_strs {it : MI} {i : Nat} {e : ME} {vs : List Nat} {ρ : Rho} {ws : List Str} {p : Str → Bool} (hi : it ρ = .ok (ws.map .str)) (hs : ws.length ≤ 100000)
    (h : ∀ w ∈ ws, e ((wipeR ρ vs).set i (some (.str w))) = .ok (.bl (p w))) : mLc it (mGName i) mYes e vs ρ = .ok (.lst (ws.map fun w => .bl (p w))) := by
  have h2 := mLc_all (it := it) (g := mGName i) (t := mYes) (e := e) (vs := vs) (ρ := ρ) (ds := ws.map .str) (f := fun d => match d with | .str w => .bl (p w) | d => d) hi (by rw [List.length_map]; exact hs) fun d hd => by
    obtain ⟨w, hw, rfl⟩ := List.mem_map.mp hd
    exact ⟨_, rfl, rfl, h w hw⟩
  rw [h2, List.map_map]; rfl
theorem all_names_spec {ws : List Str} (h : Wd ws) (hl : ws.length ≤ 1000) : f__law_all_names [.lst (ws.map .str)] = .ok (.bl (ws.all nm)) := by
  have e0 : f__law_all_names [.lst (ws.map .str)] = fin false (m__law_all_names [some (.lst (ws.map .str)), none]) := rfl
  have hc := lc_strs (it := mIt (mVar 0)) (i := 1) (e := mCall f__law_is_name (mCons (mVar 1) mNil)) (vs := [1]) (ρ := [some (.lst (ws.map .str)), none]) (ws := ws) (p := nm) rfl (by omega) fun w hw => law_is_name_spec (h w hw).1
  simp only [e0, m__law_all_names, hc, all_map, bind_okS, bind_exS, bind_stS, noEx_okS, mVar_a, mC_a, mNil_a, mCons_a, mCall_a, l1_a, l2_a, mSeq_a, mSet_a, mIf_a, mRet_a, mNext_a, mDrop_a, mB_a, mAnd_a, mOr_a, mNot_a, mAndV_a, mOrV_a, mNotV_a, mIfE_a, mLst_a, mTup_a, mNoPart_a, mPart_a, mSlice_a, mYes_a, mIt_a, mGName_a, mGNil_a, mGCons_a, mGTup_a, mApp_a, putV_a, mPar_a, parD_a, mAsgG_a, mGSub_a, toB_a, toS_a, mS1_a, mRange1_a, mRange2_a, mRange3_a, mEnum_a, mZip_a, mZipS_a, fInt_i, fInt_b, fAbs_i, fMax_i, fMin_i, fLen_l, fLen_t, opI_a, add_i, items_l, items_t, items_s, isL_a, slice_l, slice_t, fin_rt, fin_ex, fin_nx, rO_ok, rO_ex, rO_stuck, List.getElem?_cons_zero, List.getElem?_cons_succ, List.set_cons_zero, List.set_cons_succ, if_true, ite_true, ite_false, Bool.not_true, Bool.not_false, Bool.false_eq_true, if_pos, eqq_int, neq_int, eqq_bl, List.length_cons, List.length_nil, List.length_map]
theorem all_numbers_spec {ws : List Str} (h : Wd ws) (hl : ws.length ≤ 1000) : f__law_all_numbers [.lst (ws.map .str)] = .ok (.bl (ws.all nu)) := by
  have e0 : f__law_all_numbers [.lst (ws.map .str)] = fin false (m__law_all_numbers [some (.lst (ws.map .str)), none]) := rfl
  have hc := lc_strs (it := mIt (mVar 0)) (i := 1) (e := mCall f__law_is_number (mCons (mVar 1) mNil)) (vs := [1]) (ρ := [some (.lst (ws.map .str)), none]) (ws := ws) (p := nu) rfl (by omega) fun w hw => law_is_number_spec (h w hw).1 (h w hw).2
  simp only [e0, m__law_all_numbers, hc, all_map, bind_okS, bind_exS, bind_stS, noEx_okS, mVar_a, mC_a, mNil_a, mCons_a, mCall_a, l1_a, l2_a, mSeq_a, mSet_a, mIf_a, mRet_a, mNext_a, mDrop_a, mB_a, mAnd_a, mOr_a, mNot_a, mAndV_a, mOrV_a, mNotV_a, mIfE_a, mLst_a, mTup_a, mNoPart_a, mPart_a, mSlice_a, mYes_a, mIt_a, mGName_a, mGNil_a, mGCons_a, mGTup_a, mApp_a, putV_a, mPar_a, parD_a, mAsgG_a, mGSub_a, toB_a, toS_a, mS1_a, mRange1_a, mRange2_a, mRange3_a, mEnum_a, mZip_a, mZipS_a, fInt_i, fInt_b, fAbs_i, fMax_i, fMin_i, fLen_l, fLen_t, opI_a, add_i, items_l, items_t, items_s, isL_a, slice_l, slice_t, fin_rt, fin_ex, fin_nx, rO_ok, rO_ex, rO_stuck, List.getElem?_cons_zero, List.getElem?_cons_succ, List.set_cons_zero, List.set_cons_succ, if_true, ite_true, ite_false, Bool.not_true, Bool.not_false, Bool.false_eq_true, if_pos, eqq_int, neq_int, eqq_bl, List.length_cons, List.length_nil, List.length_map]
theorem n_str : Str.ofString "n" = ⟨#[110]⟩ := by decide +kernel
def srt (p : Str × Nat) : Bool := if p.2 = 110 then nm p.1 else nu p.1
theorem has_form_spec {ws : List Str} {form : Str} (h : Wd ws) (hl : ws.length ≤ 1000) (hf : Asc form) (hfl : form.length ≤ 1000) :
    f_has_form [.lst (ws.map .str), .str form] = .ok (.bl (decide (ws.length = form.length) && (ws.zip form.cps.toList).all srt)) := by
  have e0 : f_has_form [.lst (ws.map .str), .str form] = fin false (m_has_form [some (.lst (ws.map .str)), some (.str form), none, none]) := rfl
  have hlen := len_str (w := form) (by omega)
  by_cases hn : ws.length = form.length
  · have g1 : decide ((ws.length : Int) = (form.length : Int)) = true := decide_eq_true (by omega)
    have hz : ∀ (ws : List Str) (cs : List Nat), ((ws.map D.str).zipWith (fun d e => D.tup [d, e]) (cs.map fun c => D.str ⟨#[c]⟩)) = (ws.zip cs).map fun p => D.tup [.str p.1, .str ⟨#[p.2]⟩] := by
      intro ws
      induction ws with
      | nil => intro cs; rfl
      | cons w ws ih => intro cs; cases cs with | nil => rfl | cons c cs => simp [ih]
    have hi : mZipS (mCons (mVar 0) (mCons (mVar 1) mNil)) [some (.lst (ws.map .str)), some (.str form), none, none] = .ok ((ws.zip form.cps.toList).map fun p => D.tup [.str p.1, .str ⟨#[p.2]⟩]) := by
      rw [← hz]; rfl
    have hc := mLc_all (it := mZipS (mCons (mVar 0) (mCons (mVar 1) mNil))) (g := mGTup 2 (mGCons (mGName 2) (mGCons (mGName 3) mGNil))) (t := mYes) (e := mIfE (mB (l2 D.eqq (mVar 3) (mC (.str "n")))) (mCall f_is_name (mCons (mVar 2) mNil)) (mCall f_is_number (mCons (mVar 2) mNil))) (vs := [2, 3])
      (ρ := [some (.lst (ws.map .str)), some (.str form), none, none]) (f := fun d => match d with | .tup [.str w, .str x] => .bl (srt (w, x.cps.getD 0 0)) | d => d) hi (by simp; omega) (fun d hd => by
        obtain ⟨⟨w, c⟩, hp, rfl⟩ := List.mem_map.mp hd
        obtain ⟨hw, hcm⟩ := List.of_mem_zip hp
        refine ⟨[some (.lst (ws.map .str)), some (.str form), some (.str w), some (.str ⟨#[c]⟩)], rfl, rfl, ?_⟩
        have q1 : D.eqq (.str ⟨#[c]⟩) (.str (Str.ofString "n")) = .ok (.bl (decide (c = 110))) := by
          have a1 : Asc ⟨#[c]⟩ := fun x hx => by
            have : x = c := by simpa using hx
            rw [this]; exact hf c hcm
          have a2 : Asc (Str.ofString "n") := by unfold Asc; decide +kernel
          rw [eqq_str a1 a2, n_str, one_char]
        have n1 := is_name_spec (h w hw).1
        have n2 := is_number_spec (h w hw).1 (h w hw).2
        cases k : decide (c = 110) with
        | true =>
          rw [k] at q1
          simp only [q1, n1, bind_okS, bind_exS, bind_stS, noEx_okS, mVar_a, mC_a, mNil_a, mCons_a, mCall_a, l1_a, l2_a, mSeq_a, mSet_a, mIf_a, mRet_a, mNext_a, mDrop_a, mB_a, mAnd_a, mOr_a, mNot_a, mAndV_a, mOrV_a, mNotV_a, mIfE_a, mLst_a, mTup_a, mNoPart_a, mPart_a, mSlice_a, mYes_a, mIt_a, mGName_a, mGNil_a, mGCons_a, mGTup_a, mApp_a, putV_a, mPar_a, parD_a, mAsgG_a, mGSub_a, toB_a, toS_a, mS1_a, mRange1_a, mRange2_a, mRange3_a, mEnum_a, mZip_a, mZipS_a, fInt_i, fInt_b, fAbs_i, fMax_i, fMin_i, fLen_l, fLen_t, opI_a, add_i, items_l, items_t, items_s, isL_a, slice_l, slice_t, fin_rt, fin_ex, fin_nx, rO_ok, rO_ex, rO_stuck, List.getElem?_cons_zero, List.getElem?_cons_succ, List.set_cons_zero, List.set_cons_succ, if_true, ite_true, ite_false, Bool.not_true, Bool.not_false, Bool.false_eq_true, if_pos, eqq_int, neq_int, eqq_bl, List.length_cons, List.length_nil, List.length_map]
          show _ = R.ok (D.bl (if c = 110 then nm w else nu w))
          rw [if_pos (of_decide_eq_true k)]
        | false =>
          rw [k] at q1
          simp only [q1, n2, bind_okS, bind_exS, bind_stS, noEx_okS, mVar_a, mC_a, mNil_a, mCons_a, mCall_a, l1_a, l2_a, mSeq_a, mSet_a, mIf_a, mRet_a, mNext_a, mDrop_a, mB_a, mAnd_a, mOr_a, mNot_a, mAndV_a, mOrV_a, mNotV_a, mIfE_a, mLst_a, mTup_a, mNoPart_a, mPart_a, mSlice_a, mYes_a, mIt_a, mGName_a, mGNil_a, mGCons_a, mGTup_a, mApp_a, putV_a, mPar_a, parD_a, mAsgG_a, mGSub_a, toB_a, toS_a, mS1_a, mRange1_a, mRange2_a, mRange3_a, mEnum_a, mZip_a, mZipS_a, fInt_i, fInt_b, fAbs_i, fMax_i, fMin_i, fLen_l, fLen_t, opI_a, add_i, items_l, items_t, items_s, isL_a, slice_l, slice_t, fin_rt, fin_ex, fin_nx, rO_ok, rO_ex, rO_stuck, List.getElem?_cons_zero, List.getElem?_cons_succ, List.set_cons_zero, List.set_cons_succ, if_true, ite_true, ite_false, Bool.not_true, Bool.not_false, Bool.false_eq_true, if_pos, eqq_int, neq_int, eqq_bl, List.length_cons, List.length_nil, List.length_map]
          show _ = R.ok (D.bl (if c = 110 then nm w else nu w))
          rw [if_neg (of_decide_eq_false k)])
    rw [List.map_map] at hc
    have hc2 : mLc (mZipS (mCons (mVar 0) (mCons (mVar 1) mNil))) (mGTup 2 (mGCons (mGName 2) (mGCons (mGName 3) mGNil))) mYes (mIfE (mB (l2 D.eqq (mVar 3) (mC (.str "n")))) (mCall f_is_name (mCons (mVar 2) mNil)) (mCall f_is_number (mCons (mVar 2) mNil))) [2, 3] [some (.lst (ws.map .str)), some (.str form), none, none] = .ok (.lst ((ws.zip form.cps.toList).map fun p => .bl (srt p))) := hc
    simp only [e0, m_has_form, hlen, g1, hc2, all_map, decide_eq_true hn, Bool.true_and, bind_okS, bind_exS, bind_stS, noEx_okS, mVar_a, mC_a, mNil_a, mCons_a, mCall_a, l1_a, l2_a, mSeq_a, mSet_a, mIf_a, mRet_a, mNext_a, mDrop_a, mB_a, mAnd_a, mOr_a, mNot_a, mAndV_a, mOrV_a, mNotV_a, mIfE_a, mLst_a, mTup_a, mNoPart_a, mPart_a, mSlice_a, mYes_a, mIt_a, mGName_a, mGNil_a, mGCons_a, mGTup_a, mApp_a, putV_a, mPar_a, parD_a, mAsgG_a, mGSub_a, toB_a, toS_a, mS1_a, mRange1_a, mRange2_a, mRange3_a, mEnum_a, mZip_a, mZipS_a, fInt_i, fInt_b, fAbs_i, fMax_i, fMin_i, fLen_l, fLen_t, opI_a, add_i, items_l, items_t, items_s, isL_a, slice_l, slice_t, fin_rt, fin_ex, fin_nx, rO_ok, rO_ex, rO_stuck, List.getElem?_cons_zero, List.getElem?_cons_succ, List.set_cons_zero, List.set_cons_succ, if_true, ite_true, ite_false, Bool.not_true, Bool.not_false, Bool.false_eq_true, if_pos, eqq_int, neq_int, eqq_bl, List.length_cons, List.length_nil, List.length_map]
  · have g1 : decide ((ws.length : Int) = (form.length : Int)) = false := decide_eq_false (by omega)
    simp only [e0, m_has_form, hlen, g1, decide_eq_false hn, Bool.false_and, bind_okS, bind_exS, bind_stS, noEx_okS, mVar_a, mC_a, mNil_a, mCons_a, mCall_a, l1_a, l2_a, mSeq_a, mSet_a, mIf_a, mRet_a, mNext_a, mDrop_a, mB_a, mAnd_a, mOr_a, mNot_a, mAndV_a, mOrV_a, mNotV_a, mIfE_a, mLst_a, mTup_a, mNoPart_a, mPart_a, mSlice_a, mYes_a, mIt_a, mGName_a, mGNil_a, mGCons_a, mGTup_a, mApp_a, putV_a, mPar_a, parD_a, mAsgG_a, mGSub_a, toB_a, toS_a, mS1_a, mRange1_a, mRange2_a, mRange3_a, mEnum_a, mZip_a, mZipS_a, fInt_i, fInt_b, fAbs_i, fMax_i, fMin_i, fLen_l, fLen_t, opI_a, add_i, items_l, items_t, items_s, isL_a, slice_l, slice_t, fin_rt, fin_ex, fin_nx, rO_ok, rO_ex, rO_stuck, List.getElem?_cons_zero, List.getElem?_cons_succ, List.set_cons_zero, List.set_cons_succ, if_true, ite_true, ite_false, Bool.not_true, Bool.not_false, Bool.false_eq_true, if_pos, eqq_int, neq_int, eqq_bl, List.length_cons, List.length_nil, List.length_map]
end Mi
namespace Mi
open PySem L2
theorem ix_l {ds : List D} {i : Int} {x : D} (h : atI ds i = some x) : D.ix (.lst ds) (.int i) = .ok x := by
  show oR (atI ds i) = _
  rw [h]; rfl
theorem cut_drop (xs : List D) (n : Nat) : cutD xs (some (n : Int)) none = xs.drop n := by
  unfold cutD
  rw [HT.sIx_none, HT.sIx_nat]
  by_cases h : n ≤ xs.length
  · rw [Nat.min_eq_left h, List.take_of_length_le (by rw [List.length_drop]; omega)]
  · rw [Nat.min_eq_right (by omega), Nat.sub_self, List.take_zero, List.drop_of_length_le (by omega)]
def L1 : List Str := ["answers", "squares", "questions", "undo", "redo"]
def L2' : List Str := ["square", "remove", "drop", "answer", "print"]
def L4 : List Str := ["turn", "switch"]
theorem tg1 : ∀ w ∈ L1, tget t_FORMS w = some (Str.ofString "") := by decide +kernel
theorem tg2 : ∀ w ∈ L2', tget t_FORMS w = some (Str.ofString "n") := by decide +kernel
theorem tg3 : tget t_FORMS (Str.ofString "product") = some (Str.ofString "nnn") := by decide +kernel
theorem tg4 : ∀ w ∈ L4, tget t_FORMS w = some (Str.ofString "nnddd") := by decide +kernel
theorem tget_none {α : Type} {z : Str} : ∀ {kvs : List (Str × α)}, (∀ kv ∈ kvs, kv.1 ≠ z) → tget kvs z = none
  | [], _ => rfl
  | kv :: r, h => by
    unfold tget
    rw [if_neg (h kv List.mem_cons_self)]
    exact tget_none fun q hq => h q (List.mem_cons_of_mem _ hq)
theorem keysF : ∀ kv ∈ t_FORMS, kv.1 ∈ L1 ∨ kv.1 ∈ L2' ∨ kv.1 = "product" ∨ kv.1 ∈ L4 := by decide +kernel
theorem tg0 {w : Str} (h1 : w ∉ L1) (h2 : w ∉ L2') (h3 : w ≠ "product") (h4 : w ∉ L4) : tget t_FORMS w = none := tget_none fun kv hk e => by
  rcases keysF kv hk with q | q | q | q
  · exact h1 (e ▸ q)
  · exact h2 (e ▸ q)
  · exact h3 (e ▸ q)
  · exact h4 (e ▸ q)
def askP (n : Nat) (r1 : Str) : Bool := match tget t_ASKED r1 with
  | some js => (js.map D.int).any fun z => PyData.eqv z.py (D.int ((n : Int) - 3)).py
  | none => false
/-- a command, as the program tells it -/
def cmd (w0 : Str) (rest : List Str) : Bool := match tget t_FORMS w0 with
  | some form => decide (rest.length = form.length) && (rest.zip form.cps.toList).all srt
  | none => decide (w0 = "ask") && match rest with
    | r0 :: r1 :: r2 :: r => askP (r.length + 3) r1 && (nm r0 && (nm r2 && r.all nu))
    | _ => false
theorem asc_lit {w : Str} (h : w.cps.toList.all (fun c => decide (c < 128)) = true) : Asc w := fun c hc => of_decide_eq_true (List.all_eq_true.mp h c hc)
theorem forms_ok : ∀ kv ∈ t_FORMS, kv.2.cps.toList.all (fun c => decide (c < 128)) = true ∧ kv.2.length ≤ 1000 := by decide +kernel
theorem tget_mem {α : Type} {z : Str} {y : α} : ∀ {kvs : List (Str × α)}, tget kvs z = some y → (z, y) ∈ kvs
  | [], h => by cases h
  | kv :: r, h => by
    unfold tget at h
    by_cases c : kv.1 = z
    · rw [if_pos c] at h; cases h; rw [← c]; exact List.mem_cons_self
    · rw [if_neg c] at h; exact List.mem_cons_of_mem _ (tget_mem h)
theorem is_command_spec {w0 : Str} {rest : List Str} (h : Wd (w0 :: rest)) (hl : rest.length ≤ 900) : f_is_command [.lst ((w0 :: rest).map .str)] = .ok (.bl (cmd w0 rest)) := by
  have e0 : f_is_command [.lst ((w0 :: rest).map .str)] = fin false (m_is_command [some (.lst ((w0 :: rest).map .str)), none, none, none]) := rfl
  have hW : Wd rest := fun w hw => h w (List.mem_cons_of_mem _ hw)
  have x0 : D.ix (.lst ((w0 :: rest).map .str)) (.int 0) = .ok (.str w0) := ix_l (atI_nat (j := 0) rfl)
  have x1 : cutD ((w0 :: rest).map D.str) (some 1) none = rest.map .str := cut_drop _ 1
  unfold cmd
  cases hf : tget t_FORMS w0 with
  | some form =>
    have hm := forms_ok _ (tget_mem hf)
    have hs := has_form_spec (ws := rest) (form := form) hW (by omega) (asc_lit hm.1) hm.2
    have i1 : fInKd t_FORMS (.str w0) = .ok (.bl true) := by show R.ok (D.bl (tget t_FORMS w0).isSome) = _; rw [hf]; rfl
    have i2 : fIxS t_FORMS (.str w0) = .ok (.str form) := by show (match tget t_FORMS w0 with | some s => R.ok (D.str s) | none => .stuck) = _; rw [hf]
    simp only [e0, m_is_command, x0, x1, i1, i2, hs, bind_okS, bind_exS, bind_stS, noEx_okS, mVar_a, mC_a, mNil_a, mCons_a, mCall_a, l1_a, l2_a, mSeq_a, mSet_a, mIf_a, mRet_a, mNext_a, mDrop_a, mB_a, mAnd_a, mOr_a, mNot_a, mAndV_a, mOrV_a, mNotV_a, mIfE_a, mLst_a, mTup_a, mNoPart_a, mPart_a, mSlice_a, mYes_a, mIt_a, mGName_a, mGNil_a, mGCons_a, mGTup_a, mApp_a, putV_a, mPar_a, parD_a, mAsgG_a, mGSub_a, toB_a, toS_a, mS1_a, mRange1_a, mRange2_a, mRange3_a, mEnum_a, mZip_a, mZipS_a, fInt_i, fInt_b, fAbs_i, fMax_i, fMin_i, fLen_l, fLen_t, opI_a, add_i, items_l, items_t, items_s, isL_a, slice_l, slice_t, fin_rt, fin_ex, fin_nx, rO_ok, rO_ex, rO_stuck, List.getElem?_cons_zero, List.getElem?_cons_succ, List.set_cons_zero, List.set_cons_succ, if_true, ite_true, ite_false, Bool.not_true, Bool.not_false, Bool.false_eq_true, if_pos, eqq_int, neq_int, eqq_bl, List.length_cons, List.length_nil, List.length_map]
  | none =>
    have i1 : fInKd t_FORMS (.str w0) = .ok (.bl false) := by show R.ok (D.bl (tget t_FORMS w0).isSome) = _; rw [hf]; rfl
    have q0 := neq_str (h w0 List.mem_cons_self).2 (show Asc (Str.ofString "ask") from asc_lit (by decide +kernel))
    by_cases ha : w0 = Str.ofString "ask"
    · have q0' : D.neq (.str w0) (.str (Str.ofString "ask")) = .ok (.bl false) := by rw [q0, decide_eq_true ha]; rfl
      match rest, hW, hl, e0, x0, x1 with
      | [], _, _, e0, x0, x1 =>
        simp only [e0, m_is_command, x0, x1, i1, q0', bind_okS, bind_exS, bind_stS, noEx_okS, mVar_a, mC_a, mNil_a, mCons_a, mCall_a, l1_a, l2_a, mSeq_a, mSet_a, mIf_a, mRet_a, mNext_a, mDrop_a, mB_a, mAnd_a, mOr_a, mNot_a, mAndV_a, mOrV_a, mNotV_a, mIfE_a, mLst_a, mTup_a, mNoPart_a, mPart_a, mSlice_a, mYes_a, mIt_a, mGName_a, mGNil_a, mGCons_a, mGTup_a, mApp_a, putV_a, mPar_a, parD_a, mAsgG_a, mGSub_a, toB_a, toS_a, mS1_a, mRange1_a, mRange2_a, mRange3_a, mEnum_a, mZip_a, mZipS_a, fInt_i, fInt_b, fAbs_i, fMax_i, fMin_i, fLen_l, fLen_t, opI_a, add_i, items_l, items_t, items_s, isL_a, slice_l, slice_t, fin_rt, fin_ex, fin_nx, rO_ok, rO_ex, rO_stuck, List.getElem?_cons_zero, List.getElem?_cons_succ, List.set_cons_zero, List.set_cons_succ, if_true, ite_true, ite_false, Bool.not_true, Bool.not_false, Bool.false_eq_true, if_pos, eqq_int, neq_int, eqq_bl, List.length_cons, List.length_nil, List.length_map, Bool.and_false]
        rfl
      | [a], _, _, e0, x0, x1 =>
        simp only [e0, m_is_command, x0, x1, i1, q0', bind_okS, bind_exS, bind_stS, noEx_okS, mVar_a, mC_a, mNil_a, mCons_a, mCall_a, l1_a, l2_a, mSeq_a, mSet_a, mIf_a, mRet_a, mNext_a, mDrop_a, mB_a, mAnd_a, mOr_a, mNot_a, mAndV_a, mOrV_a, mNotV_a, mIfE_a, mLst_a, mTup_a, mNoPart_a, mPart_a, mSlice_a, mYes_a, mIt_a, mGName_a, mGNil_a, mGCons_a, mGTup_a, mApp_a, putV_a, mPar_a, parD_a, mAsgG_a, mGSub_a, toB_a, toS_a, mS1_a, mRange1_a, mRange2_a, mRange3_a, mEnum_a, mZip_a, mZipS_a, fInt_i, fInt_b, fAbs_i, fMax_i, fMin_i, fLen_l, fLen_t, opI_a, add_i, items_l, items_t, items_s, isL_a, slice_l, slice_t, fin_rt, fin_ex, fin_nx, rO_ok, rO_ex, rO_stuck, List.getElem?_cons_zero, List.getElem?_cons_succ, List.set_cons_zero, List.set_cons_succ, if_true, ite_true, ite_false, Bool.not_true, Bool.not_false, Bool.false_eq_true, if_pos, eqq_int, neq_int, eqq_bl, List.length_cons, List.length_nil, List.length_map, Bool.and_false]
        rfl
      | [a, b], _, _, e0, x0, x1 =>
        simp only [e0, m_is_command, x0, x1, i1, q0', bind_okS, bind_exS, bind_stS, noEx_okS, mVar_a, mC_a, mNil_a, mCons_a, mCall_a, l1_a, l2_a, mSeq_a, mSet_a, mIf_a, mRet_a, mNext_a, mDrop_a, mB_a, mAnd_a, mOr_a, mNot_a, mAndV_a, mOrV_a, mNotV_a, mIfE_a, mLst_a, mTup_a, mNoPart_a, mPart_a, mSlice_a, mYes_a, mIt_a, mGName_a, mGNil_a, mGCons_a, mGTup_a, mApp_a, putV_a, mPar_a, parD_a, mAsgG_a, mGSub_a, toB_a, toS_a, mS1_a, mRange1_a, mRange2_a, mRange3_a, mEnum_a, mZip_a, mZipS_a, fInt_i, fInt_b, fAbs_i, fMax_i, fMin_i, fLen_l, fLen_t, opI_a, add_i, items_l, items_t, items_s, isL_a, slice_l, slice_t, fin_rt, fin_ex, fin_nx, rO_ok, rO_ex, rO_stuck, List.getElem?_cons_zero, List.getElem?_cons_succ, List.set_cons_zero, List.set_cons_succ, if_true, ite_true, ite_false, Bool.not_true, Bool.not_false, Bool.false_eq_true, if_pos, eqq_int, neq_int, eqq_bl, List.length_cons, List.length_nil, List.length_map, Bool.and_false]
        rfl
      | r0 :: r1 :: r2 :: r, hW, hl, e0, x0, x1 =>
        have g : decide (((r.length + 1 + 1 + 1 : Nat) : Int) < 3) = false := decide_eq_false (by omega)
        have y0 : D.ix (.lst ((r0 :: r1 :: r2 :: r).map .str)) (.int 0) = .ok (.str r0) := ix_l (atI_nat (j := 0) rfl)
        have y1 : D.ix (.lst ((r0 :: r1 :: r2 :: r).map .str)) (.int 1) = .ok (.str r1) := ix_l (atI_nat (j := 1) rfl)
        have y2 : D.ix (.lst ((r0 :: r1 :: r2 :: r).map .str)) (.int 2) = .ok (.str r2) := ix_l (atI_nat (j := 2) rfl)
        have n0 : f_is_name [.str r0] = .ok (.bl (nm r0)) := is_name_spec (hW r0 (by simp)).1
        have n2 : f_is_name [.str r2] = .ok (.bl (nm r2)) := is_name_spec (hW r2 (by simp)).1
        have hWr : Wd r := fun w hw => hW w (by simp [hw])
        have hc := lc_strs (it := mIt (mSlice (mVar 2) (mPart (mC (.int 3))) mNoPart)) (i := 3) (e := mCall f_is_number (mCons (mVar 3) mNil)) (vs := [3])
          (ρ := [some (.lst ((w0 :: r0 :: r1 :: r2 :: r).map .str)), some (.str w0), some (.lst ((r0 :: r1 :: r2 :: r).map .str)), none]) (ws := r) (p := nu)
          (by show R.ok (cutD ((r0 :: r1 :: r2 :: r).map D.str) (some ((3 : Nat) : Int)) none) = _; rw [cut_drop]; rfl) (by rw [List.length_cons, List.length_cons, List.length_cons] at hl; omega) fun w hw => is_number_spec (hWr w hw).1 (hWr w hw).2
        have k0 : decide (w0 = "ask") = true := decide_eq_true ha
        cases hk : tget t_ASKED r1 with
        | none =>
          have i3 : fNotInKd t_ASKED (.str r1) = .ok (.bl true) := by show R.ok (D.bl (!(tget t_ASKED r1).isSome)) = _; rw [hk]; rfl
          simp only [e0, m_is_command, x0, x1, i1, q0', g, y1, i3, askP, hk, bind_okS, bind_exS, bind_stS, noEx_okS, mVar_a, mC_a, mNil_a, mCons_a, mCall_a, l1_a, l2_a, mSeq_a, mSet_a, mIf_a, mRet_a, mNext_a, mDrop_a, mB_a, mAnd_a, mOr_a, mNot_a, mAndV_a, mOrV_a, mNotV_a, mIfE_a, mLst_a, mTup_a, mNoPart_a, mPart_a, mSlice_a, mYes_a, mIt_a, mGName_a, mGNil_a, mGCons_a, mGTup_a, mApp_a, putV_a, mPar_a, parD_a, mAsgG_a, mGSub_a, toB_a, toS_a, mS1_a, mRange1_a, mRange2_a, mRange3_a, mEnum_a, mZip_a, mZipS_a, fInt_i, fInt_b, fAbs_i, fMax_i, fMin_i, fLen_l, fLen_t, opI_a, add_i, items_l, items_t, items_s, isL_a, slice_l, slice_t, fin_rt, fin_ex, fin_nx, rO_ok, rO_ex, rO_stuck, List.getElem?_cons_zero, List.getElem?_cons_succ, List.set_cons_zero, List.set_cons_succ, if_true, ite_true, ite_false, Bool.not_true, Bool.not_false, Bool.false_eq_true, if_pos, eqq_int, neq_int, eqq_bl, List.length_cons, List.length_nil, List.length_map, Bool.and_false, Bool.false_and]
        | some js =>
          have i3 : fNotInKd t_ASKED (.str r1) = .ok (.bl false) := by show R.ok (D.bl (!(tget t_ASKED r1).isSome)) = _; rw [hk]; rfl
          have i4 : fNotInT t_ASKED (.int (((r.length + 1 + 1 + 1 : Nat) : Int) - 3)) (.str r1) = .ok (.bl (!askP (r.length + 3) r1)) := by
            show (match tget t_ASKED r1 with | some ns => R.ok (D.bl (!(ns.map D.int).any fun z => PyData.eqv z.py (D.int (((r.length + 1 + 1 + 1 : Nat) : Int) - 3)).py)) | none => .stuck) = _
            unfold askP
            rw [hk]
          cases hq : askP (r.length + 3) r1 with
          | false =>
            rw [hq] at i4
            simp only [e0, m_is_command, x0, x1, i1, q0', g, y1, i3, i4, hq, bind_okS, bind_exS, bind_stS, noEx_okS, mVar_a, mC_a, mNil_a, mCons_a, mCall_a, l1_a, l2_a, mSeq_a, mSet_a, mIf_a, mRet_a, mNext_a, mDrop_a, mB_a, mAnd_a, mOr_a, mNot_a, mAndV_a, mOrV_a, mNotV_a, mIfE_a, mLst_a, mTup_a, mNoPart_a, mPart_a, mSlice_a, mYes_a, mIt_a, mGName_a, mGNil_a, mGCons_a, mGTup_a, mApp_a, putV_a, mPar_a, parD_a, mAsgG_a, mGSub_a, toB_a, toS_a, mS1_a, mRange1_a, mRange2_a, mRange3_a, mEnum_a, mZip_a, mZipS_a, fInt_i, fInt_b, fAbs_i, fMax_i, fMin_i, fLen_l, fLen_t, opI_a, add_i, items_l, items_t, items_s, isL_a, slice_l, slice_t, fin_rt, fin_ex, fin_nx, rO_ok, rO_ex, rO_stuck, List.getElem?_cons_zero, List.getElem?_cons_succ, List.set_cons_zero, List.set_cons_succ, if_true, ite_true, ite_false, Bool.not_true, Bool.not_false, Bool.false_eq_true, if_pos, eqq_int, neq_int, eqq_bl, List.length_cons, List.length_nil, List.length_map, Bool.and_false, Bool.false_and]
          | true =>
            rw [hq] at i4
            cases z0 : nm r0 with
            | false =>
              rw [z0] at n0
              simp only [e0, m_is_command, x0, x1, i1, q0', g, y1, i3, i4, y0, n0, k0, hq, z0, bind_okS, bind_exS, bind_stS, noEx_okS, mVar_a, mC_a, mNil_a, mCons_a, mCall_a, l1_a, l2_a, mSeq_a, mSet_a, mIf_a, mRet_a, mNext_a, mDrop_a, mB_a, mAnd_a, mOr_a, mNot_a, mAndV_a, mOrV_a, mNotV_a, mIfE_a, mLst_a, mTup_a, mNoPart_a, mPart_a, mSlice_a, mYes_a, mIt_a, mGName_a, mGNil_a, mGCons_a, mGTup_a, mApp_a, putV_a, mPar_a, parD_a, mAsgG_a, mGSub_a, toB_a, toS_a, mS1_a, mRange1_a, mRange2_a, mRange3_a, mEnum_a, mZip_a, mZipS_a, fInt_i, fInt_b, fAbs_i, fMax_i, fMin_i, fLen_l, fLen_t, opI_a, add_i, items_l, items_t, items_s, isL_a, slice_l, slice_t, fin_rt, fin_ex, fin_nx, rO_ok, rO_ex, rO_stuck, List.getElem?_cons_zero, List.getElem?_cons_succ, List.set_cons_zero, List.set_cons_succ, if_true, ite_true, ite_false, Bool.not_true, Bool.not_false, Bool.false_eq_true, if_pos, eqq_int, neq_int, eqq_bl, List.length_cons, List.length_nil, List.length_map, Bool.and_false, Bool.false_and, Bool.true_and]
            | true =>
              rw [z0] at n0
              cases z2 : nm r2 with
              | false =>
                rw [z2] at n2
                simp only [e0, m_is_command, x0, x1, i1, q0', g, y1, i3, i4, y0, n0, y2, n2, k0, hq, z0, z2, bind_okS, bind_exS, bind_stS, noEx_okS, mVar_a, mC_a, mNil_a, mCons_a, mCall_a, l1_a, l2_a, mSeq_a, mSet_a, mIf_a, mRet_a, mNext_a, mDrop_a, mB_a, mAnd_a, mOr_a, mNot_a, mAndV_a, mOrV_a, mNotV_a, mIfE_a, mLst_a, mTup_a, mNoPart_a, mPart_a, mSlice_a, mYes_a, mIt_a, mGName_a, mGNil_a, mGCons_a, mGTup_a, mApp_a, putV_a, mPar_a, parD_a, mAsgG_a, mGSub_a, toB_a, toS_a, mS1_a, mRange1_a, mRange2_a, mRange3_a, mEnum_a, mZip_a, mZipS_a, fInt_i, fInt_b, fAbs_i, fMax_i, fMin_i, fLen_l, fLen_t, opI_a, add_i, items_l, items_t, items_s, isL_a, slice_l, slice_t, fin_rt, fin_ex, fin_nx, rO_ok, rO_ex, rO_stuck, List.getElem?_cons_zero, List.getElem?_cons_succ, List.set_cons_zero, List.set_cons_succ, if_true, ite_true, ite_false, Bool.not_true, Bool.not_false, Bool.false_eq_true, if_pos, eqq_int, neq_int, eqq_bl, List.length_cons, List.length_nil, List.length_map, Bool.and_false, Bool.false_and, Bool.true_and]
              | true =>
                rw [z2] at n2
                simp only [e0, m_is_command, x0, x1, i1, q0', g, y1, i3, i4, y0, n0, y2, n2, k0, hc, all_map, hq, z0, z2, bind_okS, bind_exS, bind_stS, noEx_okS, mVar_a, mC_a, mNil_a, mCons_a, mCall_a, l1_a, l2_a, mSeq_a, mSet_a, mIf_a, mRet_a, mNext_a, mDrop_a, mB_a, mAnd_a, mOr_a, mNot_a, mAndV_a, mOrV_a, mNotV_a, mIfE_a, mLst_a, mTup_a, mNoPart_a, mPart_a, mSlice_a, mYes_a, mIt_a, mGName_a, mGNil_a, mGCons_a, mGTup_a, mApp_a, putV_a, mPar_a, parD_a, mAsgG_a, mGSub_a, toB_a, toS_a, mS1_a, mRange1_a, mRange2_a, mRange3_a, mEnum_a, mZip_a, mZipS_a, fInt_i, fInt_b, fAbs_i, fMax_i, fMin_i, fLen_l, fLen_t, opI_a, add_i, items_l, items_t, items_s, isL_a, slice_l, slice_t, fin_rt, fin_ex, fin_nx, rO_ok, rO_ex, rO_stuck, List.getElem?_cons_zero, List.getElem?_cons_succ, List.set_cons_zero, List.set_cons_succ, if_true, ite_true, ite_false, Bool.not_true, Bool.not_false, Bool.false_eq_true, if_pos, eqq_int, neq_int, eqq_bl, List.length_cons, List.length_nil, List.length_map, Bool.and_false, Bool.false_and, Bool.true_and]
    · have q0' : D.neq (.str w0) (.str (Str.ofString "ask")) = .ok (.bl true) := by rw [q0, decide_eq_false ha]; rfl
      simp only [e0, m_is_command, x0, x1, i1, q0', bind_okS, bind_exS, bind_stS, noEx_okS, mVar_a, mC_a, mNil_a, mCons_a, mCall_a, l1_a, l2_a, mSeq_a, mSet_a, mIf_a, mRet_a, mNext_a, mDrop_a, mB_a, mAnd_a, mOr_a, mNot_a, mAndV_a, mOrV_a, mNotV_a, mIfE_a, mLst_a, mTup_a, mNoPart_a, mPart_a, mSlice_a, mYes_a, mIt_a, mGName_a, mGNil_a, mGCons_a, mGTup_a, mApp_a, putV_a, mPar_a, parD_a, mAsgG_a, mGSub_a, toB_a, toS_a, mS1_a, mRange1_a, mRange2_a, mRange3_a, mEnum_a, mZip_a, mZipS_a, fInt_i, fInt_b, fAbs_i, fMax_i, fMin_i, fLen_l, fLen_t, opI_a, add_i, items_l, items_t, items_s, isL_a, slice_l, slice_t, fin_rt, fin_ex, fin_nx, rO_ok, rO_ex, rO_stuck, List.getElem?_cons_zero, List.getElem?_cons_succ, List.set_cons_zero, List.set_cons_succ, if_true, ite_true, ite_false, Bool.not_true, Bool.not_false, Bool.false_eq_true, if_pos, eqq_int, neq_int, eqq_bl, List.length_cons, List.length_nil, List.length_map, decide_eq_false ha, Bool.false_and]
theorem inn_1 (a : Str) : D.inn (.str a) (.tup [.str "answers", .str "squares", .str "questions", .str "undo", .str "redo"]) = .ok (.bl (decide (a ∈ L1))) := inn_strs a L1
theorem inn_2 (a : Str) : D.inn (.str a) (.tup [.str "square", .str "remove", .str "drop", .str "answer", .str "print"]) = .ok (.bl (decide (a ∈ L2'))) := inn_strs a L2'
theorem inn_4 (a : Str) : D.inn (.str a) (.tup [.str "turn", .str "switch"]) = .ok (.bl (decide (a ∈ L4))) := inn_strs a L4
theorem lens_ok : (Str.ofString "").length = 0 ∧ (Str.ofString "").cps.toList = [] ∧ (Str.ofString "n").length = 1 ∧ (Str.ofString "n").cps.toList = [110] ∧ (Str.ofString "nnn").length = 3 ∧ (Str.ofString "nnn").cps.toList = [110, 110, 110] ∧
    (Str.ofString "nnddd").length = 5 ∧ (Str.ofString "nnddd").cps.toList = [110, 110, 100, 100, 100] := by decide +kernel
def spanB (n : Nat) : Bool := [(3 : Int), 5, 7, 9].any fun z => PyData.eqv (.int z) (.int n)
def pairB (r1 : Str) (n : Nat) : Bool := [((Str.ofString "order"), (3 : Int)), ("mate", 3), ("sign", 5)].any fun z => decide (z.1 = r1) && decide (z.2 = n)
theorem inn_lens (n : Nat) : D.inn (.int n) (.tup [.int 3, .int 5, .int 7, .int 9]) = .ok (.bl (spanB n)) := rfl
theorem inn_pairs {r1 : Str} (h : Asc r1) (n : Nat) : D.inn (.tup [.str r1, .int n]) (.tup [.tup [.str "order", .int 3], .tup [.str "mate", .int 3], .tup [.str "sign", .int 5]]) = .ok (.bl (pairB r1 n)) := by
  have h1 : (D.tup [.str r1, .int n]).shp = true := by simp [D.shp, SeqAt.shaped, D.py, pyL, PyData.canLay0, PyData.canLayAll0, PyData.depth, PyData.depthAll, strOk_of h]
  have h2 : (D.tup [.tup [.str "order", .int 3], .tup [.str "mate", .int 3], .tup [.str "sign", .int 5]]).shp = true := by
    have a1 := strOk_of (show Asc (Str.ofString "order") from asc_lit (by decide +kernel))
    have a2 := strOk_of (show Asc (Str.ofString "mate") from asc_lit (by decide +kernel))
    have a3 := strOk_of (show Asc (Str.ofString "sign") from asc_lit (by decide +kernel))
    simp [D.shp, SeqAt.shaped, D.py, pyL, PyData.canLay0, PyData.canLayAll0, PyData.depth, PyData.depthAll, a1, a2, a3]
  have e : D.inn (.tup [.str r1, .int n]) (.tup [.tup [.str "order", .int 3], .tup [.str "mate", .int 3], .tup [.str "sign", .int 5]]) = (if ((D.tup [.str r1, .int n]).shp && (D.tup [.tup [.str "order", .int 3], .tup [.str "mate", .int 3], .tup [.str "sign", .int 5]]).shp) = true then
      R.ok ([D.tup [.str "order", .int 3], .tup [.str "mate", .int 3], .tup [.str "sign", .int 5]].any fun z => PyData.eqv z.py (D.tup [.str r1, .int n]).py) else .stuck).bind fun b => .ok (.bl b) := rfl
  rw [e, h1, h2, Bool.and_self, if_pos rfl, bind_okS]
  simp [pairB, D.py, pyL, PyData.eqv, PyData.eqvAll, Bool.beq_eq_decide_eq]
theorem askP_val (n : Nat) (r1 : Str) : askP (n + 3) r1 = if r1 = Str.ofString "span" then spanB (n + 1 + 1 + 1) else pairB r1 (n + 1 + 1 + 1) := by
  have e : ((n + 3 : Nat) : Int) - 3 = (n : Int) := by omega
  have ne : (Str.ofString "order" ≠ "mate" ∧ Str.ofString "order" ≠ "sign" ∧ Str.ofString "order" ≠ "span") ∧ (Str.ofString "mate" ≠ "sign" ∧ Str.ofString "mate" ≠ "span") ∧ Str.ofString "sign" ≠ "span" := by decide +kernel
  obtain ⟨⟨n1, n2, n3⟩, ⟨n4, n5⟩, n6⟩ := ne
  unfold askP
  rw [e]
  by_cases c1 : Str.ofString "order" = r1
  · rw [show tget t_ASKED r1 = some [0] by rw [← c1]; decide +kernel, if_neg (by rw [← c1]; exact n3)]
    subst c1
    simp [D.py, PyData.eqv, pairB, n1.symm, n2.symm, Bool.beq_eq_decide_eq]
    omega
  · by_cases c2 : Str.ofString "mate" = r1
    · rw [show tget t_ASKED r1 = some [0] by rw [← c2]; decide +kernel, if_neg (by rw [← c2]; exact n5)]
      subst c2
      simp [D.py, PyData.eqv, pairB, n1, n4.symm, Bool.beq_eq_decide_eq]
      omega
    · by_cases c3 : Str.ofString "sign" = r1
      · rw [show tget t_ASKED r1 = some [2] by rw [← c3]; decide +kernel, if_neg (by rw [← c3]; exact n6)]
        subst c3
        simp [D.py, PyData.eqv, pairB, n2, n4, Bool.beq_eq_decide_eq]
        omega
      · by_cases c4 : Str.ofString "span" = r1
        · rw [show tget t_ASKED r1 = some [0, 2, 4, 6] by rw [← c4]; decide +kernel, if_pos c4.symm]
          have d : ∀ k : Int, (k == (n : Int)) = ((k + 3) == ((n + 1 + 1 + 1 : Nat) : Int)) := fun k => by rw [Bool.eq_iff_iff, beq_iff_eq, beq_iff_eq]; omega
          simp only [D.py, PyData.eqv, spanB, List.map_cons, List.map_nil, List.any_cons, List.any_nil, d]
          rfl
        · have hn : tget t_ASKED r1 = none := tget_none fun kv hk => by
            have : kv.1 = "order" ∨ kv.1 = "mate" ∨ kv.1 = "sign" ∨ kv.1 = "span" := (by decide +kernel : ∀ kv ∈ t_ASKED, kv.1 = Str.ofString "order" ∨ kv.1 = "mate" ∨ kv.1 = "sign" ∨ kv.1 = "span") kv hk
            rcases this with q | q | q | q <;> rw [q] <;> assumption
          rw [hn, if_neg (fun z => c4 z.symm)]
          simp [pairB, c1, c2, c3]
theorem law_command_spec {w0 : Str} {rest : List Str} (h : Wd (w0 :: rest)) (hl : rest.length ≤ 900) : f__law_command [.lst ((w0 :: rest).map .str)] = .ok (.bl (cmd w0 rest)) := by
  have e0 : f__law_command [.lst ((w0 :: rest).map .str)] = fin false (m__law_command [some (.lst ((w0 :: rest).map .str)), none, none]) := rfl
  have hW : Wd rest := fun w hw => h w (List.mem_cons_of_mem _ hw)
  have x0 : D.ix (.lst ((w0 :: rest).map .str)) (.int 0) = .ok (.str w0) := ix_l (atI_nat (j := 0) rfl)
  have x1 : cutD ((w0 :: rest).map D.str) (some 1) none = rest.map .str := cut_drop _ 1
  have s5 : small (0 + 1 + 1 + 1 + 1 + 1) = true := rfl
  have s2 : small (0 + 1 + 1) = true := rfl
  have q1 := inn_1 w0
  have q2 := inn_2 w0
  have q4 := inn_4 w0
  have q3 := eqq_str (h w0 List.mem_cons_self).2 (show Asc (Str.ofString "product") from asc_lit (by decide +kernel))
  obtain ⟨l1, l2, l3, l4, l5, l6, l7, l8⟩ := lens_ok
  unfold cmd
  by_cases h1 : w0 ∈ L1
  · rw [decide_eq_true h1] at q1
    rw [tg1 w0 h1]
    dsimp only
    rw [l1, l2, List.zip_nil_right]
    have g : decide (((rest.length : Nat) : Int) = 0) = decide (rest.length = 0) := by rw [decide_eq_decide]; omega
    simp only [e0, m__law_command, x0, x1, s5, q1, g, bind_okS, bind_exS, bind_stS, noEx_okS, mVar_a, mC_a, mNil_a, mCons_a, mCall_a, l1_a, l2_a, mSeq_a, mSet_a, mIf_a, mRet_a, mNext_a, mDrop_a, mB_a, mAnd_a, mOr_a, mNot_a, mAndV_a, mOrV_a, mNotV_a, mIfE_a, mLst_a, mTup_a, mNoPart_a, mPart_a, mSlice_a, mYes_a, mIt_a, mGName_a, mGNil_a, mGCons_a, mGTup_a, mApp_a, putV_a, mPar_a, parD_a, mAsgG_a, mGSub_a, toB_a, toS_a, mS1_a, mRange1_a, mRange2_a, mRange3_a, mEnum_a, mZip_a, mZipS_a, fInt_i, fInt_b, fAbs_i, fMax_i, fMin_i, fLen_l, fLen_t, opI_a, add_i, items_l, items_t, items_s, isL_a, slice_l, slice_t, fin_rt, fin_ex, fin_nx, rO_ok, rO_ex, rO_stuck, List.getElem?_cons_zero, List.getElem?_cons_succ, List.set_cons_zero, List.set_cons_succ, if_true, ite_true, ite_false, Bool.not_true, Bool.not_false, Bool.false_eq_true, if_pos, eqq_int, neq_int, eqq_bl, List.length_cons, List.length_nil, List.length_map, List.all_nil, Bool.and_true]
  · rw [decide_eq_false h1] at q1
    by_cases h2 : w0 ∈ L2'
    · rw [decide_eq_true h2] at q2
      rw [tg2 w0 h2]
      dsimp only
      rw [l3, l4]
      match rest, hW, hl, e0, x0, x1 with
      | [], _, _, e0, x0, x1 =>
        simp only [e0, m__law_command, x0, x1, s5, q1, q2, bind_okS, bind_exS, bind_stS, noEx_okS, mVar_a, mC_a, mNil_a, mCons_a, mCall_a, l1_a, l2_a, mSeq_a, mSet_a, mIf_a, mRet_a, mNext_a, mDrop_a, mB_a, mAnd_a, mOr_a, mNot_a, mAndV_a, mOrV_a, mNotV_a, mIfE_a, mLst_a, mTup_a, mNoPart_a, mPart_a, mSlice_a, mYes_a, mIt_a, mGName_a, mGNil_a, mGCons_a, mGTup_a, mApp_a, putV_a, mPar_a, parD_a, mAsgG_a, mGSub_a, toB_a, toS_a, mS1_a, mRange1_a, mRange2_a, mRange3_a, mEnum_a, mZip_a, mZipS_a, fInt_i, fInt_b, fAbs_i, fMax_i, fMin_i, fLen_l, fLen_t, opI_a, add_i, items_l, items_t, items_s, isL_a, slice_l, slice_t, fin_rt, fin_ex, fin_nx, rO_ok, rO_ex, rO_stuck, List.getElem?_cons_zero, List.getElem?_cons_succ, List.set_cons_zero, List.set_cons_succ, if_true, ite_true, ite_false, Bool.not_true, Bool.not_false, Bool.false_eq_true, if_pos, eqq_int, neq_int, eqq_bl, List.length_cons, List.length_nil, List.length_map]
        rfl
      | [a], hW, _, e0, x0, x1 =>
        have y0 : D.ix (.lst ([a].map .str)) (.int 0) = .ok (.str a) := ix_l (atI_nat (j := 0) rfl)
        have n0 : f__law_is_name [.str a] = .ok (.bl (nm a)) := law_is_name_spec (hW a (by simp)).1
        have g : decide (((0 + 1 : Nat) : Int) = 1) = true := rfl
        simp only [e0, m__law_command, x0, x1, s5, q1, q2, g, y0, n0, bind_okS, bind_exS, bind_stS, noEx_okS, mVar_a, mC_a, mNil_a, mCons_a, mCall_a, l1_a, l2_a, mSeq_a, mSet_a, mIf_a, mRet_a, mNext_a, mDrop_a, mB_a, mAnd_a, mOr_a, mNot_a, mAndV_a, mOrV_a, mNotV_a, mIfE_a, mLst_a, mTup_a, mNoPart_a, mPart_a, mSlice_a, mYes_a, mIt_a, mGName_a, mGNil_a, mGCons_a, mGTup_a, mApp_a, putV_a, mPar_a, parD_a, mAsgG_a, mGSub_a, toB_a, toS_a, mS1_a, mRange1_a, mRange2_a, mRange3_a, mEnum_a, mZip_a, mZipS_a, fInt_i, fInt_b, fAbs_i, fMax_i, fMin_i, fLen_l, fLen_t, opI_a, add_i, items_l, items_t, items_s, isL_a, slice_l, slice_t, fin_rt, fin_ex, fin_nx, rO_ok, rO_ex, rO_stuck, List.getElem?_cons_zero, List.getElem?_cons_succ, List.set_cons_zero, List.set_cons_succ, if_true, ite_true, ite_false, Bool.not_true, Bool.not_false, Bool.false_eq_true, if_pos, eqq_int, neq_int, eqq_bl, List.length_cons, List.length_nil, List.length_map]
        simp [srt]
      | a :: b :: r, _, _, e0, x0, x1 =>
        have g : decide (((r.length + 1 + 1 : Nat) : Int) = 1) = false := decide_eq_false (by omega)
        simp only [e0, m__law_command, x0, x1, s5, q1, q2, g, bind_okS, bind_exS, bind_stS, noEx_okS, mVar_a, mC_a, mNil_a, mCons_a, mCall_a, l1_a, l2_a, mSeq_a, mSet_a, mIf_a, mRet_a, mNext_a, mDrop_a, mB_a, mAnd_a, mOr_a, mNot_a, mAndV_a, mOrV_a, mNotV_a, mIfE_a, mLst_a, mTup_a, mNoPart_a, mPart_a, mSlice_a, mYes_a, mIt_a, mGName_a, mGNil_a, mGCons_a, mGTup_a, mApp_a, putV_a, mPar_a, parD_a, mAsgG_a, mGSub_a, toB_a, toS_a, mS1_a, mRange1_a, mRange2_a, mRange3_a, mEnum_a, mZip_a, mZipS_a, fInt_i, fInt_b, fAbs_i, fMax_i, fMin_i, fLen_l, fLen_t, opI_a, add_i, items_l, items_t, items_s, isL_a, slice_l, slice_t, fin_rt, fin_ex, fin_nx, rO_ok, rO_ex, rO_stuck, List.getElem?_cons_zero, List.getElem?_cons_succ, List.set_cons_zero, List.set_cons_succ, if_true, ite_true, ite_false, Bool.not_true, Bool.not_false, Bool.false_eq_true, if_pos, eqq_int, neq_int, eqq_bl, List.length_cons, List.length_nil, List.length_map]
        simp
    · rw [decide_eq_false h2] at q2
      by_cases h3 : w0 = Str.ofString "product"
      · rw [decide_eq_true h3] at q3
        rw [h3, tg3]
        dsimp only
        rw [l5, l6, ← h3]
        have g : decide (((rest.length : Nat) : Int) = 3) = decide (rest.length = 3) := by rw [decide_eq_decide]; omega
        have hn := all_names_spec hW (by omega)
        cases k : decide (rest.length = 3) with
        | false =>
          rw [k] at g
          simp only [e0, m__law_command, x0, x1, s5, q1, q2, q3, g, bind_okS, bind_exS, bind_stS, noEx_okS, mVar_a, mC_a, mNil_a, mCons_a, mCall_a, l1_a, l2_a, mSeq_a, mSet_a, mIf_a, mRet_a, mNext_a, mDrop_a, mB_a, mAnd_a, mOr_a, mNot_a, mAndV_a, mOrV_a, mNotV_a, mIfE_a, mLst_a, mTup_a, mNoPart_a, mPart_a, mSlice_a, mYes_a, mIt_a, mGName_a, mGNil_a, mGCons_a, mGTup_a, mApp_a, putV_a, mPar_a, parD_a, mAsgG_a, mGSub_a, toB_a, toS_a, mS1_a, mRange1_a, mRange2_a, mRange3_a, mEnum_a, mZip_a, mZipS_a, fInt_i, fInt_b, fAbs_i, fMax_i, fMin_i, fLen_l, fLen_t, opI_a, add_i, items_l, items_t, items_s, isL_a, slice_l, slice_t, fin_rt, fin_ex, fin_nx, rO_ok, rO_ex, rO_stuck, List.getElem?_cons_zero, List.getElem?_cons_succ, List.set_cons_zero, List.set_cons_succ, if_true, ite_true, ite_false, Bool.not_true, Bool.not_false, Bool.false_eq_true, if_pos, eqq_int, neq_int, eqq_bl, List.length_cons, List.length_nil, List.length_map, Bool.false_and]
        | true =>
          rw [k] at g
          simp only [e0, m__law_command, x0, x1, s5, q1, q2, q3, g, hn, bind_okS, bind_exS, bind_stS, noEx_okS, mVar_a, mC_a, mNil_a, mCons_a, mCall_a, l1_a, l2_a, mSeq_a, mSet_a, mIf_a, mRet_a, mNext_a, mDrop_a, mB_a, mAnd_a, mOr_a, mNot_a, mAndV_a, mOrV_a, mNotV_a, mIfE_a, mLst_a, mTup_a, mNoPart_a, mPart_a, mSlice_a, mYes_a, mIt_a, mGName_a, mGNil_a, mGCons_a, mGTup_a, mApp_a, putV_a, mPar_a, parD_a, mAsgG_a, mGSub_a, toB_a, toS_a, mS1_a, mRange1_a, mRange2_a, mRange3_a, mEnum_a, mZip_a, mZipS_a, fInt_i, fInt_b, fAbs_i, fMax_i, fMin_i, fLen_l, fLen_t, opI_a, add_i, items_l, items_t, items_s, isL_a, slice_l, slice_t, fin_rt, fin_ex, fin_nx, rO_ok, rO_ex, rO_stuck, List.getElem?_cons_zero, List.getElem?_cons_succ, List.set_cons_zero, List.set_cons_succ, if_true, ite_true, ite_false, Bool.not_true, Bool.not_false, Bool.false_eq_true, if_pos, eqq_int, neq_int, eqq_bl, List.length_cons, List.length_nil, List.length_map, Bool.true_and]
          match rest, of_decide_eq_true k with
          | [a, b, c], _ => simp [srt]
      · rw [decide_eq_false h3] at q3
        by_cases h4 : w0 ∈ L4
        · rw [decide_eq_true h4] at q4
          rw [tg4 w0 h4]
          dsimp only
          rw [l7, l8]
          have g : decide (((rest.length : Nat) : Int) = 5) = decide (rest.length = 5) := by rw [decide_eq_decide]; omega
          cases k : decide (rest.length = 5) with
          | false =>
            rw [k] at g
            simp only [e0, m__law_command, x0, x1, s5, s2, q1, q2, q3, q4, g, bind_okS, bind_exS, bind_stS, noEx_okS, mVar_a, mC_a, mNil_a, mCons_a, mCall_a, l1_a, l2_a, mSeq_a, mSet_a, mIf_a, mRet_a, mNext_a, mDrop_a, mB_a, mAnd_a, mOr_a, mNot_a, mAndV_a, mOrV_a, mNotV_a, mIfE_a, mLst_a, mTup_a, mNoPart_a, mPart_a, mSlice_a, mYes_a, mIt_a, mGName_a, mGNil_a, mGCons_a, mGTup_a, mApp_a, putV_a, mPar_a, parD_a, mAsgG_a, mGSub_a, toB_a, toS_a, mS1_a, mRange1_a, mRange2_a, mRange3_a, mEnum_a, mZip_a, mZipS_a, fInt_i, fInt_b, fAbs_i, fMax_i, fMin_i, fLen_l, fLen_t, opI_a, add_i, items_l, items_t, items_s, isL_a, slice_l, slice_t, fin_rt, fin_ex, fin_nx, rO_ok, rO_ex, rO_stuck, List.getElem?_cons_zero, List.getElem?_cons_succ, List.set_cons_zero, List.set_cons_succ, if_true, ite_true, ite_false, Bool.not_true, Bool.not_false, Bool.false_eq_true, if_pos, eqq_int, neq_int, eqq_bl, List.length_cons, List.length_nil, List.length_map, Bool.false_and]
          | true =>
            rw [k] at g
            match rest, of_decide_eq_true k, hW, e0, x0, x1, g with
            | [a, b, c, d, e], _, hW, e0, x0, x1, g =>
              have z1 : cutD ([a, b, c, d, e].map D.str) none (some 2) = [a, b].map .str := cut_take _ 2
              have z2 : cutD ([a, b, c, d, e].map D.str) (some 2) none = [c, d, e].map .str := cut_drop _ 2
              have n1 := all_names_spec (ws := [a, b]) (fun w hw => hW w (by simp at hw; rcases hw with q | q <;> simp [q])) (by simp)
              have n2 := all_numbers_spec (ws := [c, d, e]) (fun w hw => hW w (by simp at hw; rcases hw with q | q | q <;> simp [q])) (by simp)
              have g' : decide (((0 + 1 + 1 + 1 + 1 + 1 : Nat) : Int) = 5) = true := rfl
              cases m : [a, b].all nm with
              | false =>
                rw [m] at n1
                simp only [e0, m__law_command, x0, x1, s5, s2, q1, q2, q3, q4, g', z1, n1, bind_okS, bind_exS, bind_stS, noEx_okS, mVar_a, mC_a, mNil_a, mCons_a, mCall_a, l1_a, l2_a, mSeq_a, mSet_a, mIf_a, mRet_a, mNext_a, mDrop_a, mB_a, mAnd_a, mOr_a, mNot_a, mAndV_a, mOrV_a, mNotV_a, mIfE_a, mLst_a, mTup_a, mNoPart_a, mPart_a, mSlice_a, mYes_a, mIt_a, mGName_a, mGNil_a, mGCons_a, mGTup_a, mApp_a, putV_a, mPar_a, parD_a, mAsgG_a, mGSub_a, toB_a, toS_a, mS1_a, mRange1_a, mRange2_a, mRange3_a, mEnum_a, mZip_a, mZipS_a, fInt_i, fInt_b, fAbs_i, fMax_i, fMin_i, fLen_l, fLen_t, opI_a, add_i, items_l, items_t, items_s, isL_a, slice_l, slice_t, fin_rt, fin_ex, fin_nx, rO_ok, rO_ex, rO_stuck, List.getElem?_cons_zero, List.getElem?_cons_succ, List.set_cons_zero, List.set_cons_succ, if_true, ite_true, ite_false, Bool.not_true, Bool.not_false, Bool.false_eq_true, if_pos, eqq_int, neq_int, eqq_bl, List.length_cons, List.length_nil, List.length_map]
                simp [srt] at m ⊢
                intro ha hb
                rw [m ha] at hb; cases hb
              | true =>
                rw [m] at n1
                simp only [e0, m__law_command, x0, x1, s5, s2, q1, q2, q3, q4, g', z1, n1, z2, n2, bind_okS, bind_exS, bind_stS, noEx_okS, mVar_a, mC_a, mNil_a, mCons_a, mCall_a, l1_a, l2_a, mSeq_a, mSet_a, mIf_a, mRet_a, mNext_a, mDrop_a, mB_a, mAnd_a, mOr_a, mNot_a, mAndV_a, mOrV_a, mNotV_a, mIfE_a, mLst_a, mTup_a, mNoPart_a, mPart_a, mSlice_a, mYes_a, mIt_a, mGName_a, mGNil_a, mGCons_a, mGTup_a, mApp_a, putV_a, mPar_a, parD_a, mAsgG_a, mGSub_a, toB_a, toS_a, mS1_a, mRange1_a, mRange2_a, mRange3_a, mEnum_a, mZip_a, mZipS_a, fInt_i, fInt_b, fAbs_i, fMax_i, fMin_i, fLen_l, fLen_t, opI_a, add_i, items_l, items_t, items_s, isL_a, slice_l, slice_t, fin_rt, fin_ex, fin_nx, rO_ok, rO_ex, rO_stuck, List.getElem?_cons_zero, List.getElem?_cons_succ, List.set_cons_zero, List.set_cons_succ, if_true, ite_true, ite_false, Bool.not_true, Bool.not_false, Bool.false_eq_true, if_pos, eqq_int, neq_int, eqq_bl, List.length_cons, List.length_nil, List.length_map]
                simp at m
                simp [srt, m]
        · rw [decide_eq_false h4] at q4
          rw [tg0 h1 h2 h3 h4]
          have q0 := neq_str (h w0 List.mem_cons_self).2 (show Asc (Str.ofString "ask") from asc_lit (by decide +kernel))
          by_cases ha : w0 = Str.ofString "ask"
          · have q0' : D.neq (.str w0) (.str (Str.ofString "ask")) = .ok (.bl false) := by rw [q0, decide_eq_true ha]; rfl
            have k0 : decide (w0 = "ask") = true := decide_eq_true ha
            match rest, hW, hl, e0, x0, x1 with
            | [], _, _, e0, x0, x1 =>
              simp only [e0, m__law_command, x0, x1, s5, s2, q1, q2, q3, q4, q0', bind_okS, bind_exS, bind_stS, noEx_okS, mVar_a, mC_a, mNil_a, mCons_a, mCall_a, l1_a, l2_a, mSeq_a, mSet_a, mIf_a, mRet_a, mNext_a, mDrop_a, mB_a, mAnd_a, mOr_a, mNot_a, mAndV_a, mOrV_a, mNotV_a, mIfE_a, mLst_a, mTup_a, mNoPart_a, mPart_a, mSlice_a, mYes_a, mIt_a, mGName_a, mGNil_a, mGCons_a, mGTup_a, mApp_a, putV_a, mPar_a, parD_a, mAsgG_a, mGSub_a, toB_a, toS_a, mS1_a, mRange1_a, mRange2_a, mRange3_a, mEnum_a, mZip_a, mZipS_a, fInt_i, fInt_b, fAbs_i, fMax_i, fMin_i, fLen_l, fLen_t, opI_a, add_i, items_l, items_t, items_s, isL_a, slice_l, slice_t, fin_rt, fin_ex, fin_nx, rO_ok, rO_ex, rO_stuck, List.getElem?_cons_zero, List.getElem?_cons_succ, List.set_cons_zero, List.set_cons_succ, if_true, ite_true, ite_false, Bool.not_true, Bool.not_false, Bool.false_eq_true, if_pos, eqq_int, neq_int, eqq_bl, List.length_cons, List.length_nil, List.length_map, Bool.and_false]
              rfl
            | [a], _, _, e0, x0, x1 =>
              simp only [e0, m__law_command, x0, x1, s5, s2, q1, q2, q3, q4, q0', bind_okS, bind_exS, bind_stS, noEx_okS, mVar_a, mC_a, mNil_a, mCons_a, mCall_a, l1_a, l2_a, mSeq_a, mSet_a, mIf_a, mRet_a, mNext_a, mDrop_a, mB_a, mAnd_a, mOr_a, mNot_a, mAndV_a, mOrV_a, mNotV_a, mIfE_a, mLst_a, mTup_a, mNoPart_a, mPart_a, mSlice_a, mYes_a, mIt_a, mGName_a, mGNil_a, mGCons_a, mGTup_a, mApp_a, putV_a, mPar_a, parD_a, mAsgG_a, mGSub_a, toB_a, toS_a, mS1_a, mRange1_a, mRange2_a, mRange3_a, mEnum_a, mZip_a, mZipS_a, fInt_i, fInt_b, fAbs_i, fMax_i, fMin_i, fLen_l, fLen_t, opI_a, add_i, items_l, items_t, items_s, isL_a, slice_l, slice_t, fin_rt, fin_ex, fin_nx, rO_ok, rO_ex, rO_stuck, List.getElem?_cons_zero, List.getElem?_cons_succ, List.set_cons_zero, List.set_cons_succ, if_true, ite_true, ite_false, Bool.not_true, Bool.not_false, Bool.false_eq_true, if_pos, eqq_int, neq_int, eqq_bl, List.length_cons, List.length_nil, List.length_map, Bool.and_false]
              rfl
            | [a, b], _, _, e0, x0, x1 =>
              simp only [e0, m__law_command, x0, x1, s5, s2, q1, q2, q3, q4, q0', bind_okS, bind_exS, bind_stS, noEx_okS, mVar_a, mC_a, mNil_a, mCons_a, mCall_a, l1_a, l2_a, mSeq_a, mSet_a, mIf_a, mRet_a, mNext_a, mDrop_a, mB_a, mAnd_a, mOr_a, mNot_a, mAndV_a, mOrV_a, mNotV_a, mIfE_a, mLst_a, mTup_a, mNoPart_a, mPart_a, mSlice_a, mYes_a, mIt_a, mGName_a, mGNil_a, mGCons_a, mGTup_a, mApp_a, putV_a, mPar_a, parD_a, mAsgG_a, mGSub_a, toB_a, toS_a, mS1_a, mRange1_a, mRange2_a, mRange3_a, mEnum_a, mZip_a, mZipS_a, fInt_i, fInt_b, fAbs_i, fMax_i, fMin_i, fLen_l, fLen_t, opI_a, add_i, items_l, items_t, items_s, isL_a, slice_l, slice_t, fin_rt, fin_ex, fin_nx, rO_ok, rO_ex, rO_stuck, List.getElem?_cons_zero, List.getElem?_cons_succ, List.set_cons_zero, List.set_cons_succ, if_true, ite_true, ite_false, Bool.not_true, Bool.not_false, Bool.false_eq_true, if_pos, eqq_int, neq_int, eqq_bl, List.length_cons, List.length_nil, List.length_map, Bool.and_false]
              rfl
            | r0 :: r1 :: r2 :: r, hW, hl, e0, x0, x1 =>
              have g : decide (((r.length + 1 + 1 + 1 : Nat) : Int) < 3) = false := decide_eq_false (by omega)
              have y0 : D.ix (.lst ((r0 :: r1 :: r2 :: r).map .str)) (.int 0) = .ok (.str r0) := ix_l (atI_nat (j := 0) rfl)
              have y1 : D.ix (.lst ((r0 :: r1 :: r2 :: r).map .str)) (.int 1) = .ok (.str r1) := ix_l (atI_nat (j := 1) rfl)
              have y2 : D.ix (.lst ((r0 :: r1 :: r2 :: r).map .str)) (.int 2) = .ok (.str r2) := ix_l (atI_nat (j := 2) rfl)
              have n0 : f__law_is_name [.str r0] = .ok (.bl (nm r0)) := law_is_name_spec (hW r0 (by simp)).1
              have n2 : f__law_is_name [.str r2] = .ok (.bl (nm r2)) := law_is_name_spec (hW r2 (by simp)).1
              have hWr : Wd r := fun w hw => hW w (by simp [hw])
              have hA1 : Asc r1 := (hW r1 (by simp)).2
              have z3 : cutD ((r0 :: r1 :: r2 :: r).map D.str) (some 3) none = r.map .str := cut_drop _ 3
              have n3 := all_numbers_spec hWr (by rw [List.length_cons, List.length_cons, List.length_cons] at hl; omega)
              have sp := eqq_str hA1 (show Asc (Str.ofString "span") from asc_lit (by decide +kernel))
              have i4 := inn_lens (r.length + 1 + 1 + 1)
              have i5 := inn_pairs hA1 (r.length + 1 + 1 + 1)
              have s3 : small (0 + 1 + 1 + 1) = true := rfl
              have s4 : small (0 + 1 + 1 + 1 + 1) = true := rfl
              dsimp only
              rw [askP_val]
              cases z0 : nm r0 with
              | false =>
                rw [z0] at n0
                simp only [e0, m__law_command, x0, x1, s5, s2, q1, q2, q3, q4, q0', g, y0, n0, bind_okS, bind_exS, bind_stS, noEx_okS, mVar_a, mC_a, mNil_a, mCons_a, mCall_a, l1_a, l2_a, mSeq_a, mSet_a, mIf_a, mRet_a, mNext_a, mDrop_a, mB_a, mAnd_a, mOr_a, mNot_a, mAndV_a, mOrV_a, mNotV_a, mIfE_a, mLst_a, mTup_a, mNoPart_a, mPart_a, mSlice_a, mYes_a, mIt_a, mGName_a, mGNil_a, mGCons_a, mGTup_a, mApp_a, putV_a, mPar_a, parD_a, mAsgG_a, mGSub_a, toB_a, toS_a, mS1_a, mRange1_a, mRange2_a, mRange3_a, mEnum_a, mZip_a, mZipS_a, fInt_i, fInt_b, fAbs_i, fMax_i, fMin_i, fLen_l, fLen_t, opI_a, add_i, items_l, items_t, items_s, isL_a, slice_l, slice_t, fin_rt, fin_ex, fin_nx, rO_ok, rO_ex, rO_stuck, List.getElem?_cons_zero, List.getElem?_cons_succ, List.set_cons_zero, List.set_cons_succ, if_true, ite_true, ite_false, Bool.not_true, Bool.not_false, Bool.false_eq_true, if_pos, eqq_int, neq_int, eqq_bl, List.length_cons, List.length_nil, List.length_map, Bool.and_false, Bool.false_and]
              | true =>
                rw [z0] at n0
                cases z2 : nm r2 with
                | false =>
                  rw [z2] at n2
                  simp only [e0, m__law_command, x0, x1, s5, s2, q1, q2, q3, q4, q0', g, y0, n0, y2, n2, bind_okS, bind_exS, bind_stS, noEx_okS, mVar_a, mC_a, mNil_a, mCons_a, mCall_a, l1_a, l2_a, mSeq_a, mSet_a, mIf_a, mRet_a, mNext_a, mDrop_a, mB_a, mAnd_a, mOr_a, mNot_a, mAndV_a, mOrV_a, mNotV_a, mIfE_a, mLst_a, mTup_a, mNoPart_a, mPart_a, mSlice_a, mYes_a, mIt_a, mGName_a, mGNil_a, mGCons_a, mGTup_a, mApp_a, putV_a, mPar_a, parD_a, mAsgG_a, mGSub_a, toB_a, toS_a, mS1_a, mRange1_a, mRange2_a, mRange3_a, mEnum_a, mZip_a, mZipS_a, fInt_i, fInt_b, fAbs_i, fMax_i, fMin_i, fLen_l, fLen_t, opI_a, add_i, items_l, items_t, items_s, isL_a, slice_l, slice_t, fin_rt, fin_ex, fin_nx, rO_ok, rO_ex, rO_stuck, List.getElem?_cons_zero, List.getElem?_cons_succ, List.set_cons_zero, List.set_cons_succ, if_true, ite_true, ite_false, Bool.not_true, Bool.not_false, Bool.false_eq_true, if_pos, eqq_int, neq_int, eqq_bl, List.length_cons, List.length_nil, List.length_map, Bool.and_false, Bool.false_and]
                | true =>
                  rw [z2] at n2
                  cases z4 : r.all nu with
                  | false =>
                    rw [z4] at n3
                    simp only [e0, m__law_command, x0, x1, s5, s2, q1, q2, q3, q4, q0', g, y0, n0, y2, n2, z3, n3, bind_okS, bind_exS, bind_stS, noEx_okS, mVar_a, mC_a, mNil_a, mCons_a, mCall_a, l1_a, l2_a, mSeq_a, mSet_a, mIf_a, mRet_a, mNext_a, mDrop_a, mB_a, mAnd_a, mOr_a, mNot_a, mAndV_a, mOrV_a, mNotV_a, mIfE_a, mLst_a, mTup_a, mNoPart_a, mPart_a, mSlice_a, mYes_a, mIt_a, mGName_a, mGNil_a, mGCons_a, mGTup_a, mApp_a, putV_a, mPar_a, parD_a, mAsgG_a, mGSub_a, toB_a, toS_a, mS1_a, mRange1_a, mRange2_a, mRange3_a, mEnum_a, mZip_a, mZipS_a, fInt_i, fInt_b, fAbs_i, fMax_i, fMin_i, fLen_l, fLen_t, opI_a, add_i, items_l, items_t, items_s, isL_a, slice_l, slice_t, fin_rt, fin_ex, fin_nx, rO_ok, rO_ex, rO_stuck, List.getElem?_cons_zero, List.getElem?_cons_succ, List.set_cons_zero, List.set_cons_succ, if_true, ite_true, ite_false, Bool.not_true, Bool.not_false, Bool.false_eq_true, if_pos, eqq_int, neq_int, eqq_bl, List.length_cons, List.length_nil, List.length_map, Bool.and_false, Bool.false_and]
                  | true =>
                    rw [z4] at n3
                    by_cases hsp : r1 = Str.ofString "span"
                    · rw [decide_eq_true hsp] at sp
                      rw [if_pos hsp]
                      simp only [e0, m__law_command, x0, x1, s5, s2, s4, q1, q2, q3, q4, q0', g, y0, n0, y2, n2, z3, n3, y1, sp, i4, k0, bind_okS, bind_exS, bind_stS, noEx_okS, mVar_a, mC_a, mNil_a, mCons_a, mCall_a, l1_a, l2_a, mSeq_a, mSet_a, mIf_a, mRet_a, mNext_a, mDrop_a, mB_a, mAnd_a, mOr_a, mNot_a, mAndV_a, mOrV_a, mNotV_a, mIfE_a, mLst_a, mTup_a, mNoPart_a, mPart_a, mSlice_a, mYes_a, mIt_a, mGName_a, mGNil_a, mGCons_a, mGTup_a, mApp_a, putV_a, mPar_a, parD_a, mAsgG_a, mGSub_a, toB_a, toS_a, mS1_a, mRange1_a, mRange2_a, mRange3_a, mEnum_a, mZip_a, mZipS_a, fInt_i, fInt_b, fAbs_i, fMax_i, fMin_i, fLen_l, fLen_t, opI_a, add_i, items_l, items_t, items_s, isL_a, slice_l, slice_t, fin_rt, fin_ex, fin_nx, rO_ok, rO_ex, rO_stuck, List.getElem?_cons_zero, List.getElem?_cons_succ, List.set_cons_zero, List.set_cons_succ, if_true, ite_true, ite_false, Bool.not_true, Bool.not_false, Bool.false_eq_true, if_pos, eqq_int, neq_int, eqq_bl, List.length_cons, List.length_nil, List.length_map, Bool.and_true, Bool.true_and]
                    · rw [decide_eq_false hsp] at sp
                      rw [if_neg hsp]
                      simp only [e0, m__law_command, x0, x1, s5, s2, s3, q1, q2, q3, q4, q0', g, y0, n0, y2, n2, z3, n3, y1, sp, i5, k0, bind_okS, bind_exS, bind_stS, noEx_okS, mVar_a, mC_a, mNil_a, mCons_a, mCall_a, l1_a, l2_a, mSeq_a, mSet_a, mIf_a, mRet_a, mNext_a, mDrop_a, mB_a, mAnd_a, mOr_a, mNot_a, mAndV_a, mOrV_a, mNotV_a, mIfE_a, mLst_a, mTup_a, mNoPart_a, mPart_a, mSlice_a, mYes_a, mIt_a, mGName_a, mGNil_a, mGCons_a, mGTup_a, mApp_a, putV_a, mPar_a, parD_a, mAsgG_a, mGSub_a, toB_a, toS_a, mS1_a, mRange1_a, mRange2_a, mRange3_a, mEnum_a, mZip_a, mZipS_a, fInt_i, fInt_b, fAbs_i, fMax_i, fMin_i, fLen_l, fLen_t, opI_a, add_i, items_l, items_t, items_s, isL_a, slice_l, slice_t, fin_rt, fin_ex, fin_nx, rO_ok, rO_ex, rO_stuck, List.getElem?_cons_zero, List.getElem?_cons_succ, List.set_cons_zero, List.set_cons_succ, if_true, ite_true, ite_false, Bool.not_true, Bool.not_false, Bool.false_eq_true, if_pos, eqq_int, neq_int, eqq_bl, List.length_cons, List.length_nil, List.length_map, Bool.and_true, Bool.true_and]
          · have q0' : D.neq (.str w0) (.str (Str.ofString "ask")) = .ok (.bl true) := by rw [q0, decide_eq_false ha]; rfl
            simp only [e0, m__law_command, x0, x1, s5, s2, q1, q2, q3, q4, q0', bind_okS, bind_exS, bind_stS, noEx_okS, mVar_a, mC_a, mNil_a, mCons_a, mCall_a, l1_a, l2_a, mSeq_a, mSet_a, mIf_a, mRet_a, mNext_a, mDrop_a, mB_a, mAnd_a, mOr_a, mNot_a, mAndV_a, mOrV_a, mNotV_a, mIfE_a, mLst_a, mTup_a, mNoPart_a, mPart_a, mSlice_a, mYes_a, mIt_a, mGName_a, mGNil_a, mGCons_a, mGTup_a, mApp_a, putV_a, mPar_a, parD_a, mAsgG_a, mGSub_a, toB_a, toS_a, mS1_a, mRange1_a, mRange2_a, mRange3_a, mEnum_a, mZip_a, mZipS_a, fInt_i, fInt_b, fAbs_i, fMax_i, fMin_i, fLen_l, fLen_t, opI_a, add_i, items_l, items_t, items_s, isL_a, slice_l, slice_t, fin_rt, fin_ex, fin_nx, rO_ok, rO_ex, rO_stuck, List.getElem?_cons_zero, List.getElem?_cons_succ, List.set_cons_zero, List.set_cons_succ, if_true, ite_true, ite_false, Bool.not_true, Bool.not_false, Bool.false_eq_true, if_pos, eqq_int, neq_int, eqq_bl, List.length_cons, List.length_nil, List.length_map, decide_eq_false ha, Bool.false_and]
end Mi
namespace Mi
open PySem L2
def GoodC (l : List Nat) : Prop := ∀ c ∈ l, c < 128 ∧ c ≠ 32
def Good (w : Str) : Prop := 1 ≤ w.length ∧ w.length ≤ 40 ∧ GoodC w.cps.toList
theorem Good.asc {w : Str} (h : Good w) : Asc w := fun c hc => (h.2.2 c hc).1
theorem good_wd {ws : List Str} (h : ∀ w ∈ ws, Good w) : Wd ws := fun w hw => ⟨by have := (h w hw).2.1; omega, (h w hw).asc⟩
theorem lc_ex {i : Nat} {e : ME} {ρ : Rho} {P : Str → Prop} : ∀ {ds : List D}, (∀ d ∈ ds, ∃ w, e (ρ.set i (some d)) = .ok (.str w) ∧ P w) → ∃ ws : List Str, lcGo (mGName i) mYes e ρ ds = .ok (ws.map .str) ∧ ws.length = ds.length ∧ ∀ w ∈ ws, P w
  | [], _ => ⟨[], rfl, rfl, fun w h => nomatch h⟩
  | d :: ds, h => by
    obtain ⟨w, h1, h2⟩ := h d List.mem_cons_self
    obtain ⟨ws, h3, h4, h5⟩ := lc_ex (ds := ds) fun d hd => h d (List.mem_cons_of_mem _ hd)
    refine ⟨w :: ws, ?_, by rw [List.length_cons, List.length_cons, h4], fun v hv => (List.mem_cons.mp hv).elim (fun q => q ▸ h2) (h5 v)⟩
    show ((noEx (e (ρ.set i (some d)))).bind fun y => (lcGo (mGName i) mYes e ρ ds).bind fun r => R.ok (y :: r)) = _
    rw [h1, noEx_okS, bind_okS, h3, bind_okS]; rfl
theorem lc_exS {it : MI} {i : Nat} {e : ME} {vs : List Nat} {ρ : Rho} {P : Str → Prop} {ds : List D} (hi : it ρ = .ok ds) (hs : ds.length ≤ 100000) (h : ∀ d ∈ ds, ∃ w, e ((wipeR ρ vs).set i (some d)) = .ok (.str w) ∧ P w) :
    ∃ ws : List Str, mLc it (mGName i) mYes e vs ρ = .ok (.lst (ws.map .str)) ∧ ws.length = ds.length ∧ ∀ w ∈ ws, P w := by
  obtain ⟨ws, h1, h2, h3⟩ := lc_ex h
  refine ⟨ws, ?_, h2, h3⟩
  unfold mLc
  rw [hi, bind_okS, if_pos (small_of hs), h1, bind_okS]
theorem atI_ex {α : Type} {xs : List α} {k : Int} (h0 : 0 ≤ k) (h1 : k < xs.length) : ∃ x ∈ xs, atI xs k = some x := by
  have hk : k.toNat < xs.length := by omega
  refine ⟨xs[k.toNat], List.getElem_mem hk, ?_⟩
  have := atI_nat (xs := xs) (j := k.toNat) (List.getElem?_eq_getElem hk)
  rwa [show ((k.toNat : Nat) : Int) = k by omega] at this
abbrev LET : Str := "abcdefghijklmnopqrstuvwxyz0123456789"
theorem ix_let {k : Int} (h0 : 0 ≤ k) (h1 : k < 36) : ∃ c, D.ix (.str LET) (.int k) = .ok (.str ⟨#[c]⟩) ∧ c ∈ letL ++ digL := by
  obtain ⟨c, hc, he⟩ := atI_ex (xs := LET.cps.toList) h0 (by rw [nam_e]; exact h1)
  refine ⟨c, ?_, by rw [← nam_e]; exact hc⟩
  show (if small LET.length then (oR (atI LET.cps.toList k)).bind fun c => R.ok (D.str ⟨#[c]⟩) else .stuck) = _
  rw [he, if_pos (by decide +kernel)]; rfl
theorem nam_good : ∀ c ∈ letL ++ digL, c < 128 ∧ c ≠ 32 := by decide +kernel
theorem joinL_nil : ∀ ls : List (List Nat), TL.joinL [] ls = ls.flatten
  | [] => rfl
  | [p] => by simp [TL.joinL]
  | p :: q :: r => by
    have := joinL_nil (q :: r)
    show p ++ ([] ++ TL.joinL [] (q :: r)) = _
    rw [this]; rfl
theorem join_empty (ys : List Str) : (Txt.join (Str.ofString "") ys).cps.toList = (ys.map fun y => y.cps.toList).flatten := by
  have   := TL.tl_join (Str.ofString "") ys
  rw [TL.join_eq]
  exact this.trans (joinL_nil _)
theorem fjoin_ok {ys : List Str} (hl : ys.length ≤ 1000) (h : ∀ y ∈ ys, ∃ c, y = ⟨#[c]⟩ ∧ c ∈ letL ++ digL) : ∃ w, fJoin (Str.ofString "") (.lst (ys.map .str)) = .ok (.str w) ∧ w.length = ys.length ∧ GoodC w.cps.toList := by
  have hsum : (ys.map (·.length)).sum = ys.length := by
    clear hl
    induction ys with
    | nil => rfl
    | cons y ys ih =>
      obtain ⟨c, e, _⟩ := h y List.mem_cons_self
      rw [List.map_cons, List.sum_cons, ih fun z hz => h z (List.mem_cons_of_mem _ hz), e, List.length_cons]
      show 1 + ys.length = _
      omega
  refine ⟨Txt.join (Str.ofString "") ys, ?_, ?_, fun c hc => ?_⟩
  · show (match strsOf (ys.map D.str) with | some ys => if Nat.ble ((ys.map (fun y : Str => y.length)).sum + ys.length * (Str.ofString "").length) 16777216 then R.ok (D.str (Txt.join (Str.ofString "") ys)) else .stuck | none => .stuck) = _
    rw [strsOf_map]
    dsimp only
    rw [hsum, lens_ok.1, Nat.mul_zero, Nat.add_zero, if_pos (Nat.ble_eq_true_of_le (by omega))]
  · rw [len_tl, join_empty, List.length_flatten, List.map_map]
    exact hsum
  · rw [join_empty] at hc
    obtain ⟨l, hl', hcl⟩ := List.mem_flatten.mp hc
    obtain ⟨y, hy, rfl⟩ := List.mem_map.mp hl'
    obtain ⟨d, e, hd⟩ := h y hy
    subst e
    have : c = d := by simpa using hcl
    subst this
    exact nam_good c hd
theorem tl_app (a b : Str) : (a ++ b).cps.toList = a.cps.toList ++ b.cps.toList := by
  show (a.cps ++ b.cps).toList = _
  exact Array.toList_append
theorem len_app (a b : Str) : (a ++ b).length = a.length + b.length := by rw [len_tl, len_tl, len_tl, tl_app, List.length_append]
theorem add_s {a b : Str} (h : a.length + b.length ≤ 100000) : D.add (.str a) (.str b) = .ok (.str (a ++ b)) := by
  show (if small (a.length + b.length) then R.ok (D.str (a ++ b)) else .stuck) = _
  rw [if_pos (small_of h)]
theorem GoodC.app {a b : List Nat} (ha : GoodC a) (hb : GoodC b) : GoodC (a ++ b) := fun c hc => (List.mem_append.mp hc).elim (ha c) (hb c)
def WL : List Str := ["square", "product", "turn", "switch", "remove", "drop", "answer", "answers", "print", "squares", "questions", "undo", "redo", "ask", "order", "sign", "span", "mate", "end", "7"]
theorem WL_good : ∀ w ∈ WL, Good w := by
  have : WL.all (fun w => decide (1 ≤ w.length) && (decide (w.length ≤ 40) && w.cps.toList.all fun c => decide (c < 128) && decide (c ≠ 32))) = true := by decide +kernel
  intro w hw
  have := List.all_eq_true.mp this w hw
  rw [Bool.and_eq_true, Bool.and_eq_true] at this
  refine ⟨of_decide_eq_true this.1, of_decide_eq_true this.2.1, fun c hc => ?_⟩
  have := List.all_eq_true.mp this.2.2 c hc
  rw [Bool.and_eq_true] at this
  exact ⟨of_decide_eq_true this.1, of_decide_eq_true this.2⟩
theorem ix_nums {xs : List Int} {k : Int} (h0 : 0 ≤ k) (h1 : k < xs.length) (hx : ∀ x ∈ xs, nOk x) : ∃ x, D.ix (.lst (xs.map .int)) (.int k) = .ok (.int x) ∧ nOk x := by
  obtain ⟨d, hd, he⟩ := atI_ex (xs := xs.map D.int) h0 (by rw [List.length_map]; exact h1)
  obtain ⟨x, hxm, rfl⟩ := List.mem_map.mp hd
  exact ⟨x, ix_l he, hx x hxm⟩
theorem ix_t {ds : List D} {i : Int} {x : D} (h : atI ds i = some x) : D.ix (.tup ds) (.int i) = .ok x := by
  show oR (atI ds i) = _
  rw [h]; rfl
theorem pick_t {zs : List Str} {k : Int} (h0 : 0 ≤ k) (h1 : k < zs.length) : ∃ w ∈ zs, D.ix (.tup (zs.map .str)) (.int k) = .ok (.str w) := by
  obtain ⟨d, hd, he⟩ := atI_ex (xs := zs.map D.str) h0 (by rw [List.length_map]; exact h1)
  obtain ⟨w, hw, rfl⟩ := List.mem_map.mp hd
  exact ⟨w, hw, ix_t he⟩
theorem pick_l {zs : List Str} {k : Int} (h0 : 0 ≤ k) (h1 : k < zs.length) : ∃ w ∈ zs, D.ix (.lst (zs.map .str)) (.int k) = .ok (.str w) := by
  obtain ⟨d, hd, he⟩ := atI_ex (xs := zs.map D.str) h0 (by rw [List.length_map]; exact h1)
  obtain ⟨w, hw, rfl⟩ := List.mem_map.mp hd
  exact ⟨w, hw, ix_l he⟩
end Mi
namespace Mi
open PySem L2
theorem l2_ok {f : D → D → R D} {a b : ME} {ρ : Rho} {x y z : D} (ha : a ρ = .ok x) (hb : b ρ = .ok y) (hf : f x y = .ok z) : l2 f a b ρ = .ok z := by
  show ((a ρ).bind fun x => (b ρ).bind fun y => f x y) = _
  rw [ha, bind_okS, hb, bind_okS, hf]
theorem int_ok {a : ME} {ρ : Rho} {i : Int} (ha : a ρ = .ok (.int i)) : mCall fInt (mCons a mNil) ρ = .ok (.int i) := by
  show ((a ρ).bind fun d => (R.ok []).bind fun ds => R.ok (d :: ds)).bind fInt = _
  rw [ha]; rfl
theorem slice_s {z : Str} {lo hi : Option Int} (h : z.length ≤ 100000) : (D.str z).slice lo hi = .ok (.str (cutS z lo hi)) := by
  show (if small z.length then R.ok (D.str (cutS z lo hi)) else .stuck) = _
  rw [if_pos (small_of h)]
theorem cutS_mem {z : Str} {lo hi : Option Int} {c : Nat} (h : c ∈ (cutS z lo hi).cps.toList) : c ∈ z.cps.toList := List.mem_of_mem_drop (List.mem_of_mem_take h)
theorem cutS_len {z : Str} {lo hi : Option Int} : (cutS z lo hi).length ≤ z.length := by
  rw [len_tl, len_tl]
  show ((z.cps.toList.drop _).take _).length ≤ _
  rw [List.length_take, List.length_drop]
  omega
theorem under_good : GoodC (Str.ofString "_").cps.toList ∧ (Str.ofString "_").length = 1 := by
  have h : (Str.ofString "_").cps.toList = [95] ∧ (Str.ofString "_").length = 1 := by decide +kernel
  refine ⟨?_, h.2⟩
  rw [h.1]
  intro c hc
  have : c = 95 := by simpa using hc
  subst this; exact ⟨by omega, by omega⟩
def SG : List Str := ["", "", "", "-"]
theorem SG_good : ∀ w ∈ SG, GoodC w.cps.toList ∧ w.length ≤ 1 := by
  have : SG.all (fun w => (decide (w.length ≤ 1) && w.cps.toList.all fun c => decide (c < 128) && decide (c ≠ 32))) = true := by decide +kernel
  intro w hw
  have := List.all_eq_true.mp this w hw
  rw [Bool.and_eq_true] at this
  refine ⟨fun c hc => ?_, of_decide_eq_true this.1⟩
  have := List.all_eq_true.mp this.2 c hc
  rw [Bool.and_eq_true] at this
  exact ⟨of_decide_eq_true this.1, of_decide_eq_true this.2⟩
theorem let_good {c : Nat} (h : c ∈ letL ++ digL) : GoodC (⟨#[c]⟩ : Str).cps.toList := fun x hx => by
  have : x = c := by simpa using hx
  subst this; exact nam_good x h
theorem word_1 {n m sz : Int} (hn0 : 0 ≤ n) (hn1 : n < 1009) (hm0 : 0 ≤ m) (hm1 : m < 1009) (hs0 : 0 ≤ sz ∧ sz ≤ 6) (h1 : n % 4 = 1) : ∃ w, fin false ((mSeq (mIf (mB (l2 D.eqq (l2 D.mod (mCall fInt (mCons (mVar 0) mNil)) (mC (.int 4))) (mC (.int 1)))) (mSeq (mSet 5 (l2 D.add (l2 D.add (mC (.int 1)) (mVar 4)) (l2 D.mul (mC (.int 26)) (mCall fInt (mCons (l2 D.eqq (l2 D.mod (mCall fInt (mCons (mVar 1) mNil)) (mC (.int 5))) (mC (.int 0))) mNil))))) (mSeq (mSet 6 (mS1 fJoin (mC (.str "")) (mLc (mRange1 (mCons (mVar 5) mNil)) (mGName 8) mYes (l2 D.ix (mVar 3) (l2 D.add (mC (.int 26)) (l2 D.mod (mCall fInt (mCons (l2 D.add (l2 D.add (mVar 1) (l2 D.mul (l2 D.mul (mVar 8) (mVar 8)) (mC (.int 3)))) (l2 D.fdiv (mVar 0) (mC (.int 28)))) mNil)) (mC (.int 10))))) [8]))) (mRet (l2 D.add (l2 D.ix (mTup (mCons (mC (.str "")) (mCons (mC (.str "")) (mCons (mC (.str "")) (mCons (mC (.str "-")) mNil))))) (l2 D.mod (mCall fInt (mCons (mVar 1) mNil)) (mC (.int 4)))) (mVar 6))))) mNext) (mSeq (mSet 7 (l2 D.add (l2 D.ix (mVar 3) (l2 D.mod (mCall fInt (mCons (mVar 1) mNil)) (mC (.int 36)))) (mS1 fJoin (mC (.str "")) (mLc (mRange1 (mCons (l2 D.mul (mVar 4) (mC (.int 2))) mNil)) (mGName 8) mYes (l2 D.ix (mVar 3) (l2 D.mod (mCall fInt (mCons (l2 D.add (l2 D.add (mVar 1) (l2 D.mul (l2 D.mul (mC (.int 11)) (mVar 8)) (mVar 0))) (mVar 8)) mNil)) (mC (.int 36)))) [8])))) (mSeq (mIf (mB (l2 D.eqq (l2 D.mod (mCall fInt (mCons (mVar 1) mNil)) (mC (.int 9))) (mC (.int 0)))) (mRet (l2 D.add (l2 D.add (mSlice (mVar 7) mNoPart (mPart (mC (.int 2)))) (mC (.str "_"))) (mSlice (mVar 7) (mPart (mC (.int 2))) mNoPart))) mNext) (mRet (mVar 7))))) [some (.int n), some (.int m), some (.tup (WL.map .str)), some (.str LET), some (.int sz), none, none, none, none]) = .ok (.str w) ∧ Good w := by
  have m4 : D.mod (.int n) (.int 4) = .ok (.int (n % 4)) := rfl
  have g1 : decide (n % 4 = 1) = true := decide_eq_true h1
  obtain ⟨lg, hlg⟩ : ∃ lg, lg = 1 + sz + 26 * (if decide (m % 5 = 0) then (1 : Int) else 0) := ⟨_, rfl⟩
  have hlg0 : 1 ≤ lg ∧ lg ≤ 33 := by
    rw [hlg]
    cases decide (m % 5 = 0) <;> simp <;> omega
  obtain ⟨ws, w1, w2, w3⟩ := lc_exS (it := mRange1 (mCons (mVar 5) mNil)) (i := 8) (e := (l2 D.ix (mVar 3) (l2 D.add (mC (.int 26)) (l2 D.mod (mCall fInt (mCons (l2 D.add (l2 D.add (mVar 1) (l2 D.mul (l2 D.mul (mVar 8) (mVar 8)) (mC (.int 3)))) (l2 D.fdiv (mVar 0) (mC (.int 28)))) mNil)) (mC (.int 10)))))) (vs := [8])
    (ρ := [some (.int n), some (.int m), some (.tup (WL.map .str)), some (.str LET), some (.int sz), some (.int lg), none, none, none]) (P := fun y => ∃ c, y = ⟨#[c]⟩ ∧ c ∈ letL ++ digL)
    (rg1_of (n := lg) (by omega) (by omega)) (by rw [List.length_map, List.length_range]; omega) (fun d hd => by
      obtain ⟨k, hk, rfl⟩ := List.mem_map.mp hd
      have hk2 : k < 33 := by have := List.mem_range.mp hk; omega
      obtain ⟨x, hx⟩ : ∃ x : Int, x = m + (k : Int) * k * 3 + n / 28 := ⟨_, rfl⟩
      obtain ⟨c, hc, hcm⟩ := ix_let (k := 26 + x % 10) (by omega) (by omega)
      refine ⟨⟨#[c]⟩, ?_, c, rfl, hcm⟩
      have p1 : D.mul (.int (k : Int)) (.int (k : Int)) = .ok (.int ((k : Int) * k)) := mul_i (.inl (in64_of (by omega) (by omega)))
      have p2 : D.mul (.int ((k : Int) * k)) (.int 3) = .ok (.int ((k : Int) * k * 3)) := mul_i (.inr (by decide))
      have p3 : D.fdiv (.int n) (.int 28) = .ok (.int (n / 28)) := rfl
      have p4 : D.mod (.int x) (.int 10) = .ok (.int (x % 10)) := rfl
      rw [hx] at p4 hc
      exact l2_ok rfl (l2_ok rfl (l2_ok (int_ok (l2_ok (l2_ok rfl (l2_ok (l2_ok rfl rfl p1) rfl p2) rfl) (l2_ok rfl rfl p3) rfl)) rfl p4) rfl) hc)
  rw [List.length_map, List.length_range] at w2
  obtain ⟨fg, f1, f2, f3⟩ := fjoin_ok (ys := ws) (by omega) w3
  obtain ⟨sg, s1, s2⟩ := pick_t (zs := SG) (k := m % 4) (by omega) (by show _ < (4 : Int); omega)
  obtain ⟨s3, s4⟩ := SG_good sg s1
  have hfl : fg.length ≤ 33 := by omega
  refine ⟨sg ++ fg, ?_, by rw [len_app]; omega, by rw [len_app]; omega, by rw [tl_app]; exact s3.app f3⟩
  have q1 : D.mod (.int m) (.int 5) = .ok (.int (m % 5)) := rfl
  have q2 : D.mul (.int 26) (.int (if decide (m % 5 = 0) then (1 : Int) else 0)) = .ok (.int (26 * (if decide (m % 5 = 0) then (1 : Int) else 0))) := mul_i (.inl (by decide))
  have q3 : D.mod (.int m) (.int 4) = .ok (.int (m % 4)) := rfl
  have q4 : D.add (.str sg) (.str fg) = .ok (.str (sg ++ fg)) := add_s (by omega)
  have q5 : D.ix (.tup [.str "", .str "", .str "", .str "-"]) (.int (m % 4)) = .ok (.str sg) := s2
  have q6 : small (0 + 1 + 1 + 1 + 1) = true := rfl
  simp only [m4, g1, q1, q2, ← hlg, w1, f1, q3, q4, q5, q6, bind_okS, bind_exS, bind_stS, noEx_okS, mVar_a, mC_a, mNil_a, mCons_a, mCall_a, l1_a, l2_a, mSeq_a, mSet_a, mIf_a, mRet_a, mNext_a, mDrop_a, mB_a, mAnd_a, mOr_a, mNot_a, mAndV_a, mOrV_a, mNotV_a, mIfE_a, mLst_a, mTup_a, mNoPart_a, mPart_a, mSlice_a, mYes_a, mIt_a, mGName_a, mGNil_a, mGCons_a, mGTup_a, mApp_a, putV_a, mPar_a, parD_a, mAsgG_a, mGSub_a, toB_a, toS_a, mS1_a, mRange1_a, mRange2_a, mRange3_a, mEnum_a, mZip_a, mZipS_a, fInt_i, fInt_b, fAbs_i, fMax_i, fMin_i, fLen_l, fLen_t, add_i, items_l, items_t, items_s, isL_a, slice_l, slice_t, fin_rt, fin_ex, fin_nx, rO_ok, rO_ex, rO_stuck, List.getElem?_cons_zero, List.getElem?_cons_succ, List.set_cons_zero, List.set_cons_succ, if_true, ite_true, ite_false, Bool.not_true, Bool.not_false, Bool.false_eq_true, if_pos, eqq_int, neq_int, eqq_bl, List.length_cons, List.length_nil, List.length_map]
theorem word_2 {n m sz : Int} (hn0 : 0 ≤ n) (hn1 : n < 1009) (hm0 : 0 ≤ m) (hm1 : m < 1009) (hs0 : 0 ≤ sz ∧ sz ≤ 6) (h1 : ¬ n % 4 = 1) : ∃ w, fin false ((mSeq (mIf (mB (l2 D.eqq (l2 D.mod (mCall fInt (mCons (mVar 0) mNil)) (mC (.int 4))) (mC (.int 1)))) (mSeq (mSet 5 (l2 D.add (l2 D.add (mC (.int 1)) (mVar 4)) (l2 D.mul (mC (.int 26)) (mCall fInt (mCons (l2 D.eqq (l2 D.mod (mCall fInt (mCons (mVar 1) mNil)) (mC (.int 5))) (mC (.int 0))) mNil))))) (mSeq (mSet 6 (mS1 fJoin (mC (.str "")) (mLc (mRange1 (mCons (mVar 5) mNil)) (mGName 8) mYes (l2 D.ix (mVar 3) (l2 D.add (mC (.int 26)) (l2 D.mod (mCall fInt (mCons (l2 D.add (l2 D.add (mVar 1) (l2 D.mul (l2 D.mul (mVar 8) (mVar 8)) (mC (.int 3)))) (l2 D.fdiv (mVar 0) (mC (.int 28)))) mNil)) (mC (.int 10))))) [8]))) (mRet (l2 D.add (l2 D.ix (mTup (mCons (mC (.str "")) (mCons (mC (.str "")) (mCons (mC (.str "")) (mCons (mC (.str "-")) mNil))))) (l2 D.mod (mCall fInt (mCons (mVar 1) mNil)) (mC (.int 4)))) (mVar 6))))) mNext) (mSeq (mSet 7 (l2 D.add (l2 D.ix (mVar 3) (l2 D.mod (mCall fInt (mCons (mVar 1) mNil)) (mC (.int 36)))) (mS1 fJoin (mC (.str "")) (mLc (mRange1 (mCons (l2 D.mul (mVar 4) (mC (.int 2))) mNil)) (mGName 8) mYes (l2 D.ix (mVar 3) (l2 D.mod (mCall fInt (mCons (l2 D.add (l2 D.add (mVar 1) (l2 D.mul (l2 D.mul (mC (.int 11)) (mVar 8)) (mVar 0))) (mVar 8)) mNil)) (mC (.int 36)))) [8])))) (mSeq (mIf (mB (l2 D.eqq (l2 D.mod (mCall fInt (mCons (mVar 1) mNil)) (mC (.int 9))) (mC (.int 0)))) (mRet (l2 D.add (l2 D.add (mSlice (mVar 7) mNoPart (mPart (mC (.int 2)))) (mC (.str "_"))) (mSlice (mVar 7) (mPart (mC (.int 2))) mNoPart))) mNext) (mRet (mVar 7))))) [some (.int n), some (.int m), some (.tup (WL.map .str)), some (.str LET), some (.int sz), none, none, none, none]) = .ok (.str w) ∧ Good w := by
  have m4 : D.mod (.int n) (.int 4) = .ok (.int (n % 4)) := rfl
  have g1 : decide (n % 4 = 1) = false := decide_eq_false h1
  have e2 : fin false ((mSeq (mIf (mB (l2 D.eqq (l2 D.mod (mCall fInt (mCons (mVar 0) mNil)) (mC (.int 4))) (mC (.int 1)))) (mSeq (mSet 5 (l2 D.add (l2 D.add (mC (.int 1)) (mVar 4)) (l2 D.mul (mC (.int 26)) (mCall fInt (mCons (l2 D.eqq (l2 D.mod (mCall fInt (mCons (mVar 1) mNil)) (mC (.int 5))) (mC (.int 0))) mNil))))) (mSeq (mSet 6 (mS1 fJoin (mC (.str "")) (mLc (mRange1 (mCons (mVar 5) mNil)) (mGName 8) mYes (l2 D.ix (mVar 3) (l2 D.add (mC (.int 26)) (l2 D.mod (mCall fInt (mCons (l2 D.add (l2 D.add (mVar 1) (l2 D.mul (l2 D.mul (mVar 8) (mVar 8)) (mC (.int 3)))) (l2 D.fdiv (mVar 0) (mC (.int 28)))) mNil)) (mC (.int 10))))) [8]))) (mRet (l2 D.add (l2 D.ix (mTup (mCons (mC (.str "")) (mCons (mC (.str "")) (mCons (mC (.str "")) (mCons (mC (.str "-")) mNil))))) (l2 D.mod (mCall fInt (mCons (mVar 1) mNil)) (mC (.int 4)))) (mVar 6))))) mNext) (mSeq (mSet 7 (l2 D.add (l2 D.ix (mVar 3) (l2 D.mod (mCall fInt (mCons (mVar 1) mNil)) (mC (.int 36)))) (mS1 fJoin (mC (.str "")) (mLc (mRange1 (mCons (l2 D.mul (mVar 4) (mC (.int 2))) mNil)) (mGName 8) mYes (l2 D.ix (mVar 3) (l2 D.mod (mCall fInt (mCons (l2 D.add (l2 D.add (mVar 1) (l2 D.mul (l2 D.mul (mC (.int 11)) (mVar 8)) (mVar 0))) (mVar 8)) mNil)) (mC (.int 36)))) [8])))) (mSeq (mIf (mB (l2 D.eqq (l2 D.mod (mCall fInt (mCons (mVar 1) mNil)) (mC (.int 9))) (mC (.int 0)))) (mRet (l2 D.add (l2 D.add (mSlice (mVar 7) mNoPart (mPart (mC (.int 2)))) (mC (.str "_"))) (mSlice (mVar 7) (mPart (mC (.int 2))) mNoPart))) mNext) (mRet (mVar 7))))) [some (.int n), some (.int m), some (.tup (WL.map .str)), some (.str LET), some (.int sz), none, none, none, none]) = fin false ((mSeq (mSet 7 (l2 D.add (l2 D.ix (mVar 3) (l2 D.mod (mCall fInt (mCons (mVar 1) mNil)) (mC (.int 36)))) (mS1 fJoin (mC (.str "")) (mLc (mRange1 (mCons (l2 D.mul (mVar 4) (mC (.int 2))) mNil)) (mGName 8) mYes (l2 D.ix (mVar 3) (l2 D.mod (mCall fInt (mCons (l2 D.add (l2 D.add (mVar 1) (l2 D.mul (l2 D.mul (mC (.int 11)) (mVar 8)) (mVar 0))) (mVar 8)) mNil)) (mC (.int 36)))) [8])))) (mSeq (mIf (mB (l2 D.eqq (l2 D.mod (mCall fInt (mCons (mVar 1) mNil)) (mC (.int 9))) (mC (.int 0)))) (mRet (l2 D.add (l2 D.add (mSlice (mVar 7) mNoPart (mPart (mC (.int 2)))) (mC (.str "_"))) (mSlice (mVar 7) (mPart (mC (.int 2))) mNoPart))) mNext) (mRet (mVar 7)))) [some (.int n), some (.int m), some (.tup (WL.map .str)), some (.str LET), some (.int sz), none, none, none, none]) := by
    simp only [m4, g1, mSeq_a, mIf_a, mB_a, l2_a, mCall_a, mCons_a, mNil_a, mVar_a, mC_a, fInt_i, bind_okS, List.getElem?_cons_zero, eqq_int, toB_a, rO_ok, mNext_a, if_false, Bool.false_eq_true]
  obtain ⟨ws, w1, w2, w3⟩ := lc_exS (it := mRange1 (mCons (l2 D.mul (mVar 4) (mC (.int 2))) mNil)) (i := 8) (e := (l2 D.ix (mVar 3) (l2 D.mod (mCall fInt (mCons (l2 D.add (l2 D.add (mVar 1) (l2 D.mul (l2 D.mul (mC (.int 11)) (mVar 8)) (mVar 0))) (mVar 8)) mNil)) (mC (.int 36))))) (vs := [8])
    (ρ := [some (.int n), some (.int m), some (.tup (WL.map .str)), some (.str LET), some (.int sz), none, none, none, none]) (ds := (List.range (sz * 2).toNat).map fun i => D.int (i : Nat)) (P := fun y => ∃ c, y = ⟨#[c]⟩ ∧ c ∈ letL ++ digL)
    (by
      have p : D.mul (.int sz) (.int 2) = .ok (.int (sz * 2)) := mul_i (.inr (by decide))
      have r := rg1_of (n := sz * 2) (by omega) (by omega)
      simp only [p, r, bind_okS, bind_exS, bind_stS, noEx_okS, mVar_a, mC_a, mNil_a, mCons_a, mCall_a, l1_a, l2_a, mSeq_a, mSet_a, mIf_a, mRet_a, mNext_a, mDrop_a, mB_a, mAnd_a, mOr_a, mNot_a, mAndV_a, mOrV_a, mNotV_a, mIfE_a, mLst_a, mTup_a, mNoPart_a, mPart_a, mSlice_a, mYes_a, mIt_a, mGName_a, mGNil_a, mGCons_a, mGTup_a, mApp_a, putV_a, mPar_a, parD_a, mAsgG_a, mGSub_a, toB_a, toS_a, mS1_a, mRange1_a, mRange2_a, mRange3_a, mEnum_a, mZip_a, mZipS_a, fInt_i, fInt_b, fAbs_i, fMax_i, fMin_i, fLen_l, fLen_t, add_i, items_l, items_t, items_s, isL_a, slice_l, slice_t, fin_rt, fin_ex, fin_nx, rO_ok, rO_ex, rO_stuck, List.getElem?_cons_zero, List.getElem?_cons_succ, List.set_cons_zero, List.set_cons_succ, if_true, ite_true, ite_false, Bool.not_true, Bool.not_false, Bool.false_eq_true, if_pos, eqq_int, neq_int, eqq_bl, List.length_cons, List.length_nil, List.length_map]) (by rw [List.length_map, List.length_range]; omega) (fun d hd => by
      obtain ⟨k, hk, rfl⟩ := List.mem_map.mp hd
      have hk2 : k < 33 := by have := List.mem_range.mp hk; omega
      obtain ⟨x, hx⟩ : ∃ x : Int, x = m + 11 * (k : Int) * n + k := ⟨_, rfl⟩
      obtain ⟨c, hc, hcm⟩ := ix_let (k := x % 36) (by omega) (by omega)
      refine ⟨⟨#[c]⟩, ?_, c, rfl, hcm⟩
      have p1 : D.mul (.int 11) (.int (k : Int)) = .ok (.int (11 * (k : Int))) := mul_i (.inl (by decide))
      have p2 : D.mul (.int (11 * (k : Int))) (.int n) = .ok (.int (11 * (k : Int) * n)) := mul_i (.inr (in64_of (by omega) (by omega)))
      have p4 : D.mod (.int x) (.int 36) = .ok (.int (x % 36)) := rfl
      rw [hx] at p4 hc
      exact l2_ok rfl (l2_ok (int_ok (l2_ok (l2_ok rfl (l2_ok (l2_ok rfl rfl p1) rfl p2) rfl) rfl rfl)) rfl p4) hc)
  rw [List.length_map, List.length_range] at w2
  obtain ⟨fg, f1, f2, f3⟩ := fjoin_ok (ys := ws) (by omega) w3
  obtain ⟨c, hc, hcm⟩ := ix_let (k := m % 36) (by omega) (by omega)
  have hfl : fg.length ≤ 12 := by omega
  have hcl : (⟨#[c]⟩ : Str).length = 1 := rfl
  obtain ⟨v, hv⟩ : ∃ v : Str, v = ⟨#[c]⟩ ++ fg := ⟨_, rfl⟩
  have hvl : v.length = 1 + fg.length := by rw [hv, len_app, hcl]
  have hvg : GoodC v.cps.toList := by rw [hv, tl_app]; exact (let_good hcm).app f3
  have q3 : D.mod (.int m) (.int 36) = .ok (.int (m % 36)) := rfl
  have q4 : D.add (.str ⟨#[c]⟩) (.str fg) = .ok (.str v) := by rw [hv]; exact add_s (by rw [hcl]; omega)
  have q9 : D.mod (.int m) (.int 9) = .ok (.int (m % 9)) := rfl
  by_cases h9 : m % 9 = 0
  · have g9 : decide (m % 9 = 0) = true := decide_eq_true h9
    have a1 := slice_s (z := v) (lo := none) (hi := some 2) (by omega)
    have a2 := slice_s (z := v) (lo := some 2) (hi := none) (by omega)
    have b1 := cutS_len (z := v) (lo := none) (hi := some 2)
    have b2 := cutS_len (z := v) (lo := some 2) (hi := none)
    obtain ⟨u1, u2⟩ := under_good
    have c1 : D.add (.str (cutS v none (some 2))) (.str (Str.ofString "_")) = .ok (.str (cutS v none (some 2) ++ Str.ofString "_")) := add_s (by omega)
    have c2 : D.add (.str (cutS v none (some 2) ++ Str.ofString "_")) (.str (cutS v (some 2) none)) = .ok (.str (cutS v none (some 2) ++ Str.ofString "_" ++ cutS v (some 2) none)) := add_s (by rw [len_app]; omega)
    refine ⟨cutS v none (some 2) ++ Str.ofString "_" ++ cutS v (some 2) none, ?_, by rw [len_app, len_app]; omega, by rw [len_app, len_app]; omega, ?_⟩
    · rw [e2]
      simp only [hc, w1, f1, q3, q4, q9, g9, a1, a2, c1, c2, bind_okS, bind_exS, bind_stS, noEx_okS, mVar_a, mC_a, mNil_a, mCons_a, mCall_a, l1_a, l2_a, mSeq_a, mSet_a, mIf_a, mRet_a, mNext_a, mDrop_a, mB_a, mAnd_a, mOr_a, mNot_a, mAndV_a, mOrV_a, mNotV_a, mIfE_a, mLst_a, mTup_a, mNoPart_a, mPart_a, mSlice_a, mYes_a, mIt_a, mGName_a, mGNil_a, mGCons_a, mGTup_a, mApp_a, putV_a, mPar_a, parD_a, mAsgG_a, mGSub_a, toB_a, toS_a, mS1_a, mRange1_a, mRange2_a, mRange3_a, mEnum_a, mZip_a, mZipS_a, fInt_i, fInt_b, fAbs_i, fMax_i, fMin_i, fLen_l, fLen_t, add_i, items_l, items_t, items_s, isL_a, slice_l, slice_t, fin_rt, fin_ex, fin_nx, rO_ok, rO_ex, rO_stuck, List.getElem?_cons_zero, List.getElem?_cons_succ, List.set_cons_zero, List.set_cons_succ, if_true, ite_true, ite_false, Bool.not_true, Bool.not_false, Bool.false_eq_true, if_pos, eqq_int, neq_int, eqq_bl, List.length_cons, List.length_nil, List.length_map]
    · rw [tl_app, tl_app]
      exact GoodC.app (GoodC.app (fun x hx => hvg x (cutS_mem hx)) u1) fun x hx => hvg x (cutS_mem hx)
  · have g9 : decide (m % 9 = 0) = false := decide_eq_false h9
    refine ⟨v, ?_, by omega, by omega, hvg⟩
    rw [e2]
    simp only [hc, w1, f1, q3, q4, q9, g9, bind_okS, bind_exS, bind_stS, noEx_okS, mVar_a, mC_a, mNil_a, mCons_a, mCall_a, l1_a, l2_a, mSeq_a, mSet_a, mIf_a, mRet_a, mNext_a, mDrop_a, mB_a, mAnd_a, mOr_a, mNot_a, mAndV_a, mOrV_a, mNotV_a, mIfE_a, mLst_a, mTup_a, mNoPart_a, mPart_a, mSlice_a, mYes_a, mIt_a, mGName_a, mGNil_a, mGCons_a, mGTup_a, mApp_a, putV_a, mPar_a, parD_a, mAsgG_a, mGSub_a, toB_a, toS_a, mS1_a, mRange1_a, mRange2_a, mRange3_a, mEnum_a, mZip_a, mZipS_a, fInt_i, fInt_b, fAbs_i, fMax_i, fMin_i, fLen_l, fLen_t, add_i, items_l, items_t, items_s, isL_a, slice_l, slice_t, fin_rt, fin_ex, fin_nx, rO_ok, rO_ex, rO_stuck, List.getElem?_cons_zero, List.getElem?_cons_succ, List.set_cons_zero, List.set_cons_succ, if_true, ite_true, ite_false, Bool.not_true, Bool.not_false, Bool.false_eq_true, if_pos, eqq_int, neq_int, eqq_bl, List.length_cons, List.length_nil, List.length_map]
theorem law_word_spec {n m : Int} (hn : nOk n) (hm : nOk m) : ∃ w, f__law_word [.int n, .int m] = .ok (.str w) ∧ Good w := by
  obtain ⟨hn0, hn1⟩ := hn
  obtain ⟨hm0, hm1⟩ := hm
  have e0 : f__law_word [.int n, .int m] = fin false ((mSeq (mIf (mB (l2 D.eqq (l2 D.mod (mCall fInt (mCons (mVar 0) mNil)) (mC (.int 4))) (mC (.int 0)))) (mRet (l2 D.ix (mVar 2) (l2 D.mod (mCall fInt (mCons (l2 D.fdiv (mVar 0) (mC (.int 4))) mNil)) (mC (.int 20))))) mNext) (mSeq (mSet 4 (l2 D.mod (mCall fInt (mCons (l2 D.fdiv (mVar 0) (mC (.int 4))) mNil)) (mC (.int 7)))) (mSeq (mIf (mB (l2 D.eqq (l2 D.mod (mCall fInt (mCons (mVar 0) mNil)) (mC (.int 4))) (mC (.int 1)))) (mSeq (mSet 5 (l2 D.add (l2 D.add (mC (.int 1)) (mVar 4)) (l2 D.mul (mC (.int 26)) (mCall fInt (mCons (l2 D.eqq (l2 D.mod (mCall fInt (mCons (mVar 1) mNil)) (mC (.int 5))) (mC (.int 0))) mNil))))) (mSeq (mSet 6 (mS1 fJoin (mC (.str "")) (mLc (mRange1 (mCons (mVar 5) mNil)) (mGName 8) mYes (l2 D.ix (mVar 3) (l2 D.add (mC (.int 26)) (l2 D.mod (mCall fInt (mCons (l2 D.add (l2 D.add (mVar 1) (l2 D.mul (l2 D.mul (mVar 8) (mVar 8)) (mC (.int 3)))) (l2 D.fdiv (mVar 0) (mC (.int 28)))) mNil)) (mC (.int 10))))) [8]))) (mRet (l2 D.add (l2 D.ix (mTup (mCons (mC (.str "")) (mCons (mC (.str "")) (mCons (mC (.str "")) (mCons (mC (.str "-")) mNil))))) (l2 D.mod (mCall fInt (mCons (mVar 1) mNil)) (mC (.int 4)))) (mVar 6))))) mNext) (mSeq (mSet 7 (l2 D.add (l2 D.ix (mVar 3) (l2 D.mod (mCall fInt (mCons (mVar 1) mNil)) (mC (.int 36)))) (mS1 fJoin (mC (.str "")) (mLc (mRange1 (mCons (l2 D.mul (mVar 4) (mC (.int 2))) mNil)) (mGName 8) mYes (l2 D.ix (mVar 3) (l2 D.mod (mCall fInt (mCons (l2 D.add (l2 D.add (mVar 1) (l2 D.mul (l2 D.mul (mC (.int 11)) (mVar 8)) (mVar 0))) (mVar 8)) mNil)) (mC (.int 36)))) [8])))) (mSeq (mIf (mB (l2 D.eqq (l2 D.mod (mCall fInt (mCons (mVar 1) mNil)) (mC (.int 9))) (mC (.int 0)))) (mRet (l2 D.add (l2 D.add (mSlice (mVar 7) mNoPart (mPart (mC (.int 2)))) (mC (.str "_"))) (mSlice (mVar 7) (mPart (mC (.int 2))) mNoPart))) mNext) (mRet (mVar 7))))))) [some (.int n), some (.int m), some (.tup (WL.map .str)), some (.str LET), none, none, none, none, none]) := rfl
  have m4 : D.mod (.int n) (.int 4) = .ok (.int (n % 4)) := rfl
  have d4 : D.fdiv (.int n) (.int 4) = .ok (.int (n / 4)) := rfl
  by_cases h0 : n % 4 = 0
  · obtain ⟨w, hw, he⟩ := pick_t (zs := WL) (k := n / 4 % 20) (by omega) (by show _ < (20 : Int); omega)
    refine ⟨w, ?_, WL_good w hw⟩
    have m20 : D.mod (.int (n / 4)) (.int 20) = .ok (.int (n / 4 % 20)) := rfl
    simp only [e0, m4, d4, m20, he, h0, bind_okS, bind_exS, bind_stS, noEx_okS, mVar_a, mC_a, mNil_a, mCons_a, mCall_a, l1_a, l2_a, mSeq_a, mSet_a, mIf_a, mRet_a, mNext_a, mDrop_a, mB_a, mAnd_a, mOr_a, mNot_a, mAndV_a, mOrV_a, mNotV_a, mIfE_a, mLst_a, mTup_a, mNoPart_a, mPart_a, mSlice_a, mYes_a, mIt_a, mGName_a, mGNil_a, mGCons_a, mGTup_a, mApp_a, putV_a, mPar_a, parD_a, mAsgG_a, mGSub_a, toB_a, toS_a, mS1_a, mRange1_a, mRange2_a, mRange3_a, mEnum_a, mZip_a, mZipS_a, fInt_i, fInt_b, fAbs_i, fMax_i, fMin_i, fLen_l, fLen_t, add_i, items_l, items_t, items_s, isL_a, slice_l, slice_t, fin_rt, fin_ex, fin_nx, rO_ok, rO_ex, rO_stuck, List.getElem?_cons_zero, List.getElem?_cons_succ, List.set_cons_zero, List.set_cons_succ, if_true, ite_true, ite_false, Bool.not_true, Bool.not_false, Bool.false_eq_true, if_pos, eqq_int, neq_int, eqq_bl, List.length_cons, List.length_nil, List.length_map, decide_true]
  · have m7 : D.mod (.int (n / 4)) (.int 7) = .ok (.int (n / 4 % 7)) := rfl
    have g0 : decide (n % 4 = 0) = false := decide_eq_false h0
    obtain ⟨sz, hsz⟩ : ∃ sz, sz = n / 4 % 7 := ⟨_, rfl⟩
    have hs0 : 0 ≤ sz ∧ sz ≤ 6 := by omega
    rw [← hsz] at m7
    have e1 : f__law_word [.int n, .int m] = fin false ((mSeq (mIf (mB (l2 D.eqq (l2 D.mod (mCall fInt (mCons (mVar 0) mNil)) (mC (.int 4))) (mC (.int 1)))) (mSeq (mSet 5 (l2 D.add (l2 D.add (mC (.int 1)) (mVar 4)) (l2 D.mul (mC (.int 26)) (mCall fInt (mCons (l2 D.eqq (l2 D.mod (mCall fInt (mCons (mVar 1) mNil)) (mC (.int 5))) (mC (.int 0))) mNil))))) (mSeq (mSet 6 (mS1 fJoin (mC (.str "")) (mLc (mRange1 (mCons (mVar 5) mNil)) (mGName 8) mYes (l2 D.ix (mVar 3) (l2 D.add (mC (.int 26)) (l2 D.mod (mCall fInt (mCons (l2 D.add (l2 D.add (mVar 1) (l2 D.mul (l2 D.mul (mVar 8) (mVar 8)) (mC (.int 3)))) (l2 D.fdiv (mVar 0) (mC (.int 28)))) mNil)) (mC (.int 10))))) [8]))) (mRet (l2 D.add (l2 D.ix (mTup (mCons (mC (.str "")) (mCons (mC (.str "")) (mCons (mC (.str "")) (mCons (mC (.str "-")) mNil))))) (l2 D.mod (mCall fInt (mCons (mVar 1) mNil)) (mC (.int 4)))) (mVar 6))))) mNext) (mSeq (mSet 7 (l2 D.add (l2 D.ix (mVar 3) (l2 D.mod (mCall fInt (mCons (mVar 1) mNil)) (mC (.int 36)))) (mS1 fJoin (mC (.str "")) (mLc (mRange1 (mCons (l2 D.mul (mVar 4) (mC (.int 2))) mNil)) (mGName 8) mYes (l2 D.ix (mVar 3) (l2 D.mod (mCall fInt (mCons (l2 D.add (l2 D.add (mVar 1) (l2 D.mul (l2 D.mul (mC (.int 11)) (mVar 8)) (mVar 0))) (mVar 8)) mNil)) (mC (.int 36)))) [8])))) (mSeq (mIf (mB (l2 D.eqq (l2 D.mod (mCall fInt (mCons (mVar 1) mNil)) (mC (.int 9))) (mC (.int 0)))) (mRet (l2 D.add (l2 D.add (mSlice (mVar 7) mNoPart (mPart (mC (.int 2)))) (mC (.str "_"))) (mSlice (mVar 7) (mPart (mC (.int 2))) mNoPart))) mNext) (mRet (mVar 7))))) [some (.int n), some (.int m), some (.tup (WL.map .str)), some (.str LET), some (.int sz), none, none, none, none]) := by
      rw [e0]
      simp only [m4, d4, m7, g0, mSeq_a, mIf_a, mSet_a, mB_a, l2_a, mCall_a, mCons_a, mNil_a, mVar_a, mC_a, fInt_i, bind_okS, List.getElem?_cons_zero, eqq_int, toB_a, rO_ok, mNext_a, if_false, Bool.false_eq_true, List.set_cons_succ, List.set_cons_zero]
    by_cases h1 : n % 4 = 1
    · rw [e1]; exact word_1 hn0 hn1 hm0 hm1 hs0 h1
    · rw [e1]; exact word_2 hn0 hn1 hm0 hm1 hs0 h1
end Mi
namespace Mi
open PySem L2
theorem seq_skip {c : MT} {A R' : MS} {ρ : Rho} (hc : c ρ = .ok false) : mSeq (mIf c A mNext) R' ρ = R' ρ := by
  rw [mSeq_a, mIf_a, hc]; rfl
theorem seq_ret {c : MT} {e : ME} {R' : MS} {ρ : Rho} {d : D} (hc : c ρ = .ok true) (he : e ρ = .ok d) : mSeq (mIf c (mRet e) mNext) R' ρ = .rt d := by
  rw [mSeq_a, mIf_a, hc, rO_ok, if_pos rfl, mRet_a, he]; rfl
theorem seq_set {i : Nat} {e : ME} {R' : MS} {ρ : Rho} {d : D} (he : e ρ = .ok d) : mSeq (mSet i e) R' ρ = R' (ρ.set i (some d)) := by
  rw [mSeq_a, mSet_a, he]; rfl
theorem ret_ok {e : ME} {ρ : Rho} {d : D} (he : e ρ = .ok d) : mRet e ρ = .rt d := by rw [mRet_a, he]; rfl
theorem lst_ok {r : MA} {ρ : Rho} {ds : List D} (h : r ρ = .ok ds) (hl : ds.length ≤ 100000) : mLst r ρ = .ok (.lst ds) := by rw [mLst_a, h, bind_okS, if_pos (small_of hl)]
theorem cons_ok {a : ME} {r : MA} {ρ : Rho} {d : D} {ds : List D} (ha : a ρ = .ok d) (h : r ρ = .ok ds) : mCons a r ρ = .ok (d :: ds) := by rw [mCons_a, ha, bind_okS, h]; rfl
theorem nil_ok {ρ : Rho} : mNil ρ = .ok [] := rfl
theorem cat_ok {a b : List D} (h : a.length + b.length ≤ 100000) : D.catL (.lst a) (.lst b) = .ok (.lst (a ++ b)) := by
  show (if small (a.length + b.length) then R.ok (D.lst (a ++ b)) else .stuck) = _
  rw [if_pos (small_of h)]
theorem add_l {a b : List D} (h : a.length + b.length ≤ 100000) : D.add (.lst a) (.lst b) = .ok (.lst (a ++ b)) := by
  show (if small (a.length + b.length) then R.ok (D.lst (a ++ b)) else .stuck) = _
  rw [if_pos (small_of h)]
theorem mod_i {a k : Int} (h : 0 < k) : D.mod (.int a) (.int k) = .ok (.int (a % k)) := by
  show (if decide (0 < k) = true then R.ok (D.int (a % k)) else .stuck) = _
  rw [if_pos (decide_eq_true h)]
theorem mb_eq {a : ME} {ρ : Rho} {i k : Int} (h : a ρ = .ok (.int i)) : mB (l2 D.eqq a (mC (.int k))) ρ = .ok (decide (i = k)) := by
  rw [mB_a, l2_a, h, bind_okS, mC_a, bind_okS, eqq_int]; rfl
theorem lt_t {a : ME} {ρ : Rho} {i k : Int} (h : a ρ = .ok (.int i)) (c : i < k) : mB (l2 D.lt a (mC (.int k))) ρ = .ok true := by
  rw [mB_a, l2_a, h, bind_okS, mC_a, bind_okS]
  show R.ok (decide (i < k)) = _
  rw [decide_eq_true c]
theorem lt_f {a : ME} {ρ : Rho} {i k : Int} (h : a ρ = .ok (.int i)) (c : ¬ i < k) : mB (l2 D.lt a (mC (.int k))) ρ = .ok false := by
  rw [mB_a, l2_a, h, bind_okS, mC_a, bind_okS]
  show R.ok (decide (i < k)) = _
  rw [decide_eq_false c]
theorem eq_t {a : ME} {ρ : Rho} {i k : Int} (h : a ρ = .ok (.int i)) (c : i = k) : mB (l2 D.eqq a (mC (.int k))) ρ = .ok true := by rw [mb_eq h, decide_eq_true c]
theorem eq_f {a : ME} {ρ : Rho} {i k : Int} (h : a ρ = .ok (.int i)) (c : ¬ i = k) : mB (l2 D.eqq a (mC (.int k))) ρ = .ok false := by rw [mb_eq h, decide_eq_false c]
theorem filt {p : Str → Bool} : ∀ ws : List Str, ((ws.map D.str).filter fun d => match d with | .str w => p w | _ => true) = (ws.filter p).map .str
  | [] => rfl
  | w :: ws => by
    rw [List.map_cons, List.filter_cons, filt ws, List.filter_cons]
    by_cases h : p w = true
    · rw [if_pos h, if_pos h]; rfl
    · rw [if_neg h, if_neg h]
theorem lit_good {zs : List Str} (h : zs.all (fun w => decide (1 ≤ w.length) && (decide (w.length ≤ 40) && w.cps.toList.all fun c => decide (c < 128) && decide (c ≠ 32))) = true) : ∀ w ∈ zs, Good w := by
  intro w hw
  have := List.all_eq_true.mp h w hw
  rw [Bool.and_eq_true, Bool.and_eq_true] at this
  refine ⟨of_decide_eq_true this.1, of_decide_eq_true this.2.1, fun c hc => ?_⟩
  have := List.all_eq_true.mp this.2.2 c hc
  rw [Bool.and_eq_true] at this
  exact ⟨of_decide_eq_true this.1, of_decide_eq_true this.2⟩
def K1 : List Str := ["answers", "squares", "questions", "undo", "redo"]
def K2 : List Str := ["square", "remove", "drop", "answer", "print"]
def K3 : List Str := ["turn", "switch"]
def K4 : List Str := ["order", "mate"]
def K5 : List Str := ["product", "ask", "sign", "span", "a", "b", "c", "0", "7", "12"]
theorem K1_good : ∀ w ∈ K1, Good w := lit_good (by decide +kernel)
theorem K2_good : ∀ w ∈ K2, Good w := lit_good (by decide +kernel)
theorem K3_good : ∀ w ∈ K3, Good w := lit_good (by decide +kernel)
theorem K4_good : ∀ w ∈ K4, Good w := lit_good (by decide +kernel)
theorem K5_good : ∀ w ∈ K5, Good w := lit_good (by decide +kernel)
/-- what _law_formed gives -/
def Fr (d : D) : Prop := ∃ rs : List Str, d = .lst (rs.map .str) ∧ 1 ≤ rs.length ∧ rs.length ≤ 11 ∧ ∀ w ∈ rs, Good w
theorem formed_tail {nums words : D} {nms fgs : List Str} {many kind : Int} (hm : 0 ≤ many ∧ many < 8) (hN : 3 ≤ nms.length) (hF : 3 ≤ fgs.length ∧ fgs.length ≤ 100) (gN : ∀ w ∈ nms, Good w) (gF : ∀ w ∈ fgs, Good w) :
    ∃ d, fin false ((mSeq (mIf (mB (l2 D.lt (mVar 5) (mC (.int 3)))) (mRet (mLst (mCons (l2 D.ix (mTup (mCons (mC (.str "answers")) (mCons (mC (.str "squares")) (mCons (mC (.str "questions")) (mCons (mC (.str "undo")) (mCons (mC (.str "redo")) mNil)))))) (l2 D.mod (mVar 4) (mC (.int 5)))) mNil))) mNext) (mSeq (mIf (mB (l2 D.lt (mVar 5) (mC (.int 5)))) (mRet (mLst (mCons (l2 D.ix (mTup (mCons (mC (.str "square")) (mCons (mC (.str "remove")) (mCons (mC (.str "drop")) (mCons (mC (.str "answer")) (mCons (mC (.str "print")) mNil)))))) (l2 D.mod (mVar 4) (mC (.int 5)))) (mCons (l2 D.ix (mVar 2) (mC (.int 0))) mNil)))) mNext) (mSeq (mIf (mB (l2 D.eqq (mVar 5) (mC (.int 5)))) (mRet (mLst (mCons (mC (.str "product")) (mCons (l2 D.ix (mVar 2) (mC (.int 0))) (mCons (l2 D.ix (mVar 2) (mC (.int 1))) (mCons (l2 D.ix (mVar 2) (mC (.int 2))) mNil)))))) mNext) (mSeq (mIf (mB (l2 D.lt (mVar 5) (mC (.int 8)))) (mRet (l2 D.catL (mLst (mCons (l2 D.ix (mTup (mCons (mC (.str "turn")) (mCons (mC (.str "switch")) mNil))) (l2 D.mod (mVar 4) (mC (.int 2)))) (mCons (l2 D.ix (mVar 2) (mC (.int 0))) (mCons (l2 D.ix (mVar 2) (mC (.int 1))) mNil)))) (mLc (mRange1 (mCons (mC (.int 3)) mNil)) (mGName 7) mYes (l2 D.ix (mVar 3) (l2 D.mod (mVar 7) (mCall fLen (mCons (mVar 3) mNil)))) [7]))) mNext) (mSeq (mIf (mB (l2 D.eqq (mVar 5) (mC (.int 8)))) (mRet (mLst (mCons (mC (.str "ask")) (mCons (l2 D.ix (mVar 2) (mC (.int 0))) (mCons (l2 D.ix (mTup (mCons (mC (.str "order")) (mCons (mC (.str "mate")) mNil))) (l2 D.mod (mVar 4) (mC (.int 2)))) (mCons (l2 D.ix (mVar 2) (mC (.int 1))) mNil)))))) mNext) (mSeq (mIf (mB (l2 D.eqq (mVar 5) (mC (.int 9)))) (mRet (mLst (mCons (mC (.str "ask")) (mCons (l2 D.ix (mVar 2) (mC (.int 0))) (mCons (mC (.str "sign")) (mCons (l2 D.ix (mVar 2) (mC (.int 1))) (mCons (l2 D.ix (mVar 3) (mC (.int 0))) (mCons (l2 D.ix (mVar 3) (mC (.int 1))) mNil)))))))) mNext) (mRet (l2 D.catL (mLst (mCons (mC (.str "ask")) (mCons (l2 D.ix (mVar 2) (mC (.int 0))) (mCons (mC (.str "span")) (mCons (l2 D.ix (mVar 2) (mC (.int 1))) mNil))))) (mLc (mRange1 (mCons (mVar 4) mNil)) (mGName 7) mYes (l2 D.ix (mVar 3) (l2 D.mod (mVar 7) (mCall fLen (mCons (mVar 3) mNil)))) [7]))))))))) [some nums, some words, some (.lst (nms.map .str)), some (.lst (fgs.map .str)), some (.int many), some (.int kind), none, none]) = .ok d ∧ Fr d := by
  obtain ⟨a0, ha0, e0⟩ := pick_l (zs := nms) (k := 0) (by omega) (by omega)
  obtain ⟨a1, ha1, e1⟩ := pick_l (zs := nms) (k := 1) (by omega) (by omega)
  obtain ⟨a2, ha2, e2⟩ := pick_l (zs := nms) (k := 2) (by omega) (by omega)
  obtain ⟨b0, hb0, f0⟩ := pick_l (zs := fgs) (k := 0) (by omega) (by omega)
  obtain ⟨b1, hb1, f1⟩ := pick_l (zs := fgs) (k := 1) (by omega) (by omega)
  have figs : ∀ (k : Int) (it : MI) (ρ : Rho), ρ[3]? = some (some (.lst (fgs.map .str))) → ρ.length = 8 → 0 ≤ k → k < 8 → it ρ = .ok ((List.range k.toNat).map fun i => D.int (i : Nat)) →
      ∃ ws : List Str, mLc it (mGName 7) mYes (l2 D.ix (mVar 3) (l2 D.mod (mVar 7) (mCall fLen (mCons (mVar 3) mNil)))) [7] ρ = .ok (.lst (ws.map .str)) ∧ ws.length = k.toNat ∧ ∀ w ∈ ws, Good w := by
    intro k it ρ h3 hl h0 h8 hit
    obtain ⟨ws, w1, w2, w3⟩ := lc_exS (it := it) (i := 7) (e := l2 D.ix (mVar 3) (l2 D.mod (mVar 7) (mCall fLen (mCons (mVar 3) mNil)))) (vs := [7]) (ρ := ρ) (P := Good) hit (by rw [List.length_map, List.length_range]; omega) (fun d hd => by
      obtain ⟨j, hj, rfl⟩ := List.mem_map.mp hd
      have hlen : (0 : Int) < (fgs.length : Int) := by omega
      obtain ⟨w, hw, he⟩ := pick_l (zs := fgs) (k := (j : Int) % fgs.length) (Int.emod_nonneg _ (by omega)) (Int.emod_lt_of_pos _ hlen)
      have v3 : mVar 3 ((wipeR ρ [7]).set 7 (some (.int (j : Nat)))) = .ok (.lst (fgs.map .str)) := by
        have : ((wipeR ρ [7]).set 7 (some (.int (j : Nat))))[3]? = some (some (.lst (fgs.map .str))) := by
          show ((ρ.set 7 none).set 7 (some (.int (j : Nat))))[3]? = _
          rw [List.getElem?_set_ne (by decide), List.getElem?_set_ne (by decide), h3]
        rw [mVar_a, this]
      have v7 : mVar 7 ((wipeR ρ [7]).set 7 (some (.int (j : Nat)))) = .ok (.int (j : Nat)) := by
        have : ((wipeR ρ [7]).set 7 (some (.int (j : Nat))))[7]? = some (some (.int (j : Nat))) := by
          show ((ρ.set 7 none).set 7 (some (.int (j : Nat))))[7]? = _
          rw [List.getElem?_set_self (by rw [List.length_set, hl]; decide)]
        rw [mVar_a, this]
      have vl : mCall fLen (mCons (mVar 3) mNil) ((wipeR ρ [7]).set 7 (some (.int (j : Nat)))) = .ok (.int fgs.length) := by
        rw [mCall_a, cons_ok v3 nil_ok, bind_okS, fLen_l, List.length_map]
      exact ⟨w, l2_ok v3 (l2_ok v7 vl (mod_i hlen)) he, gF w hw⟩)
    exact ⟨ws, w1, by rw [w2, List.length_map, List.length_range], w3⟩
  have mem5 : ∀ {w : Str}, w ∈ K5 → Good w := fun {w} h => K5_good w h
  by_cases h3 : kind < 3
  · obtain ⟨w, hw, he⟩ := pick_t (zs := K1) (k := many % 5) (by omega) (by show _ < (5 : Int); omega)
    rw [seq_ret (lt_t rfl h3) (lst_ok (cons_ok (l2_ok rfl (l2_ok rfl rfl rfl) he) nil_ok) (Nat.le_add_left 1 99999))]
    exact ⟨_, rfl, [w], rfl, Nat.le_add_left 1 0, Nat.le_add_left 1 10, fun v hv => by rw [List.mem_singleton.mp hv]; exact K1_good w hw⟩
  · rw [seq_skip (lt_f rfl h3)]
    by_cases h5 : kind < 5
    · obtain ⟨w, hw, he⟩ := pick_t (zs := K2) (k := many % 5) (by omega) (by show _ < (5 : Int); omega)
      rw [seq_ret (lt_t rfl h5) (lst_ok (cons_ok (l2_ok rfl (l2_ok rfl rfl rfl) he) (cons_ok (l2_ok rfl rfl e0) nil_ok)) (Nat.le_add_left 2 99998))]
      refine ⟨_, rfl, [w, a0], rfl, Nat.le_add_left 1 1, Nat.le_add_left 2 9, fun v hv => ?_⟩
      rcases List.mem_cons.mp hv with q | q
      · rw [q]; exact K2_good w hw
      · rw [List.mem_singleton.mp q]; exact gN a0 ha0
    · rw [seq_skip (lt_f rfl h5)]
      by_cases k5 : kind = 5
      · rw [seq_ret (eq_t rfl k5) (lst_ok (cons_ok rfl (cons_ok (l2_ok rfl rfl e0) (cons_ok (l2_ok rfl rfl e1) (cons_ok (l2_ok rfl rfl e2) nil_ok)))) (Nat.le_add_left 4 99996))]
        refine ⟨_, rfl, ["product", a0, a1, a2], rfl, Nat.le_add_left 1 3, Nat.le_add_left 4 7, fun v hv => ?_⟩
        simp only [List.mem_cons, List.not_mem_nil, or_false] at hv
        rcases hv with q | q | q | q <;> rw [q]
        · exact mem5 (by simp [K5])
        · exact gN a0 ha0
        · exact gN a1 ha1
        · exact gN a2 ha2
      · rw [seq_skip (eq_f rfl k5)]
        by_cases h8 : kind < 8
        · obtain ⟨w, hw, he⟩ := pick_t (zs := K3) (k := many % 2) (by omega) (by show _ < (2 : Int); omega)
          obtain ⟨ws, w1, w2, w3⟩ := figs 3 (mRange1 (mCons (mC (.int 3)) mNil)) [some nums, some words, some (.lst (nms.map .str)), some (.lst (fgs.map .str)), some (.int many), some (.int kind), none, none] rfl rfl (by omega) (by omega) rfl
          have w2' : ws.length = 3 := w2
          rw [seq_ret (lt_t rfl h8) (l2_ok (lst_ok (cons_ok (l2_ok rfl (l2_ok rfl rfl rfl) he) (cons_ok (l2_ok rfl rfl e0) (cons_ok (l2_ok rfl rfl e1) nil_ok))) (Nat.le_add_left 3 99997)) w1 (cat_ok (by rw [List.length_map, w2']; exact Nat.le_add_left 6 99994)))]
          refine ⟨_, rfl, [w, a0, a1] ++ ws, by rw [List.map_append]; rfl, by rw [List.length_append, w2']; exact Nat.le_add_left 1 5, by rw [List.length_append, w2']; exact Nat.le_add_left 6 5, fun v hv => ?_⟩
          rcases List.mem_append.mp hv with q | q
          · simp only [List.mem_cons, List.not_mem_nil, or_false] at q
            rcases q with q | q | q <;> rw [q]
            · exact K3_good w hw
            · exact gN a0 ha0
            · exact gN a1 ha1
          · exact w3 v q
        · rw [seq_skip (lt_f rfl h8)]
          by_cases k8 : kind = 8
          · obtain ⟨w, hw, he⟩ := pick_t (zs := K4) (k := many % 2) (by omega) (by show _ < (2 : Int); omega)
            rw [seq_ret (eq_t rfl k8) (lst_ok (cons_ok rfl (cons_ok (l2_ok rfl rfl e0) (cons_ok (l2_ok rfl (l2_ok rfl rfl rfl) he) (cons_ok (l2_ok rfl rfl e1) nil_ok)))) (Nat.le_add_left 4 99996))]
            refine ⟨_, rfl, ["ask", a0, w, a1], rfl, Nat.le_add_left 1 3, Nat.le_add_left 4 7, fun v hv => ?_⟩
            simp only [List.mem_cons, List.not_mem_nil, or_false] at hv
            rcases hv with q | q | q | q <;> rw [q]
            · exact mem5 (by simp [K5])
            · exact gN a0 ha0
            · exact K4_good w hw
            · exact gN a1 ha1
          · rw [seq_skip (eq_f rfl k8)]
            by_cases k9 : kind = 9
            · rw [seq_ret (eq_t rfl k9) (lst_ok (cons_ok rfl (cons_ok (l2_ok rfl rfl e0) (cons_ok rfl (cons_ok (l2_ok rfl rfl e1) (cons_ok (l2_ok rfl rfl f0) (cons_ok (l2_ok rfl rfl f1) nil_ok)))))) (Nat.le_add_left 6 99994))]
              refine ⟨_, rfl, ["ask", a0, "sign", a1, b0, b1], rfl, Nat.le_add_left 1 5, Nat.le_add_left 6 5, fun v hv => ?_⟩
              simp only [List.mem_cons, List.not_mem_nil, or_false] at hv
              rcases hv with q | q | q | q | q | q <;> rw [q]
              · exact mem5 (by simp [K5])
              · exact gN a0 ha0
              · exact mem5 (by simp [K5])
              · exact gN a1 ha1
              · exact gF b0 hb0
              · exact gF b1 hb1
            · rw [seq_skip (eq_f rfl k9)]
              obtain ⟨ws, w1, w2, w3⟩ := figs many (mRange1 (mCons (mVar 4) mNil)) [some nums, some words, some (.lst (nms.map .str)), some (.lst (fgs.map .str)), some (.int many), some (.int kind), none, none] rfl rfl hm.1 hm.2 (rg1_of (by omega) (by omega))
              rw [ret_ok (l2_ok (lst_ok (cons_ok rfl (cons_ok (l2_ok rfl rfl e0) (cons_ok rfl (cons_ok (l2_ok rfl rfl e1) nil_ok)))) (Nat.le_add_left 4 99996)) w1 (cat_ok (by rw [List.length_map]; show 4 + ws.length ≤ _; omega)))]
              refine ⟨_, rfl, ([Str.ofString "ask", a0, Str.ofString "span", a1] : List Str) ++ ws, by rw [List.map_append]; rfl, by rw [List.length_append]; show 1 ≤ 4 + ws.length; omega, by rw [List.length_append]; show 4 + ws.length ≤ 11; omega, fun v hv => ?_⟩
              rcases List.mem_append.mp hv with q | q
              · simp only [List.mem_cons, List.not_mem_nil, or_false] at q
                rcases q with q | q | q | q <;> rw [q]
                · exact mem5 (by simp [K5])
                · exact gN a0 ha0
                · exact mem5 (by simp [K5])
                · exact gN a1 ha1
              · exact w3 v q
theorem formed_spec {xs : List Int} {ws : List Str} (hx : xs.length = 60) (nx : ∀ x ∈ xs, nOk x) (hw : ws.length ≤ 9) (gw : ∀ w ∈ ws, Good w) : ∃ d, f__law_formed [.lst (xs.map .int), .lst (ws.map .str)] = .ok d ∧ Fr d := by
  obtain ⟨n43, x43, _⟩ := ix_nums (xs := xs) (k := 43) (by omega) (by omega) nx
  obtain ⟨n42, x42, _⟩ := ix_nums (xs := xs) (k := 42) (by omega) (by omega) nx
  have e0 : f__law_formed [.lst (xs.map .int), .lst (ws.map .str)] = fin false (m__law_formed [some (.lst (xs.map .int)), some (.lst (ws.map .str)), none, none, none, none, none, none]) := rfl
  have c1 := mLc_fil (it := mIt (mVar 1)) (g := mGName 6) (t := mB (mCall f__law_is_name (mCons (mVar 6) mNil))) (e := mVar 6) (vs := [6]) (ρ := [some (.lst (xs.map .int)), some (.lst (ws.map .str)), none, none, none, none, none, none]) (ds := ws.map .str)
    (p := fun d => match d with | .str w => nm w | _ => true) (f := id) rfl (by rw [List.length_map]; omega) (fun d hd => by
      obtain ⟨w, hw', rfl⟩ := List.mem_map.mp hd
      refine ⟨_, rfl, ?_, fun _ => rfl⟩
      show ((f__law_is_name [.str w]).bind D.toB) = _
      rw [law_is_name_spec (by have := (gw w hw').2.1; omega)]; rfl)
  rw [filt, List.map_id] at c1
  have c2 := mLc_fil (it := mIt (mVar 1)) (g := mGName 6) (t := mB (mCall f__law_is_number (mCons (mVar 6) mNil))) (e := mVar 6) (vs := [6]) (ρ := [some (.lst (xs.map .int)), some (.lst (ws.map .str)), some (.lst ((ws.filter nm).map .str ++ [.str "a", .str "b", .str "c"])), none, none, none, none, none]) (ds := ws.map .str)
    (p := fun d => match d with | .str w => nu w | _ => true) (f := id) rfl (by rw [List.length_map]; omega) (fun d hd => by
      obtain ⟨w, hw', rfl⟩ := List.mem_map.mp hd
      refine ⟨_, rfl, ?_, fun _ => rfl⟩
      show ((f__law_is_number [.str w]).bind D.toB) = _
      rw [law_is_number_spec (by have := (gw w hw').2.1; omega) (gw w hw').asc]; rfl)
  rw [filt, List.map_id] at c2
  have l1 := List.length_filter_le nm ws
  have l2' := List.length_filter_le nu ws
  have a1 : D.add (.lst ((ws.filter nm).map .str)) (.lst [.str "a", .str "b", .str "c"]) = .ok (.lst ((ws.filter nm).map .str ++ [.str "a", .str "b", .str "c"])) := add_l (by rw [List.length_map]; show _ + 3 ≤ _; omega)
  have a2 : D.add (.lst ((ws.filter nu).map .str)) (.lst [.str "0", .str "7", .str "12"]) = .ok (.lst ((ws.filter nu).map .str ++ [.str "0", .str "7", .str "12"])) := add_l (by rw [List.length_map]; show _ + 3 ≤ _; omega)
  have t := formed_tail (nums := .lst (xs.map .int)) (words := .lst (ws.map .str)) (nms := ws.filter nm ++ ([Str.ofString "a", Str.ofString "b", Str.ofString "c"] : List Str)) (fgs := ws.filter nu ++ ([Str.ofString "0", Str.ofString "7", Str.ofString "12"] : List Str)) (many := n43 % 8) (kind := n42 % 12) (by omega) (by rw [List.length_append]; show 3 ≤ _ + 3; omega) (by rw [List.length_append]; show 3 ≤ _ + 3 ∧ _ + 3 ≤ 100; omega)
    (fun w hw' => (List.mem_append.mp hw').elim (fun q => gw w (List.mem_filter.mp q |>.1)) fun q => K5_good w (by
      simp only [List.mem_cons, List.not_mem_nil, or_false] at q
      rcases q with q | q | q <;> rw [q] <;> simp [K5]))
    (fun w hw' => (List.mem_append.mp hw').elim (fun q => gw w (List.mem_filter.mp q |>.1)) fun q => K5_good w (by
      simp only [List.mem_cons, List.not_mem_nil, or_false] at q
      rcases q with q | q | q <;> rw [q] <;> simp [K5]))
  rw [List.map_append, List.map_append] at t
  obtain ⟨d, td, fr⟩ := t
  refine ⟨d, ?_, fr⟩
  rw [e0]
  exact Eq.trans (congrArg (fin false) ((seq_set (l2_ok c1 (lst_ok (cons_ok rfl (cons_ok rfl (cons_ok rfl nil_ok))) (Nat.le_add_left 3 99997)) a1)).trans ((seq_set (l2_ok c2 (lst_ok (cons_ok rfl (cons_ok rfl (cons_ok rfl nil_ok))) (Nat.le_add_left 3 99997)) a2)).trans
    ((seq_set (l2_ok (int_ok (l2_ok rfl rfl x43)) rfl (mod_i (by decide)))).trans (seq_set (l2_ok (int_ok (l2_ok rfl rfl x42)) rfl (mod_i (by decide)))))))) td
end Mi
namespace Mi
open PySem L2
def wst (st : List (List Nat) × List Nat) (c : Nat) : List (List Nat) × List Nat := if c = 32 then (if st.2 = [] then st else (st.1 ++ [st.2], [])) else (st.1, st.2 ++ [c])
def wfn (st : List (List Nat) × List Nat) : List (List Nat) := if st.2 = [] then st.1 else st.1 ++ [st.2]
theorem spl_words : ∀ (l : List Nat) (done : List (List Nat)) (acc : List Nat), wfn (l.foldl wst (done, acc)) = done ++ (TL.spl [32] 0 acc l).filter fun p => !decide (p = [])
  | [], done, acc => by
    rw [TL.spl_nil]
    unfold wfn
    by_cases h : acc = []
    · simp [h]
    · simp [h]
  | c :: r, done, acc => by
    by_cases hc : c = 32
    · subst hc
      rw [TL.spl_hit rfl]
      have e : (32 :: r).foldl wst (done, acc) = r.foldl wst (if acc = [] then done else done ++ [acc], []) := by
        rw [List.foldl_cons]
        unfold wst
        by_cases h : acc = []
        · simp [h]
        · simp [h]
      rw [e, spl_words r]
      by_cases h : acc = []
      · simp [h]
      · simp [h]
    · have hp : TL.pre [32] (c :: r) = false := by
        show ([c] == [32]) = false
        simp [hc]
      have e2 : TL.spl [32] 0 acc (c :: r) = TL.spl [32] 0 (acc ++ [c]) r := by
        show (if TL.pre [32] (c :: r) = true then _ else _) = _
        rw [hp]; rfl
      rw [e2, ← spl_words r done (acc ++ [c]), List.foldl_cons]
      congr 2
      unfold wst
      rw [if_neg hc]
theorem spl_mem : ∀ (l acc : List Nat), ∀ p ∈ TL.spl [32] 0 acc l, ∀ c ∈ p, c ∈ acc ∨ c ∈ l
  | [], acc, p, hp, c, hc => by
    rw [TL.spl_nil, List.mem_singleton] at hp
    exact .inl (hp ▸ hc)
  | d :: r, acc, p, hp, c, hc => by
    by_cases hd : d = 32
    · subst hd
      rw [TL.spl_hit rfl] at hp
      rcases List.mem_cons.mp hp with q | q
      · exact .inl (q ▸ hc)
      · rcases spl_mem r [] p q c hc with z | z
        · cases z
        · exact .inr (List.mem_cons_of_mem _ z)
    · have hpre : TL.pre [32] (d :: r) = false := by
        show ([d] == [32]) = false
        simp [hd]
      have e2 : TL.spl [32] 0 acc (d :: r) = TL.spl [32] 0 (acc ++ [d]) r := by
        show (if TL.pre [32] (d :: r) = true then _ else _) = _
        rw [hpre]; rfl
      rw [e2] at hp
      rcases spl_mem r (acc ++ [d]) p hp c hc with z | z
      · rcases List.mem_append.mp z with y | y
        · exact .inl y
        · rw [List.mem_singleton.mp y]; exact .inr List.mem_cons_self
      · exact .inr (List.mem_cons_of_mem _ z)
theorem split_words_spec {t : Str} {ws : List Str} (ht : Asc t) (hl : t.length ≤ 5000) (h : wfn (t.cps.toList.foldl wst ([], [])) = ws.map fun w => w.cps.toList) : f_split_words [.str t] = .ok (.lst (ws.map .str)) := by
  have hsp : (Str.ofString " ").cps.toList = [32] ∧ (Str.ofString " ").length = 1 ∧ (Str.ofString " ").cps.all (· < 256) = true ∧ Asc (Str.ofString "") := ⟨by decide +kernel, by decide +kernel, by decide +kernel, asc_lit (by decide +kernel)⟩
  obtain ⟨s1, s2, s3, s4⟩ := hsp
  have hs := TL.split_spl t (Str.ofString " ") (by show (Str.ofString " ").cps.toList ≠ []; rw [s1]; exact List.cons_ne_nil _ _) (TL.kind_ok s3)
  rw [show TL.tl (Str.ofString " ") = [32] from s1] at hs
  have hle := PyProof.Rows.split_le t (Str.ofString " ")
  have hasc : ∀ w ∈ Txt.split t (Str.ofString " "), Asc w := fun w hw c hc => by
    have hm : TL.tl w ∈ TL.spl [32] 0 [] (TL.tl t) := by rw [← hs]; exact List.mem_map.mpr ⟨w, hw, rfl⟩
    rcases spl_mem _ _ _ hm c hc with z | z
    · cases z
    · exact ht c z
  have hc := mLc_fil (it := mIt (mS1 fSplit (mVar 0) (mC (.str " ")))) (g := mGName 1) (t := mB (l2 D.neq (mVar 1) (mC (.str "")))) (e := mVar 1) (vs := [1]) (ρ := [some (.str t), none]) (ds := (Txt.split t (Str.ofString " ")).map .str)
    (p := fun d => match d with | .str w => !decide (w = Str.ofString "") | _ => true) (f := id)
    (by
      have : fSplit t (.str (Str.ofString " ")) = .ok (.lst ((Txt.split t (Str.ofString " ")).map .str)) := by
        show (if (!((Str.ofString " ").length == 0) && smallS t.length) = true then R.ok (D.lst ((Txt.split t (Str.ofString " ")).map D.str)) else .stuck) = _
        rw [s2, if_pos (by rw [show smallS t.length = true from Nat.ble_eq_true_of_le (by omega)]; rfl)]
      show ((fSplit t (.str (Str.ofString " "))).bind D.items) = _
      rw [this]; rfl) (by rw [List.length_map]; omega) (fun d hd => by
      obtain ⟨w, hw', rfl⟩ := List.mem_map.mp hd
      refine ⟨_, rfl, ?_, fun _ => rfl⟩
      show ((D.neq (.str w) (.str (Str.ofString ""))).bind D.toB) = _
      rw [neq_str (hasc w hw') s4]; rfl)
  rw [List.map_id] at hc
  replace hc := hc.trans (congrArg (fun x => R.ok (D.lst x)) (filt (p := fun w => !decide (w = Str.ofString "")) (Txt.split t (Str.ofString " "))))
  have hw : (Txt.split t (Str.ofString " ")).filter (fun w => !decide (w = Str.ofString "")) = ws := by
    refine TL.map_tl_inj ?_
    have hsw := spl_words t.cps.toList [] []
    rw [h, List.nil_append, ← hs] at hsw
    rw [show ws.map TL.tl = ws.map fun w => w.cps.toList from rfl, hsw, List.filter_map]
    congr 1
    refine List.filter_congr fun w _ => ?_
    have : (w = Str.ofString "") = (TL.tl w = []) := by
      rw [eq_iff_iff]
      constructor
      · intro e; rw [e]; decide +kernel
      · intro e; exact TL.ext_tl (e.trans (show ([] : List Nat) = TL.tl (Str.ofString "") by decide +kernel))
    simp only [Function.comp, this]
  rw [hw] at hc
  have e0 : f_split_words [.str t] = fin false (m_split_words [some (.str t), none]) := rfl
  rw [e0]
  unfold m_split_words
  rw [ret_ok hc]; rfl
theorem wst_good : ∀ (l : List Nat) (done : List (List Nat)) (cur : List Nat), (∀ c ∈ l, c ≠ 32) → l.foldl wst (done, cur) = (done, cur ++ l)
  | [], done, cur, _ => by rw [List.append_nil]; rfl
  | c :: l, done, cur, h => by
    rw [List.foldl_cons]
    have : wst (done, cur) c = (done, cur ++ [c]) := by unfold wst; rw [if_neg (h c List.mem_cons_self)]
    rw [this, wst_good l done (cur ++ [c]) fun d hd => h d (List.mem_cons_of_mem _ hd), List.append_assoc]; rfl
theorem wst_sp0 : ∀ (k : Nat) (done : List (List Nat)), (List.replicate k 32).foldl wst (done, []) = (done, [])
  | 0, _ => rfl
  | k + 1, done => by
    rw [List.replicate_succ, List.foldl_cons]
    exact wst_sp0 k done
theorem wst_sp1 {k : Nat} (hk : 1 ≤ k) {done : List (List Nat)} {cur : List Nat} (hc : cur ≠ []) : (List.replicate k 32).foldl wst (done, cur) = (done ++ [cur], []) := by
  obtain ⟨j, rfl⟩ : ∃ j, k = j + 1 := ⟨k - 1, by omega⟩
  rw [List.replicate_succ, List.foldl_cons]
  have : wst (done, cur) 32 = (done ++ [cur], []) := by unfold wst; rw [if_pos rfl, if_neg hc]
  rw [this, wst_sp0]
theorem wfn_sp (k : Nat) (st : List (List Nat) × List Nat) : wfn ((List.replicate k 32).foldl wst st) = wfn st := by
  obtain ⟨done, cur⟩ := st
  by_cases hc : cur = []
  · rw [hc, wst_sp0]
  · cases k with
    | zero => rfl
    | succ k =>
      rw [wst_sp1 (by omega) hc]
      unfold wfn
      rw [if_pos rfl, if_neg hc]
theorem mul_sp {k : Int} (h0 : 0 ≤ k) (h3 : k ≤ 3) : ∃ s : Str, D.mul (.str " ") (.int k) = .ok (.str s) ∧ s.cps.toList = List.replicate k.toNat 32 := by
  refine ⟨Txt.mul (Str.ofString " ") k, ?_, ?_⟩
  · show (if (decide (0 ≤ k) && decide (k ≤ 100000) && small ((Str.ofString " ").length * k.toNat)) = true then R.ok (D.str (Txt.mul (Str.ofString " ") k)) else .stuck) = _
    have s2 : (Str.ofString " ").length = 1 := by decide +kernel
    rw [if_pos (by rw [s2, Bool.and_eq_true, Bool.and_eq_true]; exact ⟨⟨decide_eq_true h0, decide_eq_true (by omega)⟩, small_of (by omega)⟩)]
  · have : k = 0 ∨ k = 1 ∨ k = 2 ∨ k = 3 := by omega
    rcases this with q | q | q | q <;> rw [q] <;> decide +kernel
theorem asc_sp {s : Str} {k : Nat} (h : s.cps.toList = List.replicate k 32) : Asc s := fun c hc => by
  rw [h] at hc
  rw [(List.mem_replicate.mp hc).2]; omega
theorem Asc.app {a b : Str} (ha : Asc a) (hb : Asc b) : Asc (a ++ b) := fun c hc => by
  rw [tl_app] at hc
  exact (List.mem_append.mp hc).elim (ha c) (hb c)
end Mi
namespace Mi
open PySem L2
theorem seq_nx {A R' : MS} {ρ ρ' : Rho} (h : A ρ = .nx ρ') : mSeq A R' ρ = R' ρ' := by rw [mSeq_a, h]
theorem if_t {c : MT} {A B : MS} {ρ : Rho} (h : c ρ = .ok true) : mIf c A B ρ = A ρ := by rw [mIf_a, h]; rfl
theorem if_f {c : MT} {A B : MS} {ρ : Rho} (h : c ρ = .ok false) : mIf c A B ρ = B ρ := by rw [mIf_a, h]; rfl
theorem gt_t {a : ME} {ρ : Rho} {i k : Int} (h : a ρ = .ok (.int i)) (c : k < i) : mB (l2 D.gt a (mC (.int k))) ρ = .ok true := by
  rw [mB_a, l2_a, h, bind_okS, mC_a, bind_okS]
  show R.ok (decide (k < i)) = _
  rw [decide_eq_true c]
theorem gt_f {a : ME} {ρ : Rho} {i k : Int} (h : a ρ = .ok (.int i)) (c : ¬ k < i) : mB (l2 D.gt a (mC (.int k))) ρ = .ok false := by
  rw [mB_a, l2_a, h, bind_okS, mC_a, bind_okS]
  show R.ok (decide (k < i)) = _
  rw [decide_eq_false c]
theorem and_t {a b : MT} {ρ : Rho} {x : Bool} (h : a ρ = .ok true) (h2 : b ρ = .ok x) : mAnd a b ρ = .ok x := by rw [mAnd_a, h]; exact h2
theorem and_f {a b : MT} {ρ : Rho} (h : a ρ = .ok false) : mAnd a b ρ = .ok false := by rw [mAnd_a, h]; rfl
theorem len_ok {a : ME} {ρ : Rho} {ds : List D} (h : a ρ = .ok (.lst ds)) : mCall fLen (mCons a mNil) ρ = .ok (.int ds.length) := by rw [mCall_a, cons_ok h nil_ok]; rfl
theorem sliceS_ok {e : ME} {lo hi : MO} {ρ : Rho} {ws : List Str} {a b : Option Int} (h : e ρ = .ok (.lst (ws.map .str))) (h1 : lo ρ = .ok a) (h2 : hi ρ = .ok b) : mSliceS e lo hi ρ = .ok (.lst (cutD (ws.map .str) a b)) := by
  unfold mSliceS
  rw [h, bind_okS, h1, bind_okS, h2, bind_okS]
  show (if (ws.map D.str).all D.flat = true then R.ok (D.lst (cutD (ws.map .str) a b)) else .stuck) = _
  rw [if_pos (flat_strs ws)]
theorem part_ok {e : ME} {ρ : Rho} {i : Int} (h : e ρ = .ok (.int i)) : mPart e ρ = .ok (some i) := by rw [mPart_a, h]; rfl
theorem app_okS {e : ME} {ρ : Rho} {i : Nat} {ds : List D} {d : D} (h : mVar i ρ = .ok (.lst ds)) (hl : ds.length ≤ 100000) (he : e ρ = .ok d) : mApp (mVar i) (putV i) e ρ = .nx (ρ.set i (some (.lst (ds ++ [d])))) := by
  rw [mApp_a, h, bind_okS, isL_a, if_pos (small_of hl), rO_ok, he]; rfl
/-- the words, changed or not -/
theorem law_mid {xs : List Int} {ws : List Str} (hx : xs.length = 60) (nx : ∀ x ∈ xs, nOk x) (h1 : 1 ≤ ws.length) (hw : ws.length ≤ 9) (gw : ∀ w ∈ ws, Good w) :
    ∃ (vs : List Str) (o3 o4 : Option D), ((mIf (mB (l2 D.gt (l2 D.mod (mCall fInt (mCons (l2 D.ix (mVar 1) (mC (.int 41))) mNil)) (mC (.int 3))) (mC (.int 0)))) (mSeq (mSet 3 (mCall f__law_formed (mCons (mVar 1) (mCons (mVar 2) mNil)))) (mSeq (mSet 4 (l2 D.mod (mCall fInt (mCons (l2 D.ix (mVar 1) (mC (.int 44))) mNil)) (mCall fLen (mCons (mVar 3) mNil)))) (mSeq (mIf (mB (l2 D.eqq (l2 D.mod (mCall fInt (mCons (l2 D.ix (mVar 1) (mC (.int 45))) mNil)) (mC (.int 6))) (mC (.int 0)))) (mAsgG (l2 D.ix (mVar 2) (mC (.int 0))) (mGSub (mVar 3) (putV 3) (mVar 4))) mNext) (mSeq (mIf (mAnd (mB (l2 D.eqq (l2 D.mod (mCall fInt (mCons (l2 D.ix (mVar 1) (mC (.int 45))) mNil)) (mC (.int 6))) (mC (.int 1)))) (mB (l2 D.gt (mCall fLen (mCons (mVar 3) mNil)) (mC (.int 1))))) (mSet 3 (l2 D.catL (mSliceS (mVar 3) mNoPart (mPart (mVar 4))) (mSliceS (mVar 3) (mPart (l2 D.add (mVar 4) (mC (.int 1)))) mNoPart))) mNext) (mSeq (mIf (mB (l2 D.eqq (l2 D.mod (mCall fInt (mCons (l2 D.ix (mVar 1) (mC (.int 45))) mNil)) (mC (.int 6))) (mC (.int 2)))) (mApp (mVar 3) (putV 3) (l2 D.ix (mVar 2) (mC (.int 0)))) mNext) (mSet 2 (mVar 3))))))) mNext)) [none, some (.lst (xs.map .int)), some (.lst (ws.map .str)), none, none, none, none, none, none, none] = .nx [none, some (.lst (xs.map .int)), some (.lst (vs.map .str)), o3, o4, none, none, none, none, none] ∧ 1 ≤ vs.length ∧ vs.length ≤ 12 ∧ ∀ w ∈ vs, Good w := by
  obtain ⟨n41, x41, _⟩ := ix_nums (xs := xs) (k := 41) (by omega) (by omega) nx
  obtain ⟨n44, x44, _⟩ := ix_nums (xs := xs) (k := 44) (by omega) (by omega) nx
  obtain ⟨n45, x45, _⟩ := ix_nums (xs := xs) (k := 45) (by omega) (by omega) nx
  by_cases c41 : 0 < n41 % 3
  · obtain ⟨d, hd, rs, rfl, r1, r2, r3⟩ := formed_spec hx nx hw gw
    have hlen : (0 : Int) < (rs.length : Int) := by omega
    obtain ⟨p, hp⟩ : ∃ p, p = n44 % (rs.length : Int) := ⟨_, rfl⟩
    have hp0 : 0 ≤ p := by rw [hp]; exact Int.emod_nonneg _ (by omega)
    have hp1 : p < rs.length := by rw [hp]; exact Int.emod_lt_of_pos _ hlen
    obtain ⟨w0, hw0, e0⟩ := pick_l (zs := ws) (k := 0) (by omega) (by omega)
    -- line, place
    have s1 : (mCall f__law_formed (mCons (mVar 1) (mCons (mVar 2) mNil))) [none, some (.lst (xs.map .int)), some (.lst (ws.map .str)), none, none, none, none, none, none, none] = .ok (.lst (rs.map .str)) := hd
    have s2 : (l2 D.mod (mCall fInt (mCons (l2 D.ix (mVar 1) (mC (.int 44))) mNil)) (mCall fLen (mCons (mVar 3) mNil))) [none, some (.lst (xs.map .int)), some (.lst (ws.map .str)), some (.lst (rs.map .str)), none, none, none, none, none, none] = .ok (.int p) :=
      l2_ok (int_ok (l2_ok rfl rfl x44)) (by rw [len_ok (ds := rs.map .str) rfl, List.length_map]) (by rw [hp]; exact mod_i hlen)
    have v45 : ∀ a3 : Option D, (l2 D.mod (mCall fInt (mCons (l2 D.ix (mVar 1) (mC (.int 45))) mNil)) (mC (.int 6))) [none, some (.lst (xs.map .int)), some (.lst (ws.map .str)), a3, some (.int p), none, none, none, none, none] = .ok (.int (n45 % 6)) := fun a3 => l2_ok (int_ok (l2_ok rfl rfl x45)) rfl (mod_i (by decide))
    have head := (if_t (A := _) (B := mNext) (gt_t (i := n41 % 3) (k := 0) (ρ := [none, some (.lst (xs.map .int)), some (.lst (ws.map .str)), none, none, none, none, none, none, none]) (l2_ok (int_ok (l2_ok rfl rfl x41)) rfl (mod_i (by decide))) c41)
      : ((mIf (mB (l2 D.gt (l2 D.mod (mCall fInt (mCons (l2 D.ix (mVar 1) (mC (.int 41))) mNil)) (mC (.int 3))) (mC (.int 0)))) (mSeq (mSet 3 (mCall f__law_formed (mCons (mVar 1) (mCons (mVar 2) mNil)))) (mSeq (mSet 4 (l2 D.mod (mCall fInt (mCons (l2 D.ix (mVar 1) (mC (.int 44))) mNil)) (mCall fLen (mCons (mVar 3) mNil)))) (mSeq (mIf (mB (l2 D.eqq (l2 D.mod (mCall fInt (mCons (l2 D.ix (mVar 1) (mC (.int 45))) mNil)) (mC (.int 6))) (mC (.int 0)))) (mAsgG (l2 D.ix (mVar 2) (mC (.int 0))) (mGSub (mVar 3) (putV 3) (mVar 4))) mNext) (mSeq (mIf (mAnd (mB (l2 D.eqq (l2 D.mod (mCall fInt (mCons (l2 D.ix (mVar 1) (mC (.int 45))) mNil)) (mC (.int 6))) (mC (.int 1)))) (mB (l2 D.gt (mCall fLen (mCons (mVar 3) mNil)) (mC (.int 1))))) (mSet 3 (l2 D.catL (mSliceS (mVar 3) mNoPart (mPart (mVar 4))) (mSliceS (mVar 3) (mPart (l2 D.add (mVar 4) (mC (.int 1)))) mNoPart))) mNext) (mSeq (mIf (mB (l2 D.eqq (l2 D.mod (mCall fInt (mCons (l2 D.ix (mVar 1) (mC (.int 45))) mNil)) (mC (.int 6))) (mC (.int 2)))) (mApp (mVar 3) (putV 3) (l2 D.ix (mVar 2) (mC (.int 0)))) mNext) (mSet 2 (mVar 3))))))) mNext)) [none, some (.lst (xs.map .int)), some (.lst (ws.map .str)), none, none, none, none, none, none, none] = _)
    rw [head]
    -- the three changes, one by one
    have fin3 : ∀ vs : List Str, mSet 2 (mVar 3) [none, some (.lst (xs.map .int)), some (.lst (ws.map .str)), some (.lst (vs.map .str)), some (.int p), none, none, none, none, none] = .nx [none, some (.lst (xs.map .int)), some (.lst (vs.map .str)), some (.lst (vs.map .str)), some (.int p), none, none, none, none, none] := fun vs => rfl
    by_cases k0 : n45 % 6 = 0
    · have hset : (mAsgG (l2 D.ix (mVar 2) (mC (.int 0))) (mGSub (mVar 3) (putV 3) (mVar 4))) [none, some (.lst (xs.map .int)), some (.lst (ws.map .str)), some (.lst (rs.map .str)), some (.int p), none, none, none, none, none] = .nx [none, some (.lst (xs.map .int)), some (.lst (ws.map .str)), some (.lst ((rs.set p.toNat w0).map .str)), some (.int p), none, none, none, none, none] := by
        have hix : ixN (rs.map D.str).length p = some p.toNat := by
          unfold ixN
          rw [if_pos hp0, List.length_map, if_pos hp1]
        have hs : (D.lst (rs.map .str)).setAt (.int p) (.str w0) = .ok (.lst ((rs.set p.toNat w0).map .str)) := by
          show (match ixN (rs.map D.str).length p with | some j => R.ok (D.lst ((rs.map D.str).set j (.str w0))) | none => .stuck) = _
          rw [hix, List.map_set]
        rw [mAsgG_a, l2_ok (ρ := [none, some (.lst (xs.map .int)), some (.lst (ws.map .str)), some (.lst (rs.map .str)), some (.int p), none, none, none, none, none]) rfl rfl e0, rO_ok]
        show rO (noEx (((D.lst (rs.map .str)).setAt (.int p) (.str w0)).bind fun d' => R.ok _)) _ _ = _
        rw [hs]; rfl
      refine ⟨rs.set p.toNat w0, some (.lst ((rs.set p.toNat w0).map .str)), some (.int p), ?_, by rw [List.length_set]; exact r1, by rw [List.length_set]; omega, fun w hw' => ?_⟩
      · refine (seq_set s1).trans ((seq_set s2).trans ((seq_nx ((if_t (eq_t (v45 _) k0)).trans hset)).trans ((seq_nx ((if_f (and_f (eq_f (v45 _) (by omega)))).trans rfl)).trans ((seq_nx ((if_f (eq_f (v45 _) (by omega))).trans rfl)).trans (fin3 _)))))
      · rcases List.mem_or_eq_of_mem_set hw' with q | q
        · exact r3 w q
        · rw [q]; exact gw w0 hw0
    · by_cases k1 : n45 % 6 = 1 ∧ 1 < rs.length
      · have hc : (l2 D.catL (mSliceS (mVar 3) mNoPart (mPart (mVar 4))) (mSliceS (mVar 3) (mPart (l2 D.add (mVar 4) (mC (.int 1)))) mNoPart)) [none, some (.lst (xs.map .int)), some (.lst (ws.map .str)), some (.lst (rs.map .str)), some (.int p), none, none, none, none, none] = .ok (.lst ((rs.take p.toNat ++ rs.drop (p.toNat + 1)).map .str)) := by
          have pe : p = ((p.toNat : Nat) : Int) := by omega
          have t1 : cutD (rs.map D.str) none (some p) = (rs.take p.toNat).map .str := by rw [pe, cut_take, ← List.map_take]; rfl
          have t2 : cutD (rs.map D.str) (some (p + 1)) none = (rs.drop (p.toNat + 1)).map .str := by
            rw [show p + 1 = ((p.toNat + 1 : Nat) : Int) by omega, cut_drop, ← List.map_drop]
          refine l2_ok (sliceS_ok (ws := rs) rfl rfl (part_ok rfl)) (sliceS_ok (ws := rs) rfl (part_ok (l2_ok rfl rfl rfl)) rfl) ?_
          rw [t1, t2, List.map_append]
          refine cat_ok ?_
          rw [List.length_map, List.length_map, List.length_take, List.length_drop]; omega
        refine ⟨rs.take p.toNat ++ rs.drop (p.toNat + 1), some (.lst ((rs.take p.toNat ++ rs.drop (p.toNat + 1)).map .str)), some (.int p), ?_, by rw [List.length_append, List.length_take, List.length_drop]; omega, by rw [List.length_append, List.length_take, List.length_drop]; omega, fun w hw' => ?_⟩
        · refine (seq_set s1).trans ((seq_set s2).trans ((seq_nx ((if_f (eq_f (v45 _) k0)).trans rfl)).trans ((seq_nx ((if_t (and_t (eq_t (v45 _) k1.1) (gt_t (len_ok rfl) (by rw [List.length_map]; omega)))).trans (show mSet 3 _ _ = _ by rw [mSet_a, hc]; rfl))).trans ((seq_nx ((if_f (eq_f (v45 _) (by omega))).trans rfl)).trans (fin3 _)))))
        · rcases List.mem_append.mp hw' with q | q
          · exact r3 w (List.mem_of_mem_take q)
          · exact r3 w (List.mem_of_mem_drop q)
      · have hk1 : (mAnd (mB (l2 D.eqq (l2 D.mod (mCall fInt (mCons (l2 D.ix (mVar 1) (mC (.int 45))) mNil)) (mC (.int 6))) (mC (.int 1)))) (mB (l2 D.gt (mCall fLen (mCons (mVar 3) mNil)) (mC (.int 1))))) [none, some (.lst (xs.map .int)), some (.lst (ws.map .str)), some (.lst (rs.map .str)), some (.int p), none, none, none, none, none] = .ok false := by
          by_cases z : n45 % 6 = 1
          · exact and_t (eq_t (v45 _) z) (gt_f (len_ok rfl) (by rw [List.length_map]; omega))
          · exact and_f (eq_f (v45 _) z)
        by_cases k2 : n45 % 6 = 2
        · refine ⟨rs ++ [w0], some (.lst ((rs ++ [w0]).map .str)), some (.int p), ?_, by rw [List.length_append]; omega, by rw [List.length_append, List.length_singleton]; omega, fun w hw' => ?_⟩
          · refine (seq_set s1).trans ((seq_set s2).trans ((seq_nx ((if_f (eq_f (v45 _) k0)).trans rfl)).trans ((seq_nx ((if_f hk1).trans rfl)).trans ((seq_nx ((if_t (eq_t (v45 _) k2)).trans ((app_okS (ds := rs.map .str) rfl (by rw [List.length_map]; omega) (l2_ok rfl rfl e0)).trans (by rw [List.map_append]; rfl)))).trans (fin3 _)))))
          · rcases List.mem_append.mp hw' with q | q
            · exact r3 w q
            · rw [List.mem_singleton.mp q]; exact gw w0 hw0
        · refine ⟨rs, some (.lst (rs.map .str)), some (.int p), ?_, r1, by omega, r3⟩
          exact (seq_set s1).trans ((seq_set s2).trans ((seq_nx ((if_f (eq_f (v45 _) k0)).trans rfl)).trans ((seq_nx ((if_f hk1).trans rfl)).trans ((seq_nx ((if_f (eq_f (v45 _) k2)).trans rfl)).trans (fin3 _)))))
  · exact ⟨ws, none, none, (if_f (gt_f (l2_ok (int_ok (l2_ok rfl rfl x41)) rfl (mod_i (by decide))) c41)).trans rfl, h1, by omega, gw⟩
end Mi
namespace Mi
open PySem L2
theorem lt2_t {a b : ME} {ρ : Rho} {i k : Int} (h : a ρ = .ok (.int i)) (h2 : b ρ = .ok (.int k)) (c : i < k) : mB (l2 D.lt a b) ρ = .ok true := by
  rw [mB_a, l2_a, h, bind_okS, h2, bind_okS]
  show R.ok (decide (i < k)) = _
  rw [decide_eq_true c]
theorem lt2_f {a b : ME} {ρ : Rho} {i k : Int} (h : a ρ = .ok (.int i)) (h2 : b ρ = .ok (.int k)) (c : ¬ i < k) : mB (l2 D.lt a b) ρ = .ok false := by
  rw [mB_a, l2_a, h, bind_okS, h2, bind_okS]
  show R.ok (decide (i < k)) = _
  rw [decide_eq_false c]
def lawSt (xs : List Int) (vs : List Str) (o3 o4 : Option D) (t : Str) (k : Option D) : Rho := [none, some (.lst (xs.map .int)), some (.lst (vs.map .str)), o3, o4, some (.str t), k, none, none, none]
abbrev tls (vs : List Str) : List (List Nat) := vs.map fun w => w.cps.toList
/-- the text grows word by word -/
theorem law_text {xs : List Int} {vs : List Str} {o3 o4 : Option D} {t0 : Str} (hx : xs.length = 60) (nx : ∀ x ∈ xs, nOk x) (h1 : 1 ≤ vs.length) (hv : vs.length ≤ 12) (gv : ∀ w ∈ vs, Good w) (ht0 : Asc t0) (hl0 : t0.length ≤ 3) (hw0 : t0.cps.toList.foldl wst ([], []) = ([], [])) :
    ∃ (t : Str) (k : Option D), ((mFor (mRange1 (mCons (mCall fLen (mCons (mVar 2) mNil)) mNil)) (mGName 6) (mSeq (mSet 5 (l2 D.add (mVar 5) (l2 D.ix (mVar 2) (mVar 6)))) (mIf (mB (l2 D.lt (l2 D.add (mVar 6) (mC (.int 1))) (mCall fLen (mCons (mVar 2) mNil)))) (mSet 5 (l2 D.add (mVar 5) (l2 D.mul (mC (.str " ")) (l2 D.add (mC (.int 1)) (l2 D.mod (mCall fInt (mCons (l2 D.add (l2 D.ix (mVar 1) (mC (.int 47))) (l2 D.mul (mVar 6) (l2 D.ix (mVar 1) (mC (.int 48))))) mNil)) (mC (.int 3))))))) mNext)))) (lawSt xs vs o3 o4 t0 none) = .nx (lawSt xs vs o3 o4 t k) ∧ Asc t ∧ t.length ≤ 1000 ∧ wfn (t.cps.toList.foldl wst ([], [])) = tls vs := by
  obtain ⟨n47, x47, a47⟩ := ix_nums (xs := xs) (k := 47) (by omega) (by omega) nx
  obtain ⟨n48, x48, a48⟩ := ix_nums (xs := xs) (k := 48) (by omega) (by omega) nx
  obtain ⟨ρ', r1, t, k, rfl, r2, r3, r4⟩ := mFor_inv (it := mRange1 (mCons (mCall fLen (mCons (mVar 2) mNil)) mNil)) (g := mGName 6) (s := (mSeq (mSet 5 (l2 D.add (mVar 5) (l2 D.ix (mVar 2) (mVar 6)))) (mIf (mB (l2 D.lt (l2 D.add (mVar 6) (mC (.int 1))) (mCall fLen (mCons (mVar 2) mNil)))) (mSet 5 (l2 D.add (mVar 5) (l2 D.mul (mC (.str " ")) (l2 D.add (mC (.int 1)) (l2 D.mod (mCall fInt (mCons (l2 D.add (l2 D.ix (mVar 1) (mC (.int 47))) (l2 D.mul (mVar 6) (l2 D.ix (mVar 1) (mC (.int 48))))) mNil)) (mC (.int 3))))))) mNext)))
    (ρ := lawSt xs vs o3 o4 t0 none) (ds := (List.range vs.length).map fun i => D.int (i : Nat)) (fun i ρ => ∃ (t : Str) (k : Option D), ρ = lawSt xs vs o3 o4 t k ∧ Asc t ∧ t.length ≤ 3 + 44 * i ∧ ((i < vs.length ∧ t.cps.toList.foldl wst ([], []) = (tls (vs.take i), [])) ∨ (i = vs.length ∧ wfn (t.cps.toList.foldl wst ([], [])) = tls vs)))
    (by
      have e : mCall fLen (mCons (mVar 2) mNil) (lawSt xs vs o3 o4 t0 none) = .ok (.int vs.length) := by rw [len_ok (ds := vs.map .str) rfl, List.length_map]
      rw [mRange1_a, cons_ok e nil_ok, bind_okS, rg1_of (by omega) (by omega), Int.toNat_natCast])
    ⟨t0, none, rfl, ht0, by omega, .inl ⟨by omega, by rw [hw0]; rfl⟩⟩ (fun j d ρ hj ⟨t, k, e, ha, hl, hst⟩ => by
      subst e
      obtain ⟨hjm, rfl⟩ := range_get hj
      have hst : t.cps.toList.foldl wst ([], []) = (tls (vs.take j), []) := by
        rcases hst with ⟨_, z⟩ | ⟨z, _⟩
        · exact z
        · omega
      obtain ⟨w, hwm, hwe⟩ : ∃ w, vs[j]? = some w ∧ w ∈ vs := ⟨vs[j], List.getElem?_eq_getElem hjm, List.getElem_mem hjm⟩
      obtain ⟨g1, g2, g3⟩ := gv w hwe
      have hwn : w.cps.toList ≠ [] := fun z => by rw [len_tl, z] at g1; exact absurd g1 (by decide)
      have ixw : D.ix (.lst (vs.map .str)) (.int (j : Nat)) = .ok (.str w) := ix_l (atI_nat (by rw [List.getElem?_map, hwm]; rfl))
      have htk : tls (vs.take (j + 1)) = tls (vs.take j) ++ [w.cps.toList] := by
        unfold tls
        rw [List.take_add_one, hwm, List.map_append]; rfl
      have ad1 : D.add (.str t) (.str w) = .ok (.str (t ++ w)) := add_s (by omega)
      have ha1 : Asc (t ++ w) := ha.app (gv w hwe).asc
      have hst1 : (t ++ w).cps.toList.foldl wst ([], []) = (tls (vs.take j), w.cps.toList) := by
        rw [tl_app, List.foldl_append, hst, wst_good _ _ _ fun c hc => (g3 c hc).2]; rfl
      have b1 : (l2 D.add (mVar 5) (l2 D.ix (mVar 2) (mVar 6))) (lawSt xs vs o3 o4 t (some (.int (j : Nat)))) = .ok (.str (t ++ w)) := l2_ok rfl (l2_ok rfl rfl ixw) ad1
      have el : mCall fLen (mCons (mVar 2) mNil) (lawSt xs vs o3 o4 (t ++ w) (some (.int (j : Nat)))) = .ok (.int vs.length) := by rw [len_ok (ds := vs.map .str) rfl, List.length_map]
      by_cases hlast : j + 1 < vs.length
      · obtain ⟨q, hq⟩ : ∃ q : Int, q = 1 + (n47 + (j : Nat) * n48) % 3 := ⟨_, rfl⟩
        obtain ⟨s, hs1, hs2⟩ := mul_sp (k := q) (by omega) (by omega)
        have hsl : s.length ≤ 3 := by rw [len_tl, hs2, List.length_replicate]; omega
        have m48 : D.mul (.int (j : Nat)) (.int n48) = .ok (.int ((j : Nat) * n48)) := mul_i (.inl (in64_of (by omega) (by omega)))
        have ad2 : D.add (.str (t ++ w)) (.str s) = .ok (.str (t ++ w ++ s)) := add_s (by rw [len_app]; omega)
        have b2 : (l2 D.add (mVar 5) (l2 D.mul (mC (.str " ")) (l2 D.add (mC (.int 1)) (l2 D.mod (mCall fInt (mCons (l2 D.add (l2 D.ix (mVar 1) (mC (.int 47))) (l2 D.mul (mVar 6) (l2 D.ix (mVar 1) (mC (.int 48))))) mNil)) (mC (.int 3)))))) (lawSt xs vs o3 o4 (t ++ w) (some (.int (j : Nat)))) = .ok (.str (t ++ w ++ s)) :=
          l2_ok rfl (l2_ok rfl (l2_ok rfl (l2_ok (int_ok (l2_ok (l2_ok rfl rfl x47) (l2_ok rfl (l2_ok rfl rfl x48) m48) rfl)) rfl (mod_i (by decide))) rfl) (by rw [← hq]; exact hs1)) ad2
        refine ⟨lawSt xs vs o3 o4 t (some (.int (j : Nat))), lawSt xs vs o3 o4 (t ++ w ++ s) (some (.int (j : Nat))), rfl, ?_, t ++ w ++ s, _, rfl, ha1.app (asc_sp hs2), by rw [len_app, len_app]; omega, .inl ⟨hlast, ?_⟩⟩
        · exact (seq_set b1).trans ((if_t (lt2_t (l2_ok rfl rfl rfl) el (by omega))).trans (by rw [mSet_a]; exact (congrArg (fun r => rO r _ _) b2).trans rfl))
        · rw [tl_app, List.foldl_append, hst1, hs2, wst_sp1 (by omega) hwn, htk]
      · refine ⟨lawSt xs vs o3 o4 t (some (.int (j : Nat))), lawSt xs vs o3 o4 (t ++ w) (some (.int (j : Nat))), rfl, ?_, t ++ w, _, rfl, ha1, by rw [len_app]; omega, .inr ⟨by omega, ?_⟩⟩
        · exact (seq_set b1).trans ((if_f (lt2_f (l2_ok rfl rfl rfl) el (by omega))).trans rfl)
        · rw [hst1]
          unfold wfn
          rw [if_neg hwn, ← htk, List.take_of_length_le (by omega)])
  rw [List.length_map, List.length_range] at r3 r4
  refine ⟨t, k, r1, r2, by omega, ?_⟩
  rcases r4 with ⟨z, _⟩ | ⟨_, z⟩
  · omega
  · exact z
theorem const_split : f_split_words [.str "a\tb \t"] = .ok (.lst [.str "a\tb", .str "\t"]) := by kernel_rfl
theorem fList_l (ds : List D) : fList [.lst ds] = .ok (.lst ds) := rfl
theorem ty_list (ds : List D) : D.isTy "list" (.lst ds) = .ok (.bl true) := by
  show (match kitB "list" "list" with | some b => R.ok (D.bl b) | none => .stuck) = _
  rw [show kitB "list" "list" = some true from rfl]
theorem ty_bool (b : Bool) : D.isTy "bool" (.bl b) = .ok (.bl true) := by
  show (match kitB "bool" "bool" with | some b => R.ok (D.bl b) | none => .stuck) = _
  rw [show kitB "bool" "bool" = some true from rfl]
end Mi
namespace Mi
open PySem L2
theorem or_f {a b : MT} {ρ : Rho} {x : Bool} (h : a ρ = .ok false) (h2 : b ρ = .ok x) : mOr a b ρ = .ok x := by rw [mOr_a, h]; exact h2
theorem not_t {a : MT} {ρ : Rho} (h : a ρ = .ok true) : mNot a ρ = .ok false := by rw [mNot_a, h]; rfl
theorem mb_ok {a : ME} {ρ : Rho} {b : Bool} (h : a ρ = .ok (.bl b)) : mB a ρ = .ok b := by rw [mB_a, h]; rfl
theorem l1_ok {f : D → R D} {a : ME} {ρ : Rho} {x y : D} (h : a ρ = .ok x) (hf : f x = .ok y) : l1 f a ρ = .ok y := by rw [l1_a, h]; exact hf
theorem call1_ok {f : List D → R D} {a : ME} {ρ : Rho} {x y : D} (h : a ρ = .ok x) (hf : f [x] = .ok y) : mCall f (mCons a mNil) ρ = .ok y := by rw [mCall_a, cons_ok h nil_ok]; exact hf
theorem andV_t {a b : ME} {ρ : Rho} {y : D} (h : a ρ = .ok (.bl true)) (h2 : b ρ = .ok y) : mAndV a b ρ = .ok y := by rw [mAndV_a, h]; exact h2
theorem law_true (ns : List Int) : f_law ns = .ok (.bl true) := by
  obtain ⟨xs, n1, hx, nx⟩ := num_spec ns 60 (by decide)
  have e0 : f_law ns = (fNum 4 m__law_numbers ns ((60 : Nat) : Int)).bind fun d => mRun m_law (lawRho 8 d) := rfl
  rw [e0, n1, bind_okS]
  obtain ⟨n40, x40, a40⟩ := ix_nums (xs := xs) (k := 40) (by omega) (by omega) nx
  obtain ⟨n46, x46, a46⟩ := ix_nums (xs := xs) (k := 46) (by omega) (by omega) nx
  obtain ⟨n49, x49, a49⟩ := ix_nums (xs := xs) (k := 49) (by omega) (by omega) nx
  obtain ⟨n50, x50, a50⟩ := ix_nums (xs := xs) (k := 50) (by omega) (by omega) nx
  -- the words
  obtain ⟨m, hm⟩ : ∃ m : Int, m = 1 + n40 % 9 := ⟨_, rfl⟩
  obtain ⟨ws, w1, w2, w3⟩ := lc_exS (it := mRange1 (mCons (l2 D.add (mC (.int 1)) (l2 D.mod (mCall fInt (mCons (l2 D.ix (mVar 1) (mC (.int 40))) mNil)) (mC (.int 9)))) mNil)) (i := 6)
    (e := mCall f__law_word (mCons (l2 D.ix (mVar 1) (l2 D.mul (mC (.int 2)) (mVar 6))) (mCons (l2 D.ix (mVar 1) (l2 D.add (l2 D.mul (mC (.int 2)) (mVar 6)) (mC (.int 1)))) mNil))) (vs := [6])
    (ρ := [none, some (.lst (xs.map .int)), none, none, none, none, none, none, none, none]) (ds := (List.range m.toNat).map fun i => D.int (i : Nat)) (P := Good)
    (by
      have h := l2_ok (ρ := [none, some (.lst (xs.map .int)), none, none, none, none, none, none, none, none]) (f := D.add) (a := mC (.int 1)) (b := l2 D.mod (mCall fInt (mCons (l2 D.ix (mVar 1) (mC (.int 40))) mNil)) (mC (.int 9))) rfl (l2_ok (int_ok (l2_ok rfl rfl x40)) rfl (mod_i (by decide))) (add_i 1 (n40 % 9))
      rw [mRange1_a, cons_ok h nil_ok, bind_okS, ← hm, rg1_of (by omega) (by omega)])
    (by rw [List.length_map, List.length_range]; omega) (fun d hd => by
      obtain ⟨j, hj, rfl⟩ := List.mem_map.mp hd
      have hj9 : j < 9 := by have := List.mem_range.mp hj; omega
      obtain ⟨a, xa, na⟩ := ix_nums (xs := xs) (k := 2 * (j : Int)) (by omega) (by omega) nx
      obtain ⟨b, xb, nb⟩ := ix_nums (xs := xs) (k := 2 * (j : Int) + 1) (by omega) (by omega) nx
      obtain ⟨w, hw, gw⟩ := law_word_spec na nb
      refine ⟨w, ?_, gw⟩
      have m2 : D.mul (.int 2) (.int (j : Nat)) = .ok (.int (2 * (j : Int))) := mul_i (.inl (by decide))
      have h1 : (l2 D.ix (mVar 1) (l2 D.mul (mC (.int 2)) (mVar 6))) ((wipeR [none, some (.lst (xs.map .int)), none, none, none, none, none, none, none, none] [6]).set 6 (some (.int (j : Nat)))) = .ok (.int a) := l2_ok rfl (l2_ok rfl rfl m2) xa
      have h2 : (l2 D.ix (mVar 1) (l2 D.add (l2 D.mul (mC (.int 2)) (mVar 6)) (mC (.int 1)))) ((wipeR [none, some (.lst (xs.map .int)), none, none, none, none, none, none, none, none] [6]).set 6 (some (.int (j : Nat)))) = .ok (.int b) := l2_ok rfl (l2_ok (l2_ok rfl rfl m2) rfl rfl) xb
      rw [mCall_a, cons_ok h1 (cons_ok h2 nil_ok)]
      exact hw)
  rw [List.length_map, List.length_range] at w2
  -- changed or not
  obtain ⟨vs, o3, o4, q1, v1, v2, v3⟩ := law_mid hx nx (ws := ws) (by omega) (by omega) w3
  -- the text
  obtain ⟨t0, t01, t02⟩ := mul_sp (k := n46 % 3) (by omega) (by omega)
  have hl0 : t0.length ≤ 3 := by rw [len_tl, t02, List.length_replicate]; omega
  obtain ⟨t, k, l1, l2', l3, l4⟩ := law_text (o3 := o3) (o4 := o4) hx nx v1 v2 v3 (asc_sp t02) hl0 (by rw [t02, wst_sp0])
  obtain ⟨s, s1, s2⟩ := mul_sp (k := n49 % 3) (by omega) (by omega)
  have hsl : s.length ≤ 3 := by rw [len_tl, s2, List.length_replicate]; omega
  obtain ⟨z, z1, z2⟩ := mul_sp (k := n50 % 4) (by omega) (by omega)
  have hzl : z.length ≤ 3 := by rw [len_tl, z2, List.length_replicate]; omega
  have ad : D.add (.str t) (.str s) = .ok (.str (t ++ s)) := add_s (by omega)
  have sp1 : f_split_words [.str (t ++ s)] = .ok (.lst (vs.map .str)) := split_words_spec (l2'.app (asc_sp s2)) (by rw [len_app]; omega) (by
    rw [tl_app, List.foldl_append, s2, wfn_sp]; exact l4)
  have sp2 : f_split_words [.str z] = .ok (.lst []) := split_words_spec (ws := []) (asc_sp z2) (by omega) (by rw [z2, wst_sp0]; rfl)
  obtain ⟨c0, rest, rfl⟩ : ∃ c0 rest, vs = c0 :: rest := by
    cases vs with
    | nil => exact absurd v1 (by decide)
    | cons c r => exact ⟨c, r, rfl⟩
  have hW : Wd (c0 :: rest) := good_wd v3
  rw [List.length_cons] at v2
  have ic := is_command_spec hW (by omega)
  have lc := law_command_spec hW (by omega)
  have hA : ∀ w ∈ c0 :: rest, Asc w := fun w hw => (v3 w hw).asc
  have ne1 := neq_strs hA hA
  have eq1 := eqq_strs hA hA
  rw [decide_eq_true rfl] at ne1 eq1
  have ne2 := neq_strs (a := []) (b := []) (fun w h => nomatch h) (fun w h => nomatch h)
  have hT : ∀ w ∈ ([Str.ofString "a\tb", Str.ofString "\t"] : List Str), Asc w := fun w hw => by
    simp only [List.mem_cons, List.not_mem_nil, or_false] at hw
    rcases hw with q | q <;> rw [q] <;> exact asc_lit (by decide +kernel)
  have ne3 := neq_strs hT hT
  rw [decide_eq_true rfl] at ne3
  have run : m_law (lawRho 8 (.lst (xs.map .int))) = .rt (.bl true) := by
    refine (seq_set w1).trans ((seq_nx q1).trans ((seq_set (l2_ok rfl (l2_ok (int_ok (l2_ok rfl rfl x46)) rfl (mod_i (by decide))) t01)).trans ((seq_nx l1).trans
      ((seq_set (l2_ok rfl (l2_ok rfl (l2_ok (int_ok (l2_ok rfl rfl x49)) rfl (mod_i (by decide))) s1) ad)).trans ((seq_set (call1_ok rfl sp1)).trans
      ((seq_skip (or_f (not_t (mb_ok (l1_ok rfl (ty_list _)))) (or_f (mb_ok (l2_ok rfl rfl ne1)) (mb_ok (l2_ok (call1_ok (l2_ok rfl (l2_ok (int_ok (l2_ok rfl rfl x50)) rfl (mod_i (by decide))) z1) sp2) rfl ne2))))).trans
      ((seq_skip (mb_ok (l2_ok (call1_ok rfl const_split) rfl ne3))).trans ((seq_set (call1_ok rfl (fList_l _))).trans ((seq_set (call1_ok rfl ic)).trans
      (ret_ok (andV_t (l1_ok rfl (ty_bool _)) (andV_t (l2_ok rfl (call1_ok rfl lc) ?_) (l2_ok rfl rfl eq1)))))))))))))
    rw [eqq_bl, decide_eq_true rfl]
  unfold mRun
  rw [run]
end Mi
namespace Mi
open PySem PySem.Spec PyProof.Rows L2
def top (i : Nat) : Stmt := PySem.Challenge.pw_matedsquares_k57_words_of_a_session.main.body.getD i (.Pass ⟨0, 0, 0, 0⟩)
abbrev FnP (K : PySem.W.Frag) (x : Str) (st : Stmt) (f : Addr) (fd : FuncData) : Prop := FunD K x x (defArgs st) (defBody st) (defScope st) [] [] f fd
abbrev s__law_row : Stmt := top 15
abbrev s__law_numbers : Stmt := top 16
abbrev s_split_words : Stmt := top 11
abbrev s_is_name : Stmt := top 3
abbrev s_is_number : Stmt := top 7
abbrev s_has_form : Stmt := top 12
abbrev s_is_command : Stmt := top 13
abbrev s__law_word : Stmt := top 17
abbrev s__law_is_name : Stmt := top 18
abbrev s__law_is_number : Stmt := top 20
abbrev s__law_formed : Stmt := top 23
abbrev s__law_all_numbers : Stmt := top 21
abbrev s__law_all_names : Stmt := top 19
abbrev s__law_command : Stmt := top 22
abbrev s_law : Stmt := top 24
structure FX (w : World) (K : PySem.W.Frag) (mg : Str → Option Value) where
  a__law_row : Addr
  d__law_row : FuncData
  F__law_row : FnP K "_law_row" s__law_row a__law_row d__law_row
  g__law_row : mg "_law_row" = some (.ref a__law_row)
  a__law_numbers : Addr
  d__law_numbers : FuncData
  F__law_numbers : FnP K "_law_numbers" s__law_numbers a__law_numbers d__law_numbers
  g__law_numbers : mg "_law_numbers" = some (.ref a__law_numbers)
  a_split_words : Addr
  d_split_words : FuncData
  F_split_words : FnP K "split_words" s_split_words a_split_words d_split_words
  g_split_words : mg "split_words" = some (.ref a_split_words)
  a_is_name : Addr
  d_is_name : FuncData
  F_is_name : FnP K "is_name" s_is_name a_is_name d_is_name
  g_is_name : mg "is_name" = some (.ref a_is_name)
  a_is_number : Addr
  d_is_number : FuncData
  F_is_number : FnP K "is_number" s_is_number a_is_number d_is_number
  g_is_number : mg "is_number" = some (.ref a_is_number)
  a_has_form : Addr
  d_has_form : FuncData
  F_has_form : FnP K "has_form" s_has_form a_has_form d_has_form
  g_has_form : mg "has_form" = some (.ref a_has_form)
  a_is_command : Addr
  d_is_command : FuncData
  F_is_command : FnP K "is_command" s_is_command a_is_command d_is_command
  g_is_command : mg "is_command" = some (.ref a_is_command)
  a__law_word : Addr
  d__law_word : FuncData
  F__law_word : FnP K "_law_word" s__law_word a__law_word d__law_word
  g__law_word : mg "_law_word" = some (.ref a__law_word)
  a__law_is_name : Addr
  d__law_is_name : FuncData
  F__law_is_name : FnP K "_law_is_name" s__law_is_name a__law_is_name d__law_is_name
  g__law_is_name : mg "_law_is_name" = some (.ref a__law_is_name)
  a__law_is_number : Addr
  d__law_is_number : FuncData
  F__law_is_number : FnP K "_law_is_number" s__law_is_number a__law_is_number d__law_is_number
  g__law_is_number : mg "_law_is_number" = some (.ref a__law_is_number)
  a__law_formed : Addr
  d__law_formed : FuncData
  F__law_formed : FnP K "_law_formed" s__law_formed a__law_formed d__law_formed
  g__law_formed : mg "_law_formed" = some (.ref a__law_formed)
  a__law_all_numbers : Addr
  d__law_all_numbers : FuncData
  F__law_all_numbers : FnP K "_law_all_numbers" s__law_all_numbers a__law_all_numbers d__law_all_numbers
  g__law_all_numbers : mg "_law_all_numbers" = some (.ref a__law_all_numbers)
  a__law_all_names : Addr
  d__law_all_names : FuncData
  F__law_all_names : FnP K "_law_all_names" s__law_all_names a__law_all_names d__law_all_names
  g__law_all_names : mg "_law_all_names" = some (.ref a__law_all_names)
  a__law_command : Addr
  d__law_command : FuncData
  F__law_command : FnP K "_law_command" s__law_command a__law_command d__law_command
  g__law_command : mg "_law_command" = some (.ref a__law_command)
  a_law : Addr
  d_law : FuncData
  F_law : FnP K "law" s_law a_law d_law
  g_law : mg "law" = some (.ref a_law)
  z_abs : mg "abs" = none
  z_int : mg "int" = none
  z_range : mg "range" = none
  z_len : mg "len" = none
  z_max : mg "max" = none
  z_all : mg "all" = none
  z_zip : mg "zip" = none
  z_isinstance : mg "isinstance" = none
  z_list : mg "list" = none
  z_bool : mg "bool" = none
  c_MOST_NAME_CHARS : ∃ t, mg "MOST_NAME_CHARS" = some (.int 12 t)
  c_NAME_CHARS : ∃ t, mg "NAME_CHARS" = some (.str "abcdefghijklmnopqrstuvwxyz0123456789" t)
  c_DIGITS : ∃ t, mg "DIGITS" = some (.str "0123456789" t)
  c_MOST_DIGITS : ∃ t, mg "MOST_DIGITS" = some (.int 31 t)
  k_FORMS : Addr
  c_FORMS : mg "FORMS" = some (.ref k_FORMS)
  n_FORMS : ∃ es n, KDict K w k_FORMS es n
  t_FORMS : tabB K pStr k_FORMS t_FORMS = true
  k_ASKED : Addr
  c_ASKED : mg "ASKED" = some (.ref k_ASKED)
  n_ASKED : ∃ es n, KDict K w k_ASKED es n
  t_ASKED : tabB K (pInts K) k_ASKED t_ASKED = true
section
variable {P : Program} {w : World} {K : PySem.W.Frag} {mg : Str → Option Value} {base : Heap}
theorem sc__law_row : FnScope ["_law_cell", "_law_many", "_law_row_here", "_law_rest", "_law_mixed", "_law_k"] ["_law_cell", "_law_many"] (defScope s__law_row) := ⟨rfl, rfl, rfl, by decide +kernel, rfl, by decide +kernel, by decide +kernel⟩
theorem b__law_row (T : FX w K mg) : Binds K T.d__law_row ["_law_cell", "_law_many"] [] := T.F__law_row.bindsN fun _ _ _ _ _ _ us hl => match us, hl with | [_, _], _ => rfl
theorem ok__law_row (T : FX w K mg) : FnOk P w K mg base (L2.CX P w) 1 T.a__law_row T.d__law_row ["_law_cell", "_law_many"] (spM mg (.sh) 2 f__law_row) := by
  refine T.F__law_row.ok sc__law_row (fun vs H Q E h => ?_) (fun cdv A outer s H vs Q E hr h => ?_)
  · obtain ⟨ds, F, hl, r, _⟩ := h; rw [RepL.len _ _ r, hl]; rfl
  · have hu1 : (A.deeper (envOfC "_law_row" (defScope s__law_row) s.heap.objs.size T.a__law_row cdv)).units + 1 < cLine := by have := hr.un; omega
    have hu64 : (A.deeper (envOfC "_law_row" (defScope s__law_row) s.heap.objs.size T.a__law_row cdv)).units + 64 < cLine := by have := hr.un; omega
    have hu65 : (A.deeper (envOfC "_law_row" (defScope s__law_row) s.heap.objs.size T.a__law_row cdv)).units + 65 < cLine := by have := hr.un; omega
    have tk := takes_of (X := cxOf (L2.CX P w) P w K mg base ["_law_cell", "_law_many", "_law_row_here", "_law_rest", "_law_mixed", "_law_k"] "_law_row" (defScope s__law_row) T.a__law_row cdv A outer s H E) rfl rfl rfl rfl
    refine ⟨_, (pss_cons (ps_set (i := 2) sc__law_row.nd rfl (by first | exact .inl rfl | exact .inr rfl) (pe_lst pa_nil)) (pss_cons (ps_set (i := 3) sc__law_row.nd rfl (by first | exact .inl rfl | exact .inr rfl) (pe_callB call_abs (by rfl) T.z_abs boot_abs (pa_cons (pv 0) pa_nil))) (pss_cons (ps_set (i := 4) sc__law_row.nd rfl (by first | exact .inl rfl | exact .inr rfl) (pe_op op_mod (pe_callTy call_int1 (by rfl) T.z_int boot_int (pa_cons (pe_op (op_addK (K := K) rfl) (pe_op op_mulA (pv 3) pe_int) pe_int) pa_nil)) pe_int)) (pss_cons (ps_for (passes_of rfl) rfl (pi_range1 (by rfl) T.z_range (pa_cons (pv 1) pa_nil)) (pg_name (i := 5) sc__law_row.nd rfl (by first | exact .inl rfl | exact .inr rfl)) (pss_cons (ps_set (i := 4) sc__law_row.nd rfl (by first | exact .inl rfl | exact .inr rfl) (pe_op op_mod (pe_callTy call_int1 (by rfl) T.z_int boot_int (pa_cons (pe_op (op_addK (K := K) rfl) (pe_op op_mulA (pv 4) pe_int) (pe_op op_mulA pe_int (pe_op (op_addK (K := K) rfl) (pv 5) pe_int))) pa_nil)) pe_int)) (pss_one (ps_if (pt_cmpR op_ge (pe_callB call_abs (by rfl) T.z_abs boot_abs (pa_cons (pv 0) pa_nil)) (pe_op op_pow pe_int pe_int) (nomark _)) (pss_cons (ps_expr (pe_bm PySem.F.plainAttrs_list PySem.F.slot_list_append PySem.F.type_list_append mt_append (pv 2) (pa_cons (pe_op op_mod (pe_callTy call_int1 (by rfl) T.z_int boot_int (pa_cons (pv 3) pa_nil)) pe_int) pa_nil))) (pss_one (ps_set (i := 3) sc__law_row.nd rfl (by first | exact .inl rfl | exact .inr rfl) (pe_op op_fdiv (pv 3) pe_int)))) (pss_one (ps_expr (pe_bm PySem.F.plainAttrs_list PySem.F.slot_list_append PySem.F.type_list_append mt_append (pv 2) (pa_cons (pe_op op_mod (pe_callTy call_int1 (by rfl) T.z_int boot_int (pa_cons (pe_op op_fdiv (pv 4) pe_int) pa_nil)) pe_int) pa_nil)))))))) (pss_one (ps_ret (pv 2))))))), ?_⟩
    exact body_ok (N := ["_law_cell", "_law_many", "_law_row_here", "_law_rest", "_law_mixed", "_law_k"]) (Bn := [.sh, .sh, .sh, .sh, .sh, .sh]) (Bb := []) (Bxx := [.sh, .sh, .sh, .sh, .sh, .sh]) (by decide) (ss_cons (μ1 := [.sh, .sh, .ow .sh, .sh, .sh, .sh]) (ss_set (sim_lst sa_nil) rfl rfl rfl) (ss_cons (μ1 := [.sh, .sh, .ow .sh, .sh, .sh, .sh]) (ss_set (sim_cb cs_abs (sar_cons simR_var sar_nil)) rfl rfl rfl) (ss_cons (μ1 := [.sh, .sh, .ow .sh, .sh, .sh, .sh]) (ss_set (sim_op os_mod (sim_cb cs_int (sar_cons (sim_opG og_add (sim_opG og_mul (sim_var rfl) sim_int) sim_int).toR sar_nil)).toR sim_int.toR) rfl rfl rfl) (ss_cons (μ1 := [.sh, .sh, .ow .sh, .sh, .sh, .sh]) (ss_for (si_rng1 (sar_cons simR_var sar_nil)) rfl (sg_name rfl) (ss_cons (μ1 := [.sh, .sh, .ow .sh, .sh, .sh, .sh]) (ss_set (sim_op os_mod (sim_cb cs_int (sar_cons (sim_opG og_add (sim_opG og_mul (sim_var rfl) sim_int) (sim_opG og_mul sim_int (sim_opG og_add (sim_var rfl) sim_int))).toR sar_nil)).toR sim_int.toR) rfl rfl rfl) (ss_if (st_test (sim_op os_ge (sim_cb cs_abs (sar_cons simR_var sar_nil)).toR (sim_op os_pow sim_int.toR sim_int.toR).toR).toR) (ss_cons (μ1 := [.sh, .sh, .ow .sh, .sh, .sh, .sh]) (ss_app (pl_var rfl) (sim_op os_mod (sim_cb cs_int (sar_cons simR_var sar_nil)).toR sim_int.toR) rfl rfl) (ss_set (sim_op os_fdiv simR_var sim_int.toR) rfl rfl rfl)) (ss_app (pl_var rfl) (sim_op os_mod (sim_cb cs_int (sar_cons (sim_op os_fdiv simR_var sim_int.toR).toR sar_nil)).toR sim_int.toR) rfl rfl) rfl)) rfl) (ss_pre (μ1 := [.sh, .sh, .sh, .sh, .sh, .sh]) rfl (ss_ret (sim_var rfl) rfl)))))) h (fun z => nomatch z)
theorem sc__law_numbers : FnScope ["_law_script", "_law_many", "_law_cells", "_law_each", "_law_numbers_here", "_law_cell", "_law_number"] ["_law_script", "_law_many"] (defScope s__law_numbers) := ⟨rfl, rfl, rfl, by decide +kernel, rfl, by decide +kernel, by decide +kernel⟩
theorem b__law_numbers (T : FX w K mg) : Binds K T.d__law_numbers ["_law_script", "_law_many"] [] := T.F__law_numbers.bindsN fun _ _ _ _ _ _ us hl => match us, hl with | [_, _], _ => rfl
theorem ok__law_numbers (T : FX w K mg) : FnOk P w K mg base (L2.CX P w) 2 T.a__law_numbers T.d__law_numbers ["_law_script", "_law_many"] (spNum K mg (.sh) 4 m__law_numbers) := by
  refine T.F__law_numbers.ok sc__law_numbers (fun vs H Q E h => ?_) (fun cdv A outer s H vs Q E hr h => ?_)
  · obtain ⟨a, ns, k, F, rest⟩ := h; rw [rest.1]; rfl
  · have hu1 : (A.deeper (envOfC "_law_numbers" (defScope s__law_numbers) s.heap.objs.size T.a__law_numbers cdv)).units + 1 < cLine := by have := hr.un; omega
    have hu64 : (A.deeper (envOfC "_law_numbers" (defScope s__law_numbers) s.heap.objs.size T.a__law_numbers cdv)).units + 64 < cLine := by have := hr.un; omega
    have hu65 : (A.deeper (envOfC "_law_numbers" (defScope s__law_numbers) s.heap.objs.size T.a__law_numbers cdv)).units + 65 < cLine := by have := hr.un; omega
    have tk := takes_of (X := cxOf (L2.CX P w) P w K mg base ["_law_script", "_law_many", "_law_cells", "_law_each", "_law_numbers_here", "_law_cell", "_law_number"] "_law_numbers" (defScope s__law_numbers) T.a__law_numbers cdv A outer s H E) rfl rfl rfl rfl
    refine ⟨_, (pss_cons (ps_set (i := 2) sc__law_numbers.nd rfl (by first | exact .inl rfl | exact .inr rfl) (pe_slice (sl_anyK (K := K) rfl) (pv 0) po_none (po_some pe_int))) (pss_cons (ps_set (i := 3) sc__law_numbers.nd rfl (by first | exact .inl rfl | exact .inr rfl) (pe_op (op_addK (K := K) rfl) pe_int (pe_op op_fdiv (pv 1) (pe_callB (call_max2 rfl) (by rfl) T.z_max boot_max (pa_cons pe_int (pa_cons (pe_callB (call_lenKK (K := K) rfl) (by rfl) T.z_len boot_len (pa_cons (pv 2) pa_nil)) pa_nil)))))) (pss_cons (ps_set (i := 4) sc__law_numbers.nd rfl (by first | exact .inl rfl | exact .inr rfl) (pe_lst pa_nil)) (pss_cons (ps_for (passes_of rfl) rfl (pi_seqK (K := K) rfl (pv 2)) (pg_name (i := 5) sc__law_numbers.nd rfl (by first | exact .inl rfl | exact .inr rfl)) (pss_one (ps_for (passes_of rfl) rfl (pi_seqK (K := K) rfl (pe_callS (k := 1) (ok__law_row T) (Room.mono hr (by decide)) (by rfl) T.g__law_row T.F__law_row.kp (b__law_row T) (fun σ => passAt tk σ) (pa_cons (pv 5) (pa_cons (pv 3) pa_nil)))) (pg_name (i := 6) sc__law_numbers.nd rfl (by first | exact .inl rfl | exact .inr rfl)) (pss_one (ps_expr (pe_bm PySem.F.plainAttrs_list PySem.F.slot_list_append PySem.F.type_list_append mt_append (pv 4) (pa_cons (pv 6) pa_nil))))))) (pss_cons (ps_while (passes_of rfl) (pt_cmpR op_lt (pe_callB (call_lenKK (K := K) rfl) (by rfl) T.z_len boot_len (pa_cons (pv 4) pa_nil)) (pv 1) (nomark _)) (pss_one (ps_expr (pe_bm PySem.F.plainAttrs_list PySem.F.slot_list_append PySem.F.type_list_append mt_append (pv 4) (pa_cons pe_int pa_nil))))) (pss_one (ps_ret (pe_slice (sl_anyK (K := K) rfl) (pv 4) po_none (po_some (pv 1)))))))))), ?_⟩
    exact num_body (n := 4) (Bn := [.sh, .sh, .sh, .sh, .sh, .sh, .sh]) (Bb := []) (Bxx := [.sh, .sh, .sh, .sh, .sh, .sh, .sh]) rfl (ss_cons (μ1 := [.sh, .sh, .sh, .sh, .sh, .sh, .sh]) (ss_set (sim_opG og_add sim_int (sim_op os_fdiv simR_var (sim_cb cs_max2 (sar_cons sim_int.toR (sar_cons (sim_cb cs_len (sar_cons simR_var sar_nil)).toR sar_nil))).toR)) rfl rfl rfl) (ss_cons (μ1 := [.sh, .sh, .sh, .sh, .ow .sh, .sh, .sh]) (ss_set (sim_lst sa_nil) rfl rfl rfl) (ss_cons (μ1 := [.sh, .sh, .sh, .sh, .ow .sh, .sh, .sh]) (ss_for (si_seq (sim_var rfl)) rfl (sg_name rfl) (ss_for (si_seq (sim_call (sa_cons (sim_var rfl) (sa_cons (sim_var rfl) sa_nil)) (len_cons (len_cons len_nil)))) rfl (sg_name rfl) (ss_app (pl_var rfl) (sim_var rfl) rfl rfl) rfl) rfl) (ss_cons (μ1 := [.sh, .sh, .sh, .sh, .ow .sh, .sh, .sh]) (ss_while rfl (st_test (sim_op os_lt (sim_cb cs_len (sar_cons simR_var sar_nil)).toR simR_var).toR) (ss_app (pl_var rfl) sim_int rfl rfl) rfl) (ss_ret (sim_sliceS simR_var so_none (so_some simR_var)).fr rfl))))) h
theorem sc_split_words : FnScope ["line", "word"] ["line"] (defScope s_split_words) := ⟨rfl, rfl, rfl, by decide +kernel, rfl, by decide +kernel, by decide +kernel⟩
theorem b_split_words (T : FX w K mg) : Binds K T.d_split_words ["line"] [] := T.F_split_words.bindsN fun _ _ _ _ _ _ us hl => match us, hl with | [_], _ => rfl
theorem ok_split_words (T : FX w K mg) : FnOk P w K mg base (L2.CX P w) 1 T.a_split_words T.d_split_words ["line"] (spM mg (.sh) 1 f_split_words) := by
  refine T.F_split_words.ok sc_split_words (fun vs H Q E h => ?_) (fun cdv A outer s H vs Q E hr h => ?_)
  · obtain ⟨ds, F, hl, r, _⟩ := h; rw [RepL.len _ _ r, hl]; rfl
  · have hu1 : (A.deeper (envOfC "split_words" (defScope s_split_words) s.heap.objs.size T.a_split_words cdv)).units + 1 < cLine := by have := hr.un; omega
    have hu64 : (A.deeper (envOfC "split_words" (defScope s_split_words) s.heap.objs.size T.a_split_words cdv)).units + 64 < cLine := by have := hr.un; omega
    have hu65 : (A.deeper (envOfC "split_words" (defScope s_split_words) s.heap.objs.size T.a_split_words cdv)).units + 65 < cLine := by have := hr.un; omega
    have tk := takes_of (X := cxOf (L2.CX P w) P w K mg base ["line", "word"] "split_words" (defScope s_split_words) T.a_split_words cdv A outer s H E) rfl rfl rfl rfl
    refine ⟨_, (pss_one (ps_ret (pe_lc rfl sc_split_words.nd (pi_seqK (K := K) rfl (pe_split (pv 0) pe_str)) (blkOk_by (own := [("word", 1)]) (N := ["line", "word"]) (sc := defScope s_split_words) (by first | decide +kernel | rfl)) (fun _ _ _ _ _ => (pg_name (i := 1) sc_split_words.nd rfl (by first | exact .inl rfl | exact .inr rfl))) (fun _ _ _ _ _ => (pts_one (pt_cmpR (op_neK (K := K) rfl hu64) (pv 1) pe_str (nomark _)))) (fun _ _ _ _ _ => (pv 1))))), ?_⟩
    exact body_ok (N := ["line", "word"]) (Bn := [.sh, .sh]) (Bb := []) (Bxx := [.sh, .sh]) (by decide) (ss_ret (sim_lc (si_seq (sim_split simR_var sim_str.toR).fr) (by decide) (sg_name rfl) (st_test (sim_op os_neq simR_var sim_str.toR).toR) (sim_var rfl)).fr rfl) h (fun z => nomatch z)
theorem sc_is_name : FnScope ["text", "char"] ["text"] (defScope s_is_name) := ⟨rfl, rfl, rfl, by decide +kernel, rfl, by decide +kernel, by decide +kernel⟩
theorem b_is_name (T : FX w K mg) : Binds K T.d_is_name ["text"] [] := T.F_is_name.bindsN fun _ _ _ _ _ _ us hl => match us, hl with | [_], _ => rfl
theorem ok_is_name (T : FX w K mg) : FnOk P w K mg base (L2.CX P w) 1 T.a_is_name T.d_is_name ["text"] (spM mg (.sh) 1 f_is_name) := by
  refine T.F_is_name.ok sc_is_name (fun vs H Q E h => ?_) (fun cdv A outer s H vs Q E hr h => ?_)
  · obtain ⟨ds, F, hl, r, _⟩ := h; rw [RepL.len _ _ r, hl]; rfl
  · have hu1 : (A.deeper (envOfC "is_name" (defScope s_is_name) s.heap.objs.size T.a_is_name cdv)).units + 1 < cLine := by have := hr.un; omega
    have hu64 : (A.deeper (envOfC "is_name" (defScope s_is_name) s.heap.objs.size T.a_is_name cdv)).units + 64 < cLine := by have := hr.un; omega
    have hu65 : (A.deeper (envOfC "is_name" (defScope s_is_name) s.heap.objs.size T.a_is_name cdv)).units + 65 < cLine := by have := hr.un; omega
    have tk := takes_of (X := cxOf (L2.CX P w) P w K mg base ["text", "char"] "is_name" (defScope s_is_name) T.a_is_name cdv A outer s H E) rfl rfl rfl rfl
    refine ⟨_, (pss_cons (ps_if (pw_or (pt_not (pt_chain op_le op_le pe_int (pe_callB (call_lenKK (K := K) rfl) (by rfl) T.z_len boot_len (pa_cons (pv 0) pa_nil)) (pe_glob (v := .int 12) (by rfl) T.c_MOST_NAME_CHARS.choose_spec ⟨_, rfl⟩))) (pw_or1 (pt_cmpR (op_inK (K := K) rfl hu65) (pe_ix (ix_anyK (K := K) rfl hu1) (pv 0) pe_int (fun _ _ => rfl)) pe_str (by rfl)))).pt (pss_one (ps_ret pe_bl)) pss_nil) (pss_one (ps_ret (pe_callB (cr_allK (K := K) rfl rfl) (by rfl) T.z_all boot_all (pa_cons (pe_lc rfl sc_is_name.nd (pi_seqK (K := K) rfl (pv 0)) (blkOk_by (own := [("char", 1)]) (N := ["text", "char"]) (sc := defScope s_is_name) (by first | decide +kernel | rfl)) (fun _ _ _ _ _ => (pg_name (i := 1) sc_is_name.nd rfl (by first | exact .inl rfl | exact .inr rfl))) (fun _ _ _ _ _ => pts_nil) (fun _ _ _ _ _ => (pe_cmpR (op_inK (K := K) rfl hu65) (pv 1) (pe_glob (v := .str "abcdefghijklmnopqrstuvwxyz0123456789") (by rfl) T.c_NAME_CHARS.choose_spec ⟨_, rfl⟩) (by rfl)))) pa_nil))))), ?_⟩
    exact body_ok (N := ["text", "char"]) (Bn := [.sh, .sh]) (Bb := []) (Bxx := [.sh, .sh]) (by decide) (ss_cons (μ1 := [.sh, .sh]) (ss_if (st_or (st_not (st_test (sim_chain os_le os_le sim_int.toR (sim_cb cs_len (sar_cons simR_var sar_nil)).toR sim_int.toR).toR)) (st_test (sim_op os_inn (sim_opG og_ix (sim_var rfl) sim_int).toR sim_str.toR).toR)) (ss_ret sim_bl rfl) (ss_nil rfl) rfl) (ss_ret (sim_cb cs_all (sar_cons (sim_lc (si_seq (sim_var rfl)) (by decide) (sg_name rfl) st_yes' (sim_op os_inn simR_var sim_str.toR)).toR sar_nil)) rfl)) h (fun z => nomatch z)
theorem sc_is_number : FnScope ["word", "char"] ["word"] (defScope s_is_number) := ⟨rfl, rfl, rfl, by decide +kernel, rfl, by decide +kernel, by decide +kernel⟩
theorem b_is_number (T : FX w K mg) : Binds K T.d_is_number ["word"] [] := T.F_is_number.bindsN fun _ _ _ _ _ _ us hl => match us, hl with | [_], _ => rfl
theorem ok_is_number (T : FX w K mg) : FnOk P w K mg base (L2.CX P w) 1 T.a_is_number T.d_is_number ["word"] (spM mg (.sh) 1 f_is_number) := by
  refine T.F_is_number.ok sc_is_number (fun vs H Q E h => ?_) (fun cdv A outer s H vs Q E hr h => ?_)
  · obtain ⟨ds, F, hl, r, _⟩ := h; rw [RepL.len _ _ r, hl]; rfl
  · have hu1 : (A.deeper (envOfC "is_number" (defScope s_is_number) s.heap.objs.size T.a_is_number cdv)).units + 1 < cLine := by have := hr.un; omega
    have hu64 : (A.deeper (envOfC "is_number" (defScope s_is_number) s.heap.objs.size T.a_is_number cdv)).units + 64 < cLine := by have := hr.un; omega
    have hu65 : (A.deeper (envOfC "is_number" (defScope s_is_number) s.heap.objs.size T.a_is_number cdv)).units + 65 < cLine := by have := hr.un; omega
    have tk := takes_of (X := cxOf (L2.CX P w) P w K mg base ["word", "char"] "is_number" (defScope s_is_number) T.a_is_number cdv A outer s H E) rfl rfl rfl rfl
    refine ⟨_, (pss_cons (ps_if (pw_or (pt_not (pt_chain op_le op_le pe_int (pe_callB (call_lenKK (K := K) rfl) (by rfl) T.z_len boot_len (pa_cons (pv 0) pa_nil)) (pe_glob (v := .int 31) (by rfl) T.c_MOST_DIGITS.choose_spec ⟨_, rfl⟩))) (pw_or1 (pt_not (pt_val (pe_callB (cr_allK (K := K) rfl rfl) (by rfl) T.z_all boot_all (pa_cons (pe_lc rfl sc_is_number.nd (pi_seqK (K := K) rfl (pv 0)) (blkOk_by (own := [("char", 1)]) (N := ["word", "char"]) (sc := defScope s_is_number) (by first | decide +kernel | rfl)) (fun _ _ _ _ _ => (pg_name (i := 1) sc_is_number.nd rfl (by first | exact .inl rfl | exact .inr rfl))) (fun _ _ _ _ _ => pts_nil) (fun _ _ _ _ _ => (pe_cmpR (op_inK (K := K) rfl hu65) (pv 1) (pe_glob (v := .str "0123456789") (by rfl) T.c_DIGITS.choose_spec ⟨_, rfl⟩) (by rfl)))) pa_nil)))))).pt (pss_one (ps_ret pe_bl)) pss_nil) (pss_one (ps_ret (pe_or (pe_cmpR (op_eqK (K := K) rfl hu64) (pv 0) pe_str (nomark _)) (pe_one (pe_cmpR (op_neK (K := K) rfl hu64) (pe_ix (ix_anyK (K := K) rfl hu1) (pv 0) pe_int (fun _ _ => rfl)) pe_str (nomark _))))))), ?_⟩
    exact body_ok (N := ["word", "char"]) (Bn := [.sh, .sh]) (Bb := []) (Bxx := [.sh, .sh]) (by decide) (ss_cons (μ1 := [.sh, .sh]) (ss_if (st_or (st_not (st_test (sim_chain os_le os_le sim_int.toR (sim_cb cs_len (sar_cons simR_var sar_nil)).toR sim_int.toR).toR)) (st_not (st_B (sim_cb cs_all (sar_cons (sim_lc (si_seq (sim_var rfl)) (by decide) (sg_name rfl) st_yes' (sim_op os_inn simR_var sim_str.toR)).toR sar_nil)).toR))) (ss_ret sim_bl rfl) (ss_nil rfl) rfl) (ss_ret (sim_orV (sim_op os_eqq simR_var sim_str.toR).toR (sim_op os_neq (sim_opG og_ix (sim_var rfl) sim_int).toR sim_str.toR)) rfl)) h (fun z => nomatch z)
theorem sc_has_form : FnScope ["words", "form", "word", "sort"] ["words", "form"] (defScope s_has_form) := ⟨rfl, rfl, rfl, by decide +kernel, rfl, by decide +kernel, by decide +kernel⟩
theorem b_has_form (T : FX w K mg) : Binds K T.d_has_form ["words", "form"] [] := T.F_has_form.bindsN fun _ _ _ _ _ _ us hl => match us, hl with | [_, _], _ => rfl
theorem ok_has_form (T : FX w K mg) : FnOk P w K mg base (L2.CX P w) 2 T.a_has_form T.d_has_form ["words", "form"] (spM mg (.sh) 2 f_has_form) := by
  refine T.F_has_form.ok sc_has_form (fun vs H Q E h => ?_) (fun cdv A outer s H vs Q E hr h => ?_)
  · obtain ⟨ds, F, hl, r, _⟩ := h; rw [RepL.len _ _ r, hl]; rfl
  · have hu1 : (A.deeper (envOfC "has_form" (defScope s_has_form) s.heap.objs.size T.a_has_form cdv)).units + 1 < cLine := by have := hr.un; omega
    have hu64 : (A.deeper (envOfC "has_form" (defScope s_has_form) s.heap.objs.size T.a_has_form cdv)).units + 64 < cLine := by have := hr.un; omega
    have hu65 : (A.deeper (envOfC "has_form" (defScope s_has_form) s.heap.objs.size T.a_has_form cdv)).units + 65 < cLine := by have := hr.un; omega
    have tk := takes_of (X := cxOf (L2.CX P w) P w K mg base ["words", "form", "word", "sort"] "has_form" (defScope s_has_form) T.a_has_form cdv A outer s H E) rfl rfl rfl rfl
    refine ⟨_, (pss_cons (ps_if (pt_cmpR (op_neK (K := K) rfl hu64) (pe_callB (call_lenKK (K := K) rfl) (by rfl) T.z_len boot_len (pa_cons (pv 0) pa_nil)) (pe_callB (call_lenKK (K := K) rfl) (by rfl) T.z_len boot_len (pa_cons (pv 1) pa_nil)) (nomark _)) (pss_one (ps_ret pe_bl)) pss_nil) (pss_one (ps_ret (pe_callB (cr_allK (K := K) rfl rfl) (by rfl) T.z_all boot_all (pa_cons (pe_lc rfl sc_has_form.nd (pi_zipSK (K := K) rfl (by rfl) T.z_zip (pa_cons (pv 0) (pa_cons (pv 1) pa_nil))) (blkOk_by (own := [("word", 2), ("sort", 3)]) (N := ["words", "form", "word", "sort"]) (sc := defScope s_has_form) (by first | decide +kernel | rfl)) (fun _ _ _ _ _ => (pg_tupK (K := K) (n := 2) rfl rfl (pgs_cons (pg_name (i := 2) sc_has_form.nd rfl (by first | exact .inl rfl | exact .inr rfl)) (pgs_cons (pg_name (i := 3) sc_has_form.nd rfl (by first | exact .inl rfl | exact .inr rfl)) pgs_nil)))) (fun _ _ _ _ _ => pts_nil) (fun _ _ _ _ _ => (pe_ifExp (pt_cmpR (op_eqK (K := K) rfl hu64) (pv 3) pe_str (nomark _)) (pe_callS (k := 1) (ok_is_name T) (Room.mono hr (by decide)) (by rfl) T.g_is_name T.F_is_name.kp (b_is_name T) (fun σ => passAt takes0 σ) (pa_cons (pv 2) pa_nil)) (pe_callS (k := 1) (ok_is_number T) (Room.mono hr (by decide)) (by rfl) T.g_is_number T.F_is_number.kp (b_is_number T) (fun σ => passAt takes0 σ) (pa_cons (pv 2) pa_nil))))) pa_nil))))), ?_⟩
    exact body_ok (N := ["words", "form", "word", "sort"]) (Bn := [.sh, .sh, .sh, .sh]) (Bb := []) (Bxx := [.sh, .sh, .sh, .sh]) (by decide) (ss_cons (μ1 := [.sh, .sh, .sh, .sh]) (ss_if (st_test (sim_op os_neq (sim_cb cs_len (sar_cons simR_var sar_nil)).toR (sim_cb cs_len (sar_cons simR_var sar_nil)).toR).toR) (ss_ret sim_bl rfl) (ss_nil rfl) rfl) (ss_ret (sim_cb cs_all (sar_cons (sim_lc (si_zipS (sa_cons (sim_var rfl) (sa_cons (sim_var rfl) sa_nil))) (by decide) (sg_tup (sgs_cons (sg_name rfl) (sgs_cons (sg_name rfl) (sgs_nil (js := []))))) st_yes' (sim_if (st_test (sim_op os_eqq simR_var sim_str.toR).toR) (sim_call (sa_cons (sim_var rfl) sa_nil) (len_cons len_nil)) (sim_call (sa_cons (sim_var rfl) sa_nil) (len_cons len_nil)))).toR sar_nil)) rfl)) h (fun z => nomatch z)
theorem sc_is_command : FnScope ["words", "first", "rest", "word"] ["words"] (defScope s_is_command) := ⟨rfl, rfl, rfl, by decide +kernel, rfl, by decide +kernel, by decide +kernel⟩
theorem b_is_command (T : FX w K mg) : Binds K T.d_is_command ["words"] [] := T.F_is_command.bindsN fun _ _ _ _ _ _ us hl => match us, hl with | [_], _ => rfl
theorem ok_is_command (T : FX w K mg) : FnOk P w K mg base (L2.CX P w) 3 T.a_is_command T.d_is_command ["words"] (spM mg (.sh) 1 f_is_command) := by
  refine T.F_is_command.ok sc_is_command (fun vs H Q E h => ?_) (fun cdv A outer s H vs Q E hr h => ?_)
  · obtain ⟨ds, F, hl, r, _⟩ := h; rw [RepL.len _ _ r, hl]; rfl
  · have hu1 : (A.deeper (envOfC "is_command" (defScope s_is_command) s.heap.objs.size T.a_is_command cdv)).units + 1 < cLine := by have := hr.un; omega
    have hu64 : (A.deeper (envOfC "is_command" (defScope s_is_command) s.heap.objs.size T.a_is_command cdv)).units + 64 < cLine := by have := hr.un; omega
    have hu65 : (A.deeper (envOfC "is_command" (defScope s_is_command) s.heap.objs.size T.a_is_command cdv)).units + 65 < cLine := by have := hr.un; omega
    have tk := takes_of (X := cxOf (L2.CX P w) P w K mg base ["words", "first", "rest", "word"] "is_command" (defScope s_is_command) T.a_is_command cdv A outer s H E) rfl rfl rfl rfl
    refine ⟨_, (pss_cons (ps_par rfl sc_is_command.nd (i := 1) (j := 2) rfl rfl (by decide) rfl rfl (pa_cons (pe_ix (ix_anyK (K := K) rfl hu1) (pv 0) pe_int (fun _ _ => rfl)) (pa_cons (pe_slice (sl_anyK (K := K) rfl) (pv 0) (po_some pe_int) po_none) pa_nil)) (by rfl)) (pss_cons (ps_if (pt_cmpR (op_inKd (K := K) (w := w) rfl rfl T.n_FORMS.choose_spec.choose_spec) (pv 1) (pe_glob (v := .ref T.k_FORMS) (by rfl) T.c_FORMS rfl) (by rfl)) (pss_one (ps_ret (pe_callS (k := 2) (ok_has_form T) (Room.mono hr (by decide)) (by rfl) T.g_has_form T.F_has_form.kp (b_has_form T) (fun σ => passAt tk σ) (pa_cons (pv 2) (pa_cons (pe_ix (ix_kdK (K := K) (w := w) rfl rfl) (pe_glob (v := .ref T.k_FORMS) (by rfl) T.c_FORMS rfl) (pv 1) (fun _ _ => rfl)) pa_nil))))) pss_nil) (pss_cons (ps_if (pw_or (pt_cmpR (op_neK (K := K) rfl hu64) (pv 1) pe_str (nomark _)) (pw_or (pt_cmpR op_lt (pe_callB (call_lenKK (K := K) rfl) (by rfl) T.z_len boot_len (pa_cons (pv 2) pa_nil)) pe_int (nomark _)) (pw_or (pt_cmpR (op_notInKd (K := K) (w := w) rfl rfl T.n_ASKED.choose_spec.choose_spec) (pe_ix (ix_anyK (K := K) rfl hu1) (pv 2) pe_int (fun _ _ => rfl)) (pe_glob (v := .ref T.k_ASKED) (by rfl) T.c_ASKED rfl) (by rfl)) (pw_or1 (pt_cmpR (op_notInK (K := K) rfl hu65) (pe_op op_sub (pe_callB (call_lenKK (K := K) rfl) (by rfl) T.z_len boot_len (pa_cons (pv 2) pa_nil)) pe_int) (pe_ix (ix_kdK (K := K) (w := w) rfl rfl) (pe_glob (v := .ref T.k_ASKED) (by rfl) T.c_ASKED rfl) (pe_ix (ix_anyK (K := K) rfl hu1) (pv 2) pe_int (fun _ _ => rfl)) (fun _ _ => rfl)) (by rfl)))))).pt (pss_one (ps_ret pe_bl)) pss_nil) (pss_one (ps_ret (pe_and (pe_callS (k := 1) (ok_is_name T) (Room.mono hr (by decide)) (by rfl) T.g_is_name T.F_is_name.kp (b_is_name T) (fun σ => passAt tk σ) (pa_cons (pe_ix (ix_anyK (K := K) rfl hu1) (pv 2) pe_int (fun _ _ => rfl)) pa_nil)) (pe_and (pe_callS (k := 1) (ok_is_name T) (Room.mono hr (by decide)) (by rfl) T.g_is_name T.F_is_name.kp (b_is_name T) (fun σ => passAt tk σ) (pa_cons (pe_ix (ix_anyK (K := K) rfl hu1) (pv 2) pe_int (fun _ _ => rfl)) pa_nil)) (pe_one (pe_callB (cr_allK (K := K) rfl rfl) (by rfl) T.z_all boot_all (pa_cons (pe_lc rfl sc_is_command.nd (pi_seqK (K := K) rfl (pe_slice (sl_anyK (K := K) rfl) (pv 2) (po_some pe_int) po_none)) (blkOk_by (own := [("word", 3)]) (N := ["words", "first", "rest", "word"]) (sc := defScope s_is_command) (by first | decide +kernel | rfl)) (fun _ _ _ _ _ => (pg_name (i := 3) sc_is_command.nd rfl (by first | exact .inl rfl | exact .inr rfl))) (fun _ _ _ _ _ => pts_nil) (fun _ _ _ _ _ => (pe_callS (k := 1) (ok_is_number T) (Room.mono hr (by decide)) (by rfl) T.g_is_number T.F_is_number.kp (b_is_number T) (fun σ => passAt takes0 σ) (pa_cons (pv 3) pa_nil)))) pa_nil)))))))))), ?_⟩
    exact body_ok (N := ["words", "first", "rest", "word"]) (Bn := [.sh, .sh, .sh, .sh]) (Bb := []) (Bxx := [.sh, .sh, .sh, .sh]) (by decide) (ss_cons (μ1 := [.sh, .sh, .sh, .sh]) (ss_par (sa_cons (sim_opG og_ix (sim_var rfl) sim_int) (sa_cons (sim_slice (sim_var rfl) (so_some sim_int.toR) so_none) sa_nil)) rfl rfl rfl rfl) (ss_cons (μ1 := [.sh, .sh, .sh, .sh]) (ss_if (st_test (sim_inKd T.t_FORMS simR_var).toR) (ss_ret (sim_call (sa_cons (sim_var rfl) (sa_cons (sim_ixKdS T.n_FORMS.choose_spec.choose_spec T.t_FORMS simR_var) sa_nil)) (len_cons (len_cons len_nil))) rfl) (ss_nil rfl) rfl) (ss_cons (μ1 := [.sh, .sh, .sh, .sh]) (ss_if (st_or (st_test (sim_op os_neq simR_var sim_str.toR).toR) (st_or (st_test (sim_op os_lt (sim_cb cs_len (sar_cons simR_var sar_nil)).toR sim_int.toR).toR) (st_or (st_test (sim_notInKd T.t_ASKED (sim_opG og_ix (sim_var rfl) sim_int).toR).toR) (st_test (sim_notInT T.n_ASKED.choose_spec.choose_spec T.t_ASKED (sim_op os_sub (sim_cb cs_len (sar_cons simR_var sar_nil)).toR sim_int.toR).toR (sim_opG og_ix (sim_var rfl) sim_int).toR).toR)))) (ss_ret sim_bl rfl) (ss_nil rfl) rfl) (ss_ret (sim_andV (sim_call (sa_cons (sim_opG og_ix (sim_var rfl) sim_int) sa_nil) (len_cons len_nil)).toR (sim_andV (sim_call (sa_cons (sim_opG og_ix (sim_var rfl) sim_int) sa_nil) (len_cons len_nil)).toR (sim_cb cs_all (sar_cons (sim_lc (si_seq (sim_slice (sim_var rfl) (so_some sim_int.toR) so_none)) (by decide) (sg_name rfl) st_yes' (sim_call (sa_cons (sim_var rfl) sa_nil) (len_cons len_nil))).toR sar_nil)))) rfl)))) h (fun z => nomatch z)
theorem sc__law_word : FnScope ["_law_number", "_law_more", "_law_words", "_law_letters", "_law_size", "_law_long", "_law_figures", "_law_word_here", "_law_k"] ["_law_number", "_law_more"] (defScope s__law_word) := ⟨rfl, rfl, rfl, by decide +kernel, rfl, by decide +kernel, by decide +kernel⟩
theorem b__law_word (T : FX w K mg) : Binds K T.d__law_word ["_law_number", "_law_more"] [] := T.F__law_word.bindsN fun _ _ _ _ _ _ us hl => match us, hl with | [_, _], _ => rfl
theorem ok__law_word (T : FX w K mg) : FnOk P w K mg base (L2.CX P w) 1 T.a__law_word T.d__law_word ["_law_number", "_law_more"] (spM mg (.sh) 2 f__law_word) := by
  refine T.F__law_word.ok sc__law_word (fun vs H Q E h => ?_) (fun cdv A outer s H vs Q E hr h => ?_)
  · obtain ⟨ds, F, hl, r, _⟩ := h; rw [RepL.len _ _ r, hl]; rfl
  · have hu1 : (A.deeper (envOfC "_law_word" (defScope s__law_word) s.heap.objs.size T.a__law_word cdv)).units + 1 < cLine := by have := hr.un; omega
    have hu64 : (A.deeper (envOfC "_law_word" (defScope s__law_word) s.heap.objs.size T.a__law_word cdv)).units + 64 < cLine := by have := hr.un; omega
    have hu65 : (A.deeper (envOfC "_law_word" (defScope s__law_word) s.heap.objs.size T.a__law_word cdv)).units + 65 < cLine := by have := hr.un; omega
    have tk := takes_of (X := cxOf (L2.CX P w) P w K mg base ["_law_number", "_law_more", "_law_words", "_law_letters", "_law_size", "_law_long", "_law_figures", "_law_word_here", "_law_k"] "_law_word" (defScope s__law_word) T.a__law_word cdv A outer s H E) rfl rfl rfl rfl
    refine ⟨_, (pss_cons (ps_set (i := 2) sc__law_word.nd rfl (by first | exact .inl rfl | exact .inr rfl) (pe_tup (pa_cons pe_str (pa_cons pe_str (pa_cons pe_str (pa_cons pe_str (pa_cons pe_str (pa_cons pe_str (pa_cons pe_str (pa_cons pe_str (pa_cons pe_str (pa_cons pe_str (pa_cons pe_str (pa_cons pe_str pa_nil)))))))))))))) (pss_cons (ps_set (i := 2) sc__law_word.nd rfl (by first | exact .inl rfl | exact .inr rfl) (pe_op (op_addK (K := K) rfl) (pv 2) (pe_tup (pa_cons pe_str (pa_cons pe_str (pa_cons pe_str (pa_cons pe_str (pa_cons pe_str (pa_cons pe_str (pa_cons pe_str (pa_cons pe_str pa_nil))))))))))) (pss_cons (ps_set (i := 3) sc__law_word.nd rfl (by first | exact .inl rfl | exact .inr rfl) pe_str) (pss_cons (ps_if (pt_cmpR (op_eqK (K := K) rfl hu64) (pe_op op_mod (pe_callTy call_int1 (by rfl) T.z_int boot_int (pa_cons (pv 0) pa_nil)) pe_int) pe_int (nomark _)) (pss_one (ps_ret (pe_ix (ix_anyK (K := K) rfl hu1) (pv 2) (pe_op op_mod (pe_callTy call_int1 (by rfl) T.z_int boot_int (pa_cons (pe_op op_fdiv (pv 0) pe_int) pa_nil)) pe_int) (fun _ _ => rfl)))) pss_nil) (pss_cons (ps_set (i := 4) sc__law_word.nd rfl (by first | exact .inl rfl | exact .inr rfl) (pe_op op_mod (pe_callTy call_int1 (by rfl) T.z_int boot_int (pa_cons (pe_op op_fdiv (pv 0) pe_int) pa_nil)) pe_int)) (pss_cons (ps_if (pt_cmpR (op_eqK (K := K) rfl hu64) (pe_op op_mod (pe_callTy call_int1 (by rfl) T.z_int boot_int (pa_cons (pv 0) pa_nil)) pe_int) pe_int (nomark _)) (pss_cons (ps_set (i := 5) sc__law_word.nd rfl (by first | exact .inl rfl | exact .inr rfl) (pe_op (op_addK (K := K) rfl) (pe_op (op_addK (K := K) rfl) pe_int (pv 4)) (pe_op op_mulA pe_int (pe_callTy call_int1 (by rfl) T.z_int boot_int (pa_cons (pe_cmpR (op_eqK (K := K) rfl hu64) (pe_op op_mod (pe_callTy call_int1 (by rfl) T.z_int boot_int (pa_cons (pv 1) pa_nil)) pe_int) pe_int (nomark _)) pa_nil))))) (pss_cons (ps_set (i := 6) sc__law_word.nd rfl (by first | exact .inl rfl | exact .inr rfl) (pe_joinK (K := K) rfl pe_str (pe_lc rfl sc__law_word.nd (pi_range1 (by rfl) T.z_range (pa_cons (pv 5) pa_nil)) (blkOk_by (own := [("_law_k", 8)]) (N := ["_law_number", "_law_more", "_law_words", "_law_letters", "_law_size", "_law_long", "_law_figures", "_law_word_here", "_law_k"]) (sc := defScope s__law_word) (by first | decide +kernel | rfl)) (fun _ _ _ _ _ => (pg_name (i := 8) sc__law_word.nd rfl (by first | exact .inl rfl | exact .inr rfl))) (fun _ _ _ _ _ => pts_nil) (fun _ _ _ _ _ => (pe_ix (ix_anyK (K := K) rfl hu1) (pv 3) (pe_op (op_addK (K := K) rfl) pe_int (pe_op op_mod (pe_callTy call_int1 (by rfl) T.z_int boot_int (pa_cons (pe_op (op_addK (K := K) rfl) (pe_op (op_addK (K := K) rfl) (pv 1) (pe_op op_mulA (pe_op op_mulA (pv 8) (pv 8)) pe_int)) (pe_op op_fdiv (pv 0) pe_int)) pa_nil)) pe_int)) (fun _ _ => rfl)))))) (pss_one (ps_ret (pe_op (op_addK (K := K) rfl) (pe_ix (ix_anyK (K := K) rfl hu1) (pe_tup (pa_cons pe_str (pa_cons pe_str (pa_cons pe_str (pa_cons pe_str pa_nil))))) (pe_op op_mod (pe_callTy call_int1 (by rfl) T.z_int boot_int (pa_cons (pv 1) pa_nil)) pe_int) (fun _ _ => rfl)) (pv 6)))))) pss_nil) (pss_cons (ps_set (i := 7) sc__law_word.nd rfl (by first | exact .inl rfl | exact .inr rfl) (pe_op (op_addK (K := K) rfl) (pe_ix (ix_anyK (K := K) rfl hu1) (pv 3) (pe_op op_mod (pe_callTy call_int1 (by rfl) T.z_int boot_int (pa_cons (pv 1) pa_nil)) pe_int) (fun _ _ => rfl)) (pe_joinK (K := K) rfl pe_str (pe_lc rfl sc__law_word.nd (pi_range1 (by rfl) T.z_range (pa_cons (pe_op op_mulA (pv 4) pe_int) pa_nil)) (blkOk_by (own := [("_law_k", 8)]) (N := ["_law_number", "_law_more", "_law_words", "_law_letters", "_law_size", "_law_long", "_law_figures", "_law_word_here", "_law_k"]) (sc := defScope s__law_word) (by first | decide +kernel | rfl)) (fun _ _ _ _ _ => (pg_name (i := 8) sc__law_word.nd rfl (by first | exact .inl rfl | exact .inr rfl))) (fun _ _ _ _ _ => pts_nil) (fun _ _ _ _ _ => (pe_ix (ix_anyK (K := K) rfl hu1) (pv 3) (pe_op op_mod (pe_callTy call_int1 (by rfl) T.z_int boot_int (pa_cons (pe_op (op_addK (K := K) rfl) (pe_op (op_addK (K := K) rfl) (pv 1) (pe_op op_mulA (pe_op op_mulA pe_int (pv 8)) (pv 0))) (pv 8)) pa_nil)) pe_int) (fun _ _ => rfl))))))) (pss_cons (ps_if (pt_cmpR (op_eqK (K := K) rfl hu64) (pe_op op_mod (pe_callTy call_int1 (by rfl) T.z_int boot_int (pa_cons (pv 1) pa_nil)) pe_int) pe_int (nomark _)) (pss_one (ps_ret (pe_op (op_addK (K := K) rfl) (pe_op (op_addK (K := K) rfl) (pe_slice (sl_anyK (K := K) rfl) (pv 7) po_none (po_some pe_int)) pe_str) (pe_slice (sl_anyK (K := K) rfl) (pv 7) (po_some pe_int) po_none)))) pss_nil) (pss_one (ps_ret (pv 7))))))))))), ?_⟩
    exact body_ok (N := ["_law_number", "_law_more", "_law_words", "_law_letters", "_law_size", "_law_long", "_law_figures", "_law_word_here", "_law_k"]) (Bn := [.sh, .sh, .sh, .sh, .sh, .sh, .sh, .sh, .sh]) (Bb := []) (Bxx := [.sh, .sh, .sh, .sh, .sh, .sh, .sh, .sh, .sh]) (by decide) (ss_cons (μ1 := [.sh, .sh, .sh, .sh, .sh, .sh, .sh, .sh, .sh]) (ss_set (sim_tup (sa_cons sim_str (sa_cons sim_str (sa_cons sim_str (sa_cons sim_str (sa_cons sim_str (sa_cons sim_str (sa_cons sim_str (sa_cons sim_str (sa_cons sim_str (sa_cons sim_str (sa_cons sim_str (sa_cons sim_str sa_nil))))))))))))) rfl rfl rfl) (ss_cons (μ1 := [.sh, .sh, .sh, .sh, .sh, .sh, .sh, .sh, .sh]) (ss_set (sim_opG og_add (sim_var rfl) (sim_tup (sa_cons sim_str (sa_cons sim_str (sa_cons sim_str (sa_cons sim_str (sa_cons sim_str (sa_cons sim_str (sa_cons sim_str (sa_cons sim_str sa_nil)))))))))) rfl rfl rfl) (ss_cons (μ1 := [.sh, .sh, .sh, .sh, .sh, .sh, .sh, .sh, .sh]) (ss_set sim_str rfl rfl rfl) (ss_cons (μ1 := [.sh, .sh, .sh, .sh, .sh, .sh, .sh, .sh, .sh]) (ss_if (st_test (sim_op os_eqq (sim_op os_mod (sim_cb cs_int (sar_cons simR_var sar_nil)).toR sim_int.toR).toR sim_int.toR).toR) (ss_ret (sim_opG og_ix (sim_var rfl) (sim_op os_mod (sim_cb cs_int (sar_cons (sim_op os_fdiv simR_var sim_int.toR).toR sar_nil)).toR sim_int.toR)) rfl) (ss_nil rfl) rfl) (ss_cons (μ1 := [.sh, .sh, .sh, .sh, .sh, .sh, .sh, .sh, .sh]) (ss_set (sim_op os_mod (sim_cb cs_int (sar_cons (sim_op os_fdiv simR_var sim_int.toR).toR sar_nil)).toR sim_int.toR) rfl rfl rfl) (ss_cons (μ1 := [.sh, .sh, .sh, .sh, .sh, .sh, .sh, .sh, .sh]) (ss_if (st_test (sim_op os_eqq (sim_op os_mod (sim_cb cs_int (sar_cons simR_var sar_nil)).toR sim_int.toR).toR sim_int.toR).toR) (ss_cons (μ1 := [.sh, .sh, .sh, .sh, .sh, .sh, .sh, .sh, .sh]) (ss_set (sim_opG og_add (sim_opG og_add sim_int (sim_var rfl)) (sim_opG og_mul sim_int (sim_cb cs_int (sar_cons (sim_op os_eqq (sim_op os_mod (sim_cb cs_int (sar_cons simR_var sar_nil)).toR sim_int.toR).toR sim_int.toR).toR sar_nil)))) rfl rfl rfl) (ss_cons (μ1 := [.sh, .sh, .sh, .sh, .sh, .sh, .sh, .sh, .sh]) (ss_set (sim_join sim_str.toR (sim_lc (si_rng1 (sar_cons simR_var sar_nil)) (by decide) (sg_name rfl) st_yes' (sim_opG og_ix (sim_var rfl) (sim_opG og_add sim_int (sim_op os_mod (sim_cb cs_int (sar_cons (sim_opG og_add (sim_opG og_add (sim_var rfl) (sim_opG og_mul (sim_opG og_mul (sim_var rfl) (sim_var rfl)) sim_int)) (sim_op os_fdiv simR_var sim_int.toR)).toR sar_nil)).toR sim_int.toR)))).toR) rfl rfl rfl) (ss_ret (sim_opG og_add (sim_opG og_ix (sim_tup (sa_cons sim_str (sa_cons sim_str (sa_cons sim_str (sa_cons sim_str sa_nil))))) (sim_op os_mod (sim_cb cs_int (sar_cons simR_var sar_nil)).toR sim_int.toR)) (sim_var rfl)) rfl))) (ss_nil rfl) rfl) (ss_cons (μ1 := [.sh, .sh, .sh, .sh, .sh, .sh, .sh, .sh, .sh]) (ss_set (sim_opG og_add (sim_opG og_ix (sim_var rfl) (sim_op os_mod (sim_cb cs_int (sar_cons simR_var sar_nil)).toR sim_int.toR)) (sim_join sim_str.toR (sim_lc (si_rng1 (sar_cons (sim_opG og_mul (sim_var rfl) sim_int).toR sar_nil)) (by decide) (sg_name rfl) st_yes' (sim_opG og_ix (sim_var rfl) (sim_op os_mod (sim_cb cs_int (sar_cons (sim_opG og_add (sim_opG og_add (sim_var rfl) (sim_opG og_mul (sim_opG og_mul sim_int (sim_var rfl)) (sim_var rfl))) (sim_var rfl)).toR sar_nil)).toR sim_int.toR))).toR)) rfl rfl rfl) (ss_cons (μ1 := [.sh, .sh, .sh, .sh, .sh, .sh, .sh, .sh, .sh]) (ss_if (st_test (sim_op os_eqq (sim_op os_mod (sim_cb cs_int (sar_cons simR_var sar_nil)).toR sim_int.toR).toR sim_int.toR).toR) (ss_ret (sim_opG og_add (sim_opG og_add (sim_slice (sim_var rfl) so_none (so_some sim_int.toR)) sim_str) (sim_slice (sim_var rfl) (so_some sim_int.toR) so_none)) rfl) (ss_nil rfl) rfl) (ss_ret (sim_var rfl) rfl))))))))) h (fun z => nomatch z)
theorem sc__law_is_name : FnScope ["_law_word_here", "_law_char"] ["_law_word_here"] (defScope s__law_is_name) := ⟨rfl, rfl, rfl, by decide +kernel, rfl, by decide +kernel, by decide +kernel⟩
theorem b__law_is_name (T : FX w K mg) : Binds K T.d__law_is_name ["_law_word_here"] [] := T.F__law_is_name.bindsN fun _ _ _ _ _ _ us hl => match us, hl with | [_], _ => rfl
theorem ok__law_is_name (T : FX w K mg) : FnOk P w K mg base (L2.CX P w) 1 T.a__law_is_name T.d__law_is_name ["_law_word_here"] (spM mg (.sh) 1 f__law_is_name) := by
  refine T.F__law_is_name.ok sc__law_is_name (fun vs H Q E h => ?_) (fun cdv A outer s H vs Q E hr h => ?_)
  · obtain ⟨ds, F, hl, r, _⟩ := h; rw [RepL.len _ _ r, hl]; rfl
  · have hu1 : (A.deeper (envOfC "_law_is_name" (defScope s__law_is_name) s.heap.objs.size T.a__law_is_name cdv)).units + 1 < cLine := by have := hr.un; omega
    have hu64 : (A.deeper (envOfC "_law_is_name" (defScope s__law_is_name) s.heap.objs.size T.a__law_is_name cdv)).units + 64 < cLine := by have := hr.un; omega
    have hu65 : (A.deeper (envOfC "_law_is_name" (defScope s__law_is_name) s.heap.objs.size T.a__law_is_name cdv)).units + 65 < cLine := by have := hr.un; omega
    have tk := takes_of (X := cxOf (L2.CX P w) P w K mg base ["_law_word_here", "_law_char"] "_law_is_name" (defScope s__law_is_name) T.a__law_is_name cdv A outer s H E) rfl rfl rfl rfl
    refine ⟨_, (pss_cons (ps_if (pw_or (pt_cmpR op_lt (pe_callB (call_lenKK (K := K) rfl) (by rfl) T.z_len boot_len (pa_cons (pv 0) pa_nil)) pe_int (nomark _)) (pw_or (pt_cmpR op_gt (pe_callB (call_lenKK (K := K) rfl) (by rfl) T.z_len boot_len (pa_cons (pv 0) pa_nil)) pe_int (nomark _)) (pw_or1 (pt_cmpR (op_notInK (K := K) rfl hu65) (pe_ix (ix_anyK (K := K) rfl hu1) (pv 0) pe_int (fun _ _ => rfl)) pe_str (by rfl))))).pt (pss_one (ps_ret pe_bl)) pss_nil) (pss_one (ps_ret (pe_callB (cr_allK (K := K) rfl rfl) (by rfl) T.z_all boot_all (pa_cons (pe_lc rfl sc__law_is_name.nd (pi_seqK (K := K) rfl (pv 0)) (blkOk_by (own := [("_law_char", 1)]) (N := ["_law_word_here", "_law_char"]) (sc := defScope s__law_is_name) (by first | decide +kernel | rfl)) (fun _ _ _ _ _ => (pg_name (i := 1) sc__law_is_name.nd rfl (by first | exact .inl rfl | exact .inr rfl))) (fun _ _ _ _ _ => pts_nil) (fun _ _ _ _ _ => (pe_cmpR (op_inK (K := K) rfl hu65) (pv 1) pe_str (by rfl)))) pa_nil))))), ?_⟩
    exact body_ok (N := ["_law_word_here", "_law_char"]) (Bn := [.sh, .sh]) (Bb := []) (Bxx := [.sh, .sh]) (by decide) (ss_cons (μ1 := [.sh, .sh]) (ss_if (st_or (st_test (sim_op os_lt (sim_cb cs_len (sar_cons simR_var sar_nil)).toR sim_int.toR).toR) (st_or (st_test (sim_op os_gt (sim_cb cs_len (sar_cons simR_var sar_nil)).toR sim_int.toR).toR) (st_test (sim_op os_notin (sim_opG og_ix (sim_var rfl) sim_int).toR sim_str.toR).toR))) (ss_ret sim_bl rfl) (ss_nil rfl) rfl) (ss_ret (sim_cb cs_all (sar_cons (sim_lc (si_seq (sim_var rfl)) (by decide) (sg_name rfl) st_yes' (sim_op os_inn simR_var sim_str.toR)).toR sar_nil)) rfl)) h (fun z => nomatch z)
theorem sc__law_is_number : FnScope ["_law_word_here", "_law_char"] ["_law_word_here"] (defScope s__law_is_number) := ⟨rfl, rfl, rfl, by decide +kernel, rfl, by decide +kernel, by decide +kernel⟩
theorem b__law_is_number (T : FX w K mg) : Binds K T.d__law_is_number ["_law_word_here"] [] := T.F__law_is_number.bindsN fun _ _ _ _ _ _ us hl => match us, hl with | [_], _ => rfl
theorem ok__law_is_number (T : FX w K mg) : FnOk P w K mg base (L2.CX P w) 1 T.a__law_is_number T.d__law_is_number ["_law_word_here"] (spM mg (.sh) 1 f__law_is_number) := by
  refine T.F__law_is_number.ok sc__law_is_number (fun vs H Q E h => ?_) (fun cdv A outer s H vs Q E hr h => ?_)
  · obtain ⟨ds, F, hl, r, _⟩ := h; rw [RepL.len _ _ r, hl]; rfl
  · have hu1 : (A.deeper (envOfC "_law_is_number" (defScope s__law_is_number) s.heap.objs.size T.a__law_is_number cdv)).units + 1 < cLine := by have := hr.un; omega
    have hu64 : (A.deeper (envOfC "_law_is_number" (defScope s__law_is_number) s.heap.objs.size T.a__law_is_number cdv)).units + 64 < cLine := by have := hr.un; omega
    have hu65 : (A.deeper (envOfC "_law_is_number" (defScope s__law_is_number) s.heap.objs.size T.a__law_is_number cdv)).units + 65 < cLine := by have := hr.un; omega
    have tk := takes_of (X := cxOf (L2.CX P w) P w K mg base ["_law_word_here", "_law_char"] "_law_is_number" (defScope s__law_is_number) T.a__law_is_number cdv A outer s H E) rfl rfl rfl rfl
    refine ⟨_, (pss_cons (ps_if (pw_or (pt_cmpR op_lt (pe_callB (call_lenKK (K := K) rfl) (by rfl) T.z_len boot_len (pa_cons (pv 0) pa_nil)) pe_int (nomark _)) (pw_or (pt_cmpR op_gt (pe_callB (call_lenKK (K := K) rfl) (by rfl) T.z_len boot_len (pa_cons (pv 0) pa_nil)) pe_int (nomark _)) (pw_or1 (pw_and (pt_cmpR op_gt (pe_callB (call_lenKK (K := K) rfl) (by rfl) T.z_len boot_len (pa_cons (pv 0) pa_nil)) pe_int (nomark _)) (pw_and1 (pt_cmpR (op_eqK (K := K) rfl hu64) (pe_ix (ix_anyK (K := K) rfl hu1) (pv 0) pe_int (fun _ _ => rfl)) pe_str (nomark _)))).pt))).pt (pss_one (ps_ret pe_bl)) pss_nil) (pss_one (ps_ret (pe_callB (cr_allK (K := K) rfl rfl) (by rfl) T.z_all boot_all (pa_cons (pe_lc rfl sc__law_is_number.nd (pi_seqK (K := K) rfl (pv 0)) (blkOk_by (own := [("_law_char", 1)]) (N := ["_law_word_here", "_law_char"]) (sc := defScope s__law_is_number) (by first | decide +kernel | rfl)) (fun _ _ _ _ _ => (pg_name (i := 1) sc__law_is_number.nd rfl (by first | exact .inl rfl | exact .inr rfl))) (fun _ _ _ _ _ => pts_nil) (fun _ _ _ _ _ => (pe_cmpR (op_inK (K := K) rfl hu65) (pv 1) pe_str (by rfl)))) pa_nil))))), ?_⟩
    exact body_ok (N := ["_law_word_here", "_law_char"]) (Bn := [.sh, .sh]) (Bb := []) (Bxx := [.sh, .sh]) (by decide) (ss_cons (μ1 := [.sh, .sh]) (ss_if (st_or (st_test (sim_op os_lt (sim_cb cs_len (sar_cons simR_var sar_nil)).toR sim_int.toR).toR) (st_or (st_test (sim_op os_gt (sim_cb cs_len (sar_cons simR_var sar_nil)).toR sim_int.toR).toR) (st_and (st_test (sim_op os_gt (sim_cb cs_len (sar_cons simR_var sar_nil)).toR sim_int.toR).toR) (st_test (sim_op os_eqq (sim_opG og_ix (sim_var rfl) sim_int).toR sim_str.toR).toR)))) (ss_ret sim_bl rfl) (ss_nil rfl) rfl) (ss_ret (sim_cb cs_all (sar_cons (sim_lc (si_seq (sim_var rfl)) (by decide) (sg_name rfl) st_yes' (sim_op os_inn simR_var sim_str.toR)).toR sar_nil)) rfl)) h (fun z => nomatch z)
theorem sc__law_formed : FnScope ["_law_numbers_here", "_law_words", "_law_names", "_law_figures", "_law_many", "_law_kind", "_law_word_here", "_law_k"] ["_law_numbers_here", "_law_words"] (defScope s__law_formed) := ⟨rfl, rfl, rfl, by decide +kernel, rfl, by decide +kernel, by decide +kernel⟩
theorem b__law_formed (T : FX w K mg) : Binds K T.d__law_formed ["_law_numbers_here", "_law_words"] [] := T.F__law_formed.bindsN fun _ _ _ _ _ _ us hl => match us, hl with | [_, _], _ => rfl
theorem ok__law_formed (T : FX w K mg) : FnOk P w K mg base (L2.CX P w) 2 T.a__law_formed T.d__law_formed ["_law_numbers_here", "_law_words"] (spM mg (.ow .sh) 2 f__law_formed) := by
  refine T.F__law_formed.ok sc__law_formed (fun vs H Q E h => ?_) (fun cdv A outer s H vs Q E hr h => ?_)
  · obtain ⟨ds, F, hl, r, _⟩ := h; rw [RepL.len _ _ r, hl]; rfl
  · have hu1 : (A.deeper (envOfC "_law_formed" (defScope s__law_formed) s.heap.objs.size T.a__law_formed cdv)).units + 1 < cLine := by have := hr.un; omega
    have hu64 : (A.deeper (envOfC "_law_formed" (defScope s__law_formed) s.heap.objs.size T.a__law_formed cdv)).units + 64 < cLine := by have := hr.un; omega
    have hu65 : (A.deeper (envOfC "_law_formed" (defScope s__law_formed) s.heap.objs.size T.a__law_formed cdv)).units + 65 < cLine := by have := hr.un; omega
    have tk := takes_of (X := cxOf (L2.CX P w) P w K mg base ["_law_numbers_here", "_law_words", "_law_names", "_law_figures", "_law_many", "_law_kind", "_law_word_here", "_law_k"] "_law_formed" (defScope s__law_formed) T.a__law_formed cdv A outer s H E) rfl rfl rfl rfl
    refine ⟨_, (pss_cons (ps_set (i := 2) sc__law_formed.nd rfl (by first | exact .inl rfl | exact .inr rfl) (pe_op (op_addK (K := K) rfl) (pe_lc rfl sc__law_formed.nd (pi_seqK (K := K) rfl (pv 1)) (blkOk_by (own := [("_law_word_here", 6)]) (N := ["_law_numbers_here", "_law_words", "_law_names", "_law_figures", "_law_many", "_law_kind", "_law_word_here", "_law_k"]) (sc := defScope s__law_formed) (by first | decide +kernel | rfl)) (fun _ _ _ _ _ => (pg_name (i := 6) sc__law_formed.nd rfl (by first | exact .inl rfl | exact .inr rfl))) (fun _ _ _ _ _ => (pts_one (pt_val (pe_callS (k := 1) (ok__law_is_name T) (Room.mono hr (by decide)) (by rfl) T.g__law_is_name T.F__law_is_name.kp (b__law_is_name T) (fun σ => passAt takes0 σ) (pa_cons (pv 6) pa_nil))))) (fun _ _ _ _ _ => (pv 6))) (pe_lst (pa_cons pe_str (pa_cons pe_str (pa_cons pe_str pa_nil)))))) (pss_cons (ps_set (i := 3) sc__law_formed.nd rfl (by first | exact .inl rfl | exact .inr rfl) (pe_op (op_addK (K := K) rfl) (pe_lc rfl sc__law_formed.nd (pi_seqK (K := K) rfl (pv 1)) (blkOk_by (own := [("_law_word_here", 6)]) (N := ["_law_numbers_here", "_law_words", "_law_names", "_law_figures", "_law_many", "_law_kind", "_law_word_here", "_law_k"]) (sc := defScope s__law_formed) (by first | decide +kernel | rfl)) (fun _ _ _ _ _ => (pg_name (i := 6) sc__law_formed.nd rfl (by first | exact .inl rfl | exact .inr rfl))) (fun _ _ _ _ _ => (pts_one (pt_val (pe_callS (k := 1) (ok__law_is_number T) (Room.mono hr (by decide)) (by rfl) T.g__law_is_number T.F__law_is_number.kp (b__law_is_number T) (fun σ => passAt takes0 σ) (pa_cons (pv 6) pa_nil))))) (fun _ _ _ _ _ => (pv 6))) (pe_lst (pa_cons pe_str (pa_cons pe_str (pa_cons pe_str pa_nil)))))) (pss_cons (ps_set (i := 4) sc__law_formed.nd rfl (by first | exact .inl rfl | exact .inr rfl) (pe_op op_mod (pe_callTy call_int1 (by rfl) T.z_int boot_int (pa_cons (pe_ix (ix_anyK (K := K) rfl hu1) (pv 0) pe_int (fun _ _ => rfl)) pa_nil)) pe_int)) (pss_cons (ps_set (i := 5) sc__law_formed.nd rfl (by first | exact .inl rfl | exact .inr rfl) (pe_op op_mod (pe_callTy call_int1 (by rfl) T.z_int boot_int (pa_cons (pe_ix (ix_anyK (K := K) rfl hu1) (pv 0) pe_int (fun _ _ => rfl)) pa_nil)) pe_int)) (pss_cons (ps_if (pt_cmpR op_lt (pv 5) pe_int (nomark _)) (pss_one (ps_ret (pe_lst (pa_cons (pe_ix (ix_anyK (K := K) rfl hu1) (pe_tup (pa_cons pe_str (pa_cons pe_str (pa_cons pe_str (pa_cons pe_str (pa_cons pe_str pa_nil)))))) (pe_op op_mod (pv 4) pe_int) (fun _ _ => rfl)) pa_nil)))) pss_nil) (pss_cons (ps_if (pt_cmpR op_lt (pv 5) pe_int (nomark _)) (pss_one (ps_ret (pe_lst (pa_cons (pe_ix (ix_anyK (K := K) rfl hu1) (pe_tup (pa_cons pe_str (pa_cons pe_str (pa_cons pe_str (pa_cons pe_str (pa_cons pe_str pa_nil)))))) (pe_op op_mod (pv 4) pe_int) (fun _ _ => rfl)) (pa_cons (pe_ix (ix_anyK (K := K) rfl hu1) (pv 2) pe_int (fun _ _ => rfl)) pa_nil))))) pss_nil) (pss_cons (ps_if (pt_cmpR (op_eqK (K := K) rfl hu64) (pv 5) pe_int (nomark _)) (pss_one (ps_ret (pe_lst (pa_cons pe_str (pa_cons (pe_ix (ix_anyK (K := K) rfl hu1) (pv 2) pe_int (fun _ _ => rfl)) (pa_cons (pe_ix (ix_anyK (K := K) rfl hu1) (pv 2) pe_int (fun _ _ => rfl)) (pa_cons (pe_ix (ix_anyK (K := K) rfl hu1) (pv 2) pe_int (fun _ _ => rfl)) pa_nil))))))) pss_nil) (pss_cons (ps_if (pt_cmpR op_lt (pv 5) pe_int (nomark _)) (pss_one (ps_ret (pe_op (op_addK (K := K) rfl) (pe_lst (pa_cons (pe_ix (ix_anyK (K := K) rfl hu1) (pe_tup (pa_cons pe_str (pa_cons pe_str pa_nil))) (pe_op op_mod (pv 4) pe_int) (fun _ _ => rfl)) (pa_cons (pe_ix (ix_anyK (K := K) rfl hu1) (pv 2) pe_int (fun _ _ => rfl)) (pa_cons (pe_ix (ix_anyK (K := K) rfl hu1) (pv 2) pe_int (fun _ _ => rfl)) pa_nil)))) (pe_lc rfl sc__law_formed.nd (pi_range1 (by rfl) T.z_range (pa_cons pe_int pa_nil)) (blkOk_by (own := [("_law_k", 7)]) (N := ["_law_numbers_here", "_law_words", "_law_names", "_law_figures", "_law_many", "_law_kind", "_law_word_here", "_law_k"]) (sc := defScope s__law_formed) (by first | decide +kernel | rfl)) (fun _ _ _ _ _ => (pg_name (i := 7) sc__law_formed.nd rfl (by first | exact .inl rfl | exact .inr rfl))) (fun _ _ _ _ _ => pts_nil) (fun _ _ _ _ _ => (pe_ix (ix_anyK (K := K) rfl hu1) (pv 3) (pe_op op_mod (pv 7) (pe_callB (call_lenKK (K := K) rfl) (by rfl) T.z_len boot_len (pa_cons (pv 3) pa_nil))) (fun _ _ => rfl))))))) pss_nil) (pss_cons (ps_if (pt_cmpR (op_eqK (K := K) rfl hu64) (pv 5) pe_int (nomark _)) (pss_one (ps_ret (pe_lst (pa_cons pe_str (pa_cons (pe_ix (ix_anyK (K := K) rfl hu1) (pv 2) pe_int (fun _ _ => rfl)) (pa_cons (pe_ix (ix_anyK (K := K) rfl hu1) (pe_tup (pa_cons pe_str (pa_cons pe_str pa_nil))) (pe_op op_mod (pv 4) pe_int) (fun _ _ => rfl)) (pa_cons (pe_ix (ix_anyK (K := K) rfl hu1) (pv 2) pe_int (fun _ _ => rfl)) pa_nil))))))) pss_nil) (pss_cons (ps_if (pt_cmpR (op_eqK (K := K) rfl hu64) (pv 5) pe_int (nomark _)) (pss_one (ps_ret (pe_lst (pa_cons pe_str (pa_cons (pe_ix (ix_anyK (K := K) rfl hu1) (pv 2) pe_int (fun _ _ => rfl)) (pa_cons pe_str (pa_cons (pe_ix (ix_anyK (K := K) rfl hu1) (pv 2) pe_int (fun _ _ => rfl)) (pa_cons (pe_ix (ix_anyK (K := K) rfl hu1) (pv 3) pe_int (fun _ _ => rfl)) (pa_cons (pe_ix (ix_anyK (K := K) rfl hu1) (pv 3) pe_int (fun _ _ => rfl)) pa_nil))))))))) pss_nil) (pss_one (ps_ret (pe_op (op_addK (K := K) rfl) (pe_lst (pa_cons pe_str (pa_cons (pe_ix (ix_anyK (K := K) rfl hu1) (pv 2) pe_int (fun _ _ => rfl)) (pa_cons pe_str (pa_cons (pe_ix (ix_anyK (K := K) rfl hu1) (pv 2) pe_int (fun _ _ => rfl)) pa_nil))))) (pe_lc rfl sc__law_formed.nd (pi_range1 (by rfl) T.z_range (pa_cons (pv 4) pa_nil)) (blkOk_by (own := [("_law_k", 7)]) (N := ["_law_numbers_here", "_law_words", "_law_names", "_law_figures", "_law_many", "_law_kind", "_law_word_here", "_law_k"]) (sc := defScope s__law_formed) (by first | decide +kernel | rfl)) (fun _ _ _ _ _ => (pg_name (i := 7) sc__law_formed.nd rfl (by first | exact .inl rfl | exact .inr rfl))) (fun _ _ _ _ _ => pts_nil) (fun _ _ _ _ _ => (pe_ix (ix_anyK (K := K) rfl hu1) (pv 3) (pe_op op_mod (pv 7) (pe_callB (call_lenKK (K := K) rfl) (by rfl) T.z_len boot_len (pa_cons (pv 3) pa_nil))) (fun _ _ => rfl))))))))))))))))), ?_⟩
    exact body_ok (N := ["_law_numbers_here", "_law_words", "_law_names", "_law_figures", "_law_many", "_law_kind", "_law_word_here", "_law_k"]) (Bn := [.sh, .sh, .sh, .sh, .sh, .sh, .sh, .sh]) (Bb := []) (Bxx := [.sh, .sh, .sh, .sh, .sh, .sh, .sh, .sh]) (by decide) (ss_cons (μ1 := [.sh, .sh, .sh, .sh, .sh, .sh, .sh, .sh]) (ss_set (sim_opG og_add (sim_lc (si_seq (sim_var rfl)) (by decide) (sg_name rfl) (st_B (sim_call (sa_cons (sim_var rfl) sa_nil) (len_cons len_nil)).toR) (sim_var rfl)).fr (sim_lst (sa_cons sim_str (sa_cons sim_str (sa_cons sim_str sa_nil)))).fr) rfl rfl rfl) (ss_cons (μ1 := [.sh, .sh, .sh, .sh, .sh, .sh, .sh, .sh]) (ss_set (sim_opG og_add (sim_lc (si_seq (sim_var rfl)) (by decide) (sg_name rfl) (st_B (sim_call (sa_cons (sim_var rfl) sa_nil) (len_cons len_nil)).toR) (sim_var rfl)).fr (sim_lst (sa_cons sim_str (sa_cons sim_str (sa_cons sim_str sa_nil)))).fr) rfl rfl rfl) (ss_cons (μ1 := [.sh, .sh, .sh, .sh, .sh, .sh, .sh, .sh]) (ss_set (sim_op os_mod (sim_cb cs_int (sar_cons (sim_opG og_ix (sim_var rfl) sim_int).toR sar_nil)).toR sim_int.toR) rfl rfl rfl) (ss_cons (μ1 := [.sh, .sh, .sh, .sh, .sh, .sh, .sh, .sh]) (ss_set (sim_op os_mod (sim_cb cs_int (sar_cons (sim_opG og_ix (sim_var rfl) sim_int).toR sar_nil)).toR sim_int.toR) rfl rfl rfl) (ss_cons (μ1 := [.sh, .sh, .sh, .sh, .sh, .sh, .sh, .sh]) (ss_if (st_test (sim_op os_lt simR_var sim_int.toR).toR) (ss_ret (sim_lst (sa_cons (sim_opG og_ix (sim_tup (sa_cons sim_str (sa_cons sim_str (sa_cons sim_str (sa_cons sim_str (sa_cons sim_str sa_nil)))))) (sim_op os_mod simR_var sim_int.toR)) sa_nil)) rfl) (ss_nil rfl) rfl) (ss_cons (μ1 := [.sh, .sh, .sh, .sh, .sh, .sh, .sh, .sh]) (ss_if (st_test (sim_op os_lt simR_var sim_int.toR).toR) (ss_ret (sim_lst (sa_cons (sim_opG og_ix (sim_tup (sa_cons sim_str (sa_cons sim_str (sa_cons sim_str (sa_cons sim_str (sa_cons sim_str sa_nil)))))) (sim_op os_mod simR_var sim_int.toR)) (sa_cons (sim_opG og_ix (sim_var rfl) sim_int) sa_nil))) rfl) (ss_nil rfl) rfl) (ss_cons (μ1 := [.sh, .sh, .sh, .sh, .sh, .sh, .sh, .sh]) (ss_if (st_test (sim_op os_eqq simR_var sim_int.toR).toR) (ss_ret (sim_lst (sa_cons sim_str (sa_cons (sim_opG og_ix (sim_var rfl) sim_int) (sa_cons (sim_opG og_ix (sim_var rfl) sim_int) (sa_cons (sim_opG og_ix (sim_var rfl) sim_int) sa_nil))))) rfl) (ss_nil rfl) rfl) (ss_cons (μ1 := [.sh, .sh, .sh, .sh, .sh, .sh, .sh, .sh]) (ss_if (st_test (sim_op os_lt simR_var sim_int.toR).toR) (ss_ret (sim_opO oo_cat (sim_lst (sa_cons (sim_opG og_ix (sim_tup (sa_cons sim_str (sa_cons sim_str sa_nil))) (sim_op os_mod simR_var sim_int.toR)) (sa_cons (sim_opG og_ix (sim_var rfl) sim_int) (sa_cons (sim_opG og_ix (sim_var rfl) sim_int) sa_nil)))).fr (sim_lc (si_rng1 (sar_cons sim_int.toR sar_nil)) (by decide) (sg_name rfl) st_yes' (sim_opG og_ix (sim_var rfl) (sim_op os_mod simR_var (sim_cb cs_len (sar_cons simR_var sar_nil)).toR))).fr) rfl) (ss_nil rfl) rfl) (ss_cons (μ1 := [.sh, .sh, .sh, .sh, .sh, .sh, .sh, .sh]) (ss_if (st_test (sim_op os_eqq simR_var sim_int.toR).toR) (ss_ret (sim_lst (sa_cons sim_str (sa_cons (sim_opG og_ix (sim_var rfl) sim_int) (sa_cons (sim_opG og_ix (sim_tup (sa_cons sim_str (sa_cons sim_str sa_nil))) (sim_op os_mod simR_var sim_int.toR)) (sa_cons (sim_opG og_ix (sim_var rfl) sim_int) sa_nil))))) rfl) (ss_nil rfl) rfl) (ss_cons (μ1 := [.sh, .sh, .sh, .sh, .sh, .sh, .sh, .sh]) (ss_if (st_test (sim_op os_eqq simR_var sim_int.toR).toR) (ss_ret (sim_lst (sa_cons sim_str (sa_cons (sim_opG og_ix (sim_var rfl) sim_int) (sa_cons sim_str (sa_cons (sim_opG og_ix (sim_var rfl) sim_int) (sa_cons (sim_opG og_ix (sim_var rfl) sim_int) (sa_cons (sim_opG og_ix (sim_var rfl) sim_int) sa_nil))))))) rfl) (ss_nil rfl) rfl) (ss_ret (sim_opO oo_cat (sim_lst (sa_cons sim_str (sa_cons (sim_opG og_ix (sim_var rfl) sim_int) (sa_cons sim_str (sa_cons (sim_opG og_ix (sim_var rfl) sim_int) sa_nil))))).fr (sim_lc (si_rng1 (sar_cons simR_var sar_nil)) (by decide) (sg_name rfl) st_yes' (sim_opG og_ix (sim_var rfl) (sim_op os_mod simR_var (sim_cb cs_len (sar_cons simR_var sar_nil)).toR))).fr) rfl))))))))))) h (fun z => nomatch z)
theorem sc__law_all_numbers : FnScope ["_law_words", "_law_word_here"] ["_law_words"] (defScope s__law_all_numbers) := ⟨rfl, rfl, rfl, by decide +kernel, rfl, by decide +kernel, by decide +kernel⟩
theorem b__law_all_numbers (T : FX w K mg) : Binds K T.d__law_all_numbers ["_law_words"] [] := T.F__law_all_numbers.bindsN fun _ _ _ _ _ _ us hl => match us, hl with | [_], _ => rfl
theorem ok__law_all_numbers (T : FX w K mg) : FnOk P w K mg base (L2.CX P w) 2 T.a__law_all_numbers T.d__law_all_numbers ["_law_words"] (spM mg (.sh) 1 f__law_all_numbers) := by
  refine T.F__law_all_numbers.ok sc__law_all_numbers (fun vs H Q E h => ?_) (fun cdv A outer s H vs Q E hr h => ?_)
  · obtain ⟨ds, F, hl, r, _⟩ := h; rw [RepL.len _ _ r, hl]; rfl
  · have hu1 : (A.deeper (envOfC "_law_all_numbers" (defScope s__law_all_numbers) s.heap.objs.size T.a__law_all_numbers cdv)).units + 1 < cLine := by have := hr.un; omega
    have hu64 : (A.deeper (envOfC "_law_all_numbers" (defScope s__law_all_numbers) s.heap.objs.size T.a__law_all_numbers cdv)).units + 64 < cLine := by have := hr.un; omega
    have hu65 : (A.deeper (envOfC "_law_all_numbers" (defScope s__law_all_numbers) s.heap.objs.size T.a__law_all_numbers cdv)).units + 65 < cLine := by have := hr.un; omega
    have tk := takes_of (X := cxOf (L2.CX P w) P w K mg base ["_law_words", "_law_word_here"] "_law_all_numbers" (defScope s__law_all_numbers) T.a__law_all_numbers cdv A outer s H E) rfl rfl rfl rfl
    refine ⟨_, (pss_one (ps_ret (pe_callB (cr_allK (K := K) rfl rfl) (by rfl) T.z_all boot_all (pa_cons (pe_lc rfl sc__law_all_numbers.nd (pi_seqK (K := K) rfl (pv 0)) (blkOk_by (own := [("_law_word_here", 1)]) (N := ["_law_words", "_law_word_here"]) (sc := defScope s__law_all_numbers) (by first | decide +kernel | rfl)) (fun _ _ _ _ _ => (pg_name (i := 1) sc__law_all_numbers.nd rfl (by first | exact .inl rfl | exact .inr rfl))) (fun _ _ _ _ _ => pts_nil) (fun _ _ _ _ _ => (pe_callS (k := 1) (ok__law_is_number T) (Room.mono hr (by decide)) (by rfl) T.g__law_is_number T.F__law_is_number.kp (b__law_is_number T) (fun σ => passAt takes0 σ) (pa_cons (pv 1) pa_nil)))) pa_nil)))), ?_⟩
    exact body_ok (N := ["_law_words", "_law_word_here"]) (Bn := [.sh, .sh]) (Bb := []) (Bxx := [.sh, .sh]) (by decide) (ss_ret (sim_cb cs_all (sar_cons (sim_lc (si_seq (sim_var rfl)) (by decide) (sg_name rfl) st_yes' (sim_call (sa_cons (sim_var rfl) sa_nil) (len_cons len_nil))).toR sar_nil)) rfl) h (fun z => nomatch z)
theorem sc__law_all_names : FnScope ["_law_words", "_law_word_here"] ["_law_words"] (defScope s__law_all_names) := ⟨rfl, rfl, rfl, by decide +kernel, rfl, by decide +kernel, by decide +kernel⟩
theorem b__law_all_names (T : FX w K mg) : Binds K T.d__law_all_names ["_law_words"] [] := T.F__law_all_names.bindsN fun _ _ _ _ _ _ us hl => match us, hl with | [_], _ => rfl
theorem ok__law_all_names (T : FX w K mg) : FnOk P w K mg base (L2.CX P w) 2 T.a__law_all_names T.d__law_all_names ["_law_words"] (spM mg (.sh) 1 f__law_all_names) := by
  refine T.F__law_all_names.ok sc__law_all_names (fun vs H Q E h => ?_) (fun cdv A outer s H vs Q E hr h => ?_)
  · obtain ⟨ds, F, hl, r, _⟩ := h; rw [RepL.len _ _ r, hl]; rfl
  · have hu1 : (A.deeper (envOfC "_law_all_names" (defScope s__law_all_names) s.heap.objs.size T.a__law_all_names cdv)).units + 1 < cLine := by have := hr.un; omega
    have hu64 : (A.deeper (envOfC "_law_all_names" (defScope s__law_all_names) s.heap.objs.size T.a__law_all_names cdv)).units + 64 < cLine := by have := hr.un; omega
    have hu65 : (A.deeper (envOfC "_law_all_names" (defScope s__law_all_names) s.heap.objs.size T.a__law_all_names cdv)).units + 65 < cLine := by have := hr.un; omega
    have tk := takes_of (X := cxOf (L2.CX P w) P w K mg base ["_law_words", "_law_word_here"] "_law_all_names" (defScope s__law_all_names) T.a__law_all_names cdv A outer s H E) rfl rfl rfl rfl
    refine ⟨_, (pss_one (ps_ret (pe_callB (cr_allK (K := K) rfl rfl) (by rfl) T.z_all boot_all (pa_cons (pe_lc rfl sc__law_all_names.nd (pi_seqK (K := K) rfl (pv 0)) (blkOk_by (own := [("_law_word_here", 1)]) (N := ["_law_words", "_law_word_here"]) (sc := defScope s__law_all_names) (by first | decide +kernel | rfl)) (fun _ _ _ _ _ => (pg_name (i := 1) sc__law_all_names.nd rfl (by first | exact .inl rfl | exact .inr rfl))) (fun _ _ _ _ _ => pts_nil) (fun _ _ _ _ _ => (pe_callS (k := 1) (ok__law_is_name T) (Room.mono hr (by decide)) (by rfl) T.g__law_is_name T.F__law_is_name.kp (b__law_is_name T) (fun σ => passAt takes0 σ) (pa_cons (pv 1) pa_nil)))) pa_nil)))), ?_⟩
    exact body_ok (N := ["_law_words", "_law_word_here"]) (Bn := [.sh, .sh]) (Bb := []) (Bxx := [.sh, .sh]) (by decide) (ss_ret (sim_cb cs_all (sar_cons (sim_lc (si_seq (sim_var rfl)) (by decide) (sg_name rfl) st_yes' (sim_call (sa_cons (sim_var rfl) sa_nil) (len_cons len_nil))).toR sar_nil)) rfl) h (fun z => nomatch z)
theorem sc__law_command : FnScope ["_law_words", "_law_first", "_law_rest"] ["_law_words"] (defScope s__law_command) := ⟨rfl, rfl, rfl, by decide +kernel, rfl, by decide +kernel, by decide +kernel⟩
theorem b__law_command (T : FX w K mg) : Binds K T.d__law_command ["_law_words"] [] := T.F__law_command.bindsN fun _ _ _ _ _ _ us hl => match us, hl with | [_], _ => rfl
theorem ok__law_command (T : FX w K mg) : FnOk P w K mg base (L2.CX P w) 3 T.a__law_command T.d__law_command ["_law_words"] (spM mg (.sh) 1 f__law_command) := by
  refine T.F__law_command.ok sc__law_command (fun vs H Q E h => ?_) (fun cdv A outer s H vs Q E hr h => ?_)
  · obtain ⟨ds, F, hl, r, _⟩ := h; rw [RepL.len _ _ r, hl]; rfl
  · have hu1 : (A.deeper (envOfC "_law_command" (defScope s__law_command) s.heap.objs.size T.a__law_command cdv)).units + 1 < cLine := by have := hr.un; omega
    have hu64 : (A.deeper (envOfC "_law_command" (defScope s__law_command) s.heap.objs.size T.a__law_command cdv)).units + 64 < cLine := by have := hr.un; omega
    have hu65 : (A.deeper (envOfC "_law_command" (defScope s__law_command) s.heap.objs.size T.a__law_command cdv)).units + 65 < cLine := by have := hr.un; omega
    have tk := takes_of (X := cxOf (L2.CX P w) P w K mg base ["_law_words", "_law_first", "_law_rest"] "_law_command" (defScope s__law_command) T.a__law_command cdv A outer s H E) rfl rfl rfl rfl
    refine ⟨_, (pss_cons (ps_set (i := 1) sc__law_command.nd rfl (by first | exact .inl rfl | exact .inr rfl) (pe_ix (ix_anyK (K := K) rfl hu1) (pv 0) pe_int (fun _ _ => rfl))) (pss_cons (ps_set (i := 2) sc__law_command.nd rfl (by first | exact .inl rfl | exact .inr rfl) (pe_slice (sl_anyK (K := K) rfl) (pv 0) (po_some pe_int) po_none)) (pss_cons (ps_if (pt_cmpR (op_inK (K := K) rfl hu65) (pv 1) (pe_tup (pa_cons pe_str (pa_cons pe_str (pa_cons pe_str (pa_cons pe_str (pa_cons pe_str pa_nil)))))) (by rfl)) (pss_one (ps_ret (pe_cmpR (op_eqK (K := K) rfl hu64) (pe_callB (call_lenKK (K := K) rfl) (by rfl) T.z_len boot_len (pa_cons (pv 2) pa_nil)) pe_int (nomark _)))) pss_nil) (pss_cons (ps_if (pt_cmpR (op_inK (K := K) rfl hu65) (pv 1) (pe_tup (pa_cons pe_str (pa_cons pe_str (pa_cons pe_str (pa_cons pe_str (pa_cons pe_str pa_nil)))))) (by rfl)) (pss_one (ps_ret (pe_and (pe_cmpR (op_eqK (K := K) rfl hu64) (pe_callB (call_lenKK (K := K) rfl) (by rfl) T.z_len boot_len (pa_cons (pv 2) pa_nil)) pe_int (nomark _)) (pe_one (pe_callS (k := 1) (ok__law_is_name T) (Room.mono hr (by decide)) (by rfl) T.g__law_is_name T.F__law_is_name.kp (b__law_is_name T) (fun σ => passAt tk σ) (pa_cons (pe_ix (ix_anyK (K := K) rfl hu1) (pv 2) pe_int (fun _ _ => rfl)) pa_nil)))))) pss_nil) (pss_cons (ps_if (pt_cmpR (op_eqK (K := K) rfl hu64) (pv 1) pe_str (nomark _)) (pss_one (ps_ret (pe_and (pe_cmpR (op_eqK (K := K) rfl hu64) (pe_callB (call_lenKK (K := K) rfl) (by rfl) T.z_len boot_len (pa_cons (pv 2) pa_nil)) pe_int (nomark _)) (pe_one (pe_callS (k := 2) (ok__law_all_names T) (Room.mono hr (by decide)) (by rfl) T.g__law_all_names T.F__law_all_names.kp (b__law_all_names T) (fun σ => passAt tk σ) (pa_cons (pv 2) pa_nil)))))) pss_nil) (pss_cons (ps_if (pt_cmpR (op_inK (K := K) rfl hu65) (pv 1) (pe_tup (pa_cons pe_str (pa_cons pe_str pa_nil))) (by rfl)) (pss_one (ps_ret (pe_and (pe_cmpR (op_eqK (K := K) rfl hu64) (pe_callB (call_lenKK (K := K) rfl) (by rfl) T.z_len boot_len (pa_cons (pv 2) pa_nil)) pe_int (nomark _)) (pe_and (pe_callS (k := 2) (ok__law_all_names T) (Room.mono hr (by decide)) (by rfl) T.g__law_all_names T.F__law_all_names.kp (b__law_all_names T) (fun σ => passAt tk σ) (pa_cons (pe_slice (sl_anyK (K := K) rfl) (pv 2) po_none (po_some pe_int)) pa_nil)) (pe_one (pe_callS (k := 2) (ok__law_all_numbers T) (Room.mono hr (by decide)) (by rfl) T.g__law_all_numbers T.F__law_all_numbers.kp (b__law_all_numbers T) (fun σ => passAt tk σ) (pa_cons (pe_slice (sl_anyK (K := K) rfl) (pv 2) (po_some pe_int) po_none) pa_nil))))))) pss_nil) (pss_cons (ps_if (pw_or (pt_cmpR (op_neK (K := K) rfl hu64) (pv 1) pe_str (nomark _)) (pw_or (pt_cmpR op_lt (pe_callB (call_lenKK (K := K) rfl) (by rfl) T.z_len boot_len (pa_cons (pv 2) pa_nil)) pe_int (nomark _)) (pw_or (pt_not (pt_val (pe_callS (k := 1) (ok__law_is_name T) (Room.mono hr (by decide)) (by rfl) T.g__law_is_name T.F__law_is_name.kp (b__law_is_name T) (fun σ => passAt tk σ) (pa_cons (pe_ix (ix_anyK (K := K) rfl hu1) (pv 2) pe_int (fun _ _ => rfl)) pa_nil)))) (pw_or1 (pt_not (pt_val (pe_callS (k := 1) (ok__law_is_name T) (Room.mono hr (by decide)) (by rfl) T.g__law_is_name T.F__law_is_name.kp (b__law_is_name T) (fun σ => passAt tk σ) (pa_cons (pe_ix (ix_anyK (K := K) rfl hu1) (pv 2) pe_int (fun _ _ => rfl)) pa_nil)))))))).pt (pss_one (ps_ret pe_bl)) pss_nil) (pss_cons (ps_if (pt_not (pt_val (pe_callS (k := 2) (ok__law_all_numbers T) (Room.mono hr (by decide)) (by rfl) T.g__law_all_numbers T.F__law_all_numbers.kp (b__law_all_numbers T) (fun σ => passAt tk σ) (pa_cons (pe_slice (sl_anyK (K := K) rfl) (pv 2) (po_some pe_int) po_none) pa_nil)))) (pss_one (ps_ret pe_bl)) pss_nil) (pss_cons (ps_if (pt_cmpR (op_eqK (K := K) rfl hu64) (pe_ix (ix_anyK (K := K) rfl hu1) (pv 2) pe_int (fun _ _ => rfl)) pe_str (nomark _)) (pss_one (ps_ret (pe_cmpR (op_inK (K := K) rfl hu65) (pe_callB (call_lenKK (K := K) rfl) (by rfl) T.z_len boot_len (pa_cons (pv 2) pa_nil)) (pe_tup (pa_cons pe_int (pa_cons pe_int (pa_cons pe_int (pa_cons pe_int pa_nil))))) (by rfl)))) pss_nil) (pss_one (ps_ret (pe_cmpR (op_inK (K := K) rfl hu65) (pe_tup (pa_cons (pe_ix (ix_anyK (K := K) rfl hu1) (pv 2) pe_int (fun _ _ => rfl)) (pa_cons (pe_callB (call_lenKK (K := K) rfl) (by rfl) T.z_len boot_len (pa_cons (pv 2) pa_nil)) pa_nil))) (pe_tup (pa_cons (pe_tup (pa_cons pe_str (pa_cons pe_int pa_nil))) (pa_cons (pe_tup (pa_cons pe_str (pa_cons pe_int pa_nil))) (pa_cons (pe_tup (pa_cons pe_str (pa_cons pe_int pa_nil))) pa_nil)))) (by rfl))))))))))))), ?_⟩
    exact body_ok (N := ["_law_words", "_law_first", "_law_rest"]) (Bn := [.sh, .sh, .sh]) (Bb := []) (Bxx := [.sh, .sh, .sh]) (by decide) (ss_cons (μ1 := [.sh, .sh, .sh]) (ss_set (sim_opG og_ix (sim_var rfl) sim_int) rfl rfl rfl) (ss_cons (μ1 := [.sh, .sh, .sh]) (ss_set (sim_slice (sim_var rfl) (so_some sim_int.toR) so_none) rfl rfl rfl) (ss_cons (μ1 := [.sh, .sh, .sh]) (ss_if (st_test (sim_op os_inn simR_var (sim_tup (sa_cons sim_str (sa_cons sim_str (sa_cons sim_str (sa_cons sim_str (sa_cons sim_str sa_nil)))))).toR).toR) (ss_ret (sim_op os_eqq (sim_cb cs_len (sar_cons simR_var sar_nil)).toR sim_int.toR) rfl) (ss_nil rfl) rfl) (ss_cons (μ1 := [.sh, .sh, .sh]) (ss_if (st_test (sim_op os_inn simR_var (sim_tup (sa_cons sim_str (sa_cons sim_str (sa_cons sim_str (sa_cons sim_str (sa_cons sim_str sa_nil)))))).toR).toR) (ss_ret (sim_andV (sim_op os_eqq (sim_cb cs_len (sar_cons simR_var sar_nil)).toR sim_int.toR).toR (sim_call (sa_cons (sim_opG og_ix (sim_var rfl) sim_int) sa_nil) (len_cons len_nil))) rfl) (ss_nil rfl) rfl) (ss_cons (μ1 := [.sh, .sh, .sh]) (ss_if (st_test (sim_op os_eqq simR_var sim_str.toR).toR) (ss_ret (sim_andV (sim_op os_eqq (sim_cb cs_len (sar_cons simR_var sar_nil)).toR sim_int.toR).toR (sim_call (sa_cons (sim_var rfl) sa_nil) (len_cons len_nil))) rfl) (ss_nil rfl) rfl) (ss_cons (μ1 := [.sh, .sh, .sh]) (ss_if (st_test (sim_op os_inn simR_var (sim_tup (sa_cons sim_str (sa_cons sim_str sa_nil))).toR).toR) (ss_ret (sim_andV (sim_op os_eqq (sim_cb cs_len (sar_cons simR_var sar_nil)).toR sim_int.toR).toR (sim_andV (sim_call (sa_cons (sim_slice (sim_var rfl) so_none (so_some sim_int.toR)) sa_nil) (len_cons len_nil)).toR (sim_call (sa_cons (sim_slice (sim_var rfl) (so_some sim_int.toR) so_none) sa_nil) (len_cons len_nil)))) rfl) (ss_nil rfl) rfl) (ss_cons (μ1 := [.sh, .sh, .sh]) (ss_if (st_or (st_test (sim_op os_neq simR_var sim_str.toR).toR) (st_or (st_test (sim_op os_lt (sim_cb cs_len (sar_cons simR_var sar_nil)).toR sim_int.toR).toR) (st_or (st_not (st_B (sim_call (sa_cons (sim_opG og_ix (sim_var rfl) sim_int) sa_nil) (len_cons len_nil)).toR)) (st_not (st_B (sim_call (sa_cons (sim_opG og_ix (sim_var rfl) sim_int) sa_nil) (len_cons len_nil)).toR))))) (ss_ret sim_bl rfl) (ss_nil rfl) rfl) (ss_cons (μ1 := [.sh, .sh, .sh]) (ss_if (st_not (st_B (sim_call (sa_cons (sim_slice (sim_var rfl) (so_some sim_int.toR) so_none) sa_nil) (len_cons len_nil)).toR)) (ss_ret sim_bl rfl) (ss_nil rfl) rfl) (ss_cons (μ1 := [.sh, .sh, .sh]) (ss_if (st_test (sim_op os_eqq (sim_opG og_ix (sim_var rfl) sim_int).toR sim_str.toR).toR) (ss_ret (sim_op os_inn (sim_cb cs_len (sar_cons simR_var sar_nil)).toR (sim_tup (sa_cons sim_int (sa_cons sim_int (sa_cons sim_int (sa_cons sim_int sa_nil))))).toR) rfl) (ss_nil rfl) rfl) (ss_ret (sim_op os_inn (sim_tup (sa_cons (sim_opG og_ix (sim_var rfl) sim_int) (sa_cons (sim_cb cs_len (sar_cons simR_var sar_nil)) sa_nil))).toR (sim_tup (sa_cons (sim_tup (sa_cons sim_str (sa_cons sim_int sa_nil))) (sa_cons (sim_tup (sa_cons sim_str (sa_cons sim_int sa_nil))) (sa_cons (sim_tup (sa_cons sim_str (sa_cons sim_int sa_nil))) sa_nil)))).toR) rfl)))))))))) h (fun z => nomatch z)
theorem sc_law : FnScope ["_law_script", "_law_numbers_here", "_law_words", "_law_line", "_law_place", "_law_text", "_law_k", "_law_told", "_law_passed", "_law_actual"] ["_law_script"] (defScope s_law) := ⟨rfl, rfl, rfl, by decide +kernel, rfl, by decide +kernel, by decide +kernel⟩
theorem b_law (T : FX w K mg) : Binds K T.d_law ["_law_script"] [] := T.F_law.bindsN fun _ _ _ _ _ _ us hl => match us, hl with | [_], _ => rfl
theorem ok_law (T : FX w K mg) (hv : ∀ ns, f_law ns = .ok (.bl true)) : FnOk P w K mg base (L2.CX P w) 4 T.a_law T.d_law ["_law_script"] (spLaw K) := by
  refine T.F_law.ok sc_law (fun vs H Q E h => ?_) (fun cdv A outer s H vs Q E hr h => ?_)
  · obtain ⟨a, ns, rest⟩ := h; rw [rest.1]; rfl
  · have hu1 : (A.deeper (envOfC "law" (defScope s_law) s.heap.objs.size T.a_law cdv)).units + 1 < cLine := by have := hr.un; omega
    have hu64 : (A.deeper (envOfC "law" (defScope s_law) s.heap.objs.size T.a_law cdv)).units + 64 < cLine := by have := hr.un; omega
    have hu65 : (A.deeper (envOfC "law" (defScope s_law) s.heap.objs.size T.a_law cdv)).units + 65 < cLine := by have := hr.un; omega
    have tk := takes_of (X := cxOf (L2.CX P w) P w K mg base ["_law_script", "_law_numbers_here", "_law_words", "_law_line", "_law_place", "_law_text", "_law_k", "_law_told", "_law_passed", "_law_actual"] "law" (defScope s_law) T.a_law cdv A outer s H E) rfl rfl rfl rfl
    refine ⟨_, (pss_cons (ps_set (i := 1) sc_law.nd rfl (by first | exact .inl rfl | exact .inr rfl) (pe_callS (k := 2) (ok__law_numbers T) (Room.mono hr (by decide)) (by rfl) T.g__law_numbers T.F__law_numbers.kp (b__law_numbers T) (fun σ => passAt tk σ) (pa_cons (pv 0) (pa_cons pe_int pa_nil)))) (pss_cons (ps_setLc (i := 2) rfl sc_law.nd rfl rfl (by rfl) (pi_range1 (by rfl) T.z_range (pa_cons (pe_op (op_addK (K := K) rfl) pe_int (pe_op op_mod (pe_callTy call_int1 (by rfl) T.z_int boot_int (pa_cons (pe_ix (ix_anyK (K := K) rfl hu1) (pv 1) pe_int (fun _ _ => rfl)) pa_nil)) pe_int)) pa_nil)) (blkOk_by (own := [("_law_k", 6)]) (N := ["_law_script", "_law_numbers_here", "_law_words", "_law_line", "_law_place", "_law_text", "_law_k", "_law_told", "_law_passed", "_law_actual"]) (sc := defScope s_law) (by first | decide +kernel | rfl)) (fun _ _ _ _ _ => (pg_name (i := 6) sc_law.nd rfl (by first | exact .inl rfl | exact .inr rfl))) (fun _ _ _ _ _ => pts_nil) (fun _ _ _ _ _ => (pe_callS (k := 1) (ok__law_word T) (Room.mono hr (by decide)) (by rfl) T.g__law_word T.F__law_word.kp (b__law_word T) (fun σ => passAt takes0 σ) (pa_cons (pe_ix (ix_anyK (K := K) rfl hu1) (pv 1) (pe_op op_mulA pe_int (pv 6)) (fun _ _ => rfl)) (pa_cons (pe_ix (ix_anyK (K := K) rfl hu1) (pv 1) (pe_op (op_addK (K := K) rfl) (pe_op op_mulA pe_int (pv 6)) pe_int) (fun _ _ => rfl)) pa_nil))))) (pss_cons (ps_if (pt_cmpR op_gt (pe_op op_mod (pe_callTy call_int1 (by rfl) T.z_int boot_int (pa_cons (pe_ix (ix_anyK (K := K) rfl hu1) (pv 1) pe_int (fun _ _ => rfl)) pa_nil)) pe_int) pe_int (nomark _)) (pss_cons (ps_set (i := 3) sc_law.nd rfl (by first | exact .inl rfl | exact .inr rfl) (pe_callS (k := 2) (ok__law_formed T) (Room.mono hr (by decide)) (by rfl) T.g__law_formed T.F__law_formed.kp (b__law_formed T) (fun σ => passAt tk σ) (pa_cons (pv 1) (pa_cons (pv 2) pa_nil)))) (pss_cons (ps_set (i := 4) sc_law.nd rfl (by first | exact .inl rfl | exact .inr rfl) (pe_op op_mod (pe_callTy call_int1 (by rfl) T.z_int boot_int (pa_cons (pe_ix (ix_anyK (K := K) rfl hu1) (pv 1) pe_int (fun _ _ => rfl)) pa_nil)) (pe_callB (call_lenKK (K := K) rfl) (by rfl) T.z_len boot_len (pa_cons (pv 3) pa_nil)))) (pss_cons (ps_if (pt_cmpR (op_eqK (K := K) rfl hu64) (pe_op op_mod (pe_callTy call_int1 (by rfl) T.z_int boot_int (pa_cons (pe_ix (ix_anyK (K := K) rfl hu1) (pv 1) pe_int (fun _ _ => rfl)) pa_nil)) pe_int) pe_int (nomark _)) (pss_one (ps_asg (pe_ix (ix_anyK (K := K) rfl hu1) (pv 2) pe_int (fun _ _ => rfl)) (pg_sub (pv 3) (pv 4) (set_any hu1) (fun _ => rfl)))) pss_nil) (pss_cons (ps_if (pw_and (pt_cmpR (op_eqK (K := K) rfl hu64) (pe_op op_mod (pe_callTy call_int1 (by rfl) T.z_int boot_int (pa_cons (pe_ix (ix_anyK (K := K) rfl hu1) (pv 1) pe_int (fun _ _ => rfl)) pa_nil)) pe_int) pe_int (nomark _)) (pw_and1 (pt_cmpR op_gt (pe_callB (call_lenKK (K := K) rfl) (by rfl) T.z_len boot_len (pa_cons (pv 3) pa_nil)) pe_int (nomark _)))).pt (pss_one (ps_set (i := 3) sc_law.nd rfl (by first | exact .inl rfl | exact .inr rfl) (pe_op (op_addK (K := K) rfl) (pe_slice (sl_anyK (K := K) rfl) (pv 3) po_none (po_some (pv 4))) (pe_slice (sl_anyK (K := K) rfl) (pv 3) (po_some (pe_op (op_addK (K := K) rfl) (pv 4) pe_int)) po_none)))) pss_nil) (pss_cons (ps_if (pt_cmpR (op_eqK (K := K) rfl hu64) (pe_op op_mod (pe_callTy call_int1 (by rfl) T.z_int boot_int (pa_cons (pe_ix (ix_anyK (K := K) rfl hu1) (pv 1) pe_int (fun _ _ => rfl)) pa_nil)) pe_int) pe_int (nomark _)) (pss_one (ps_expr (pe_bm PySem.F.plainAttrs_list PySem.F.slot_list_append PySem.F.type_list_append mt_append (pv 3) (pa_cons (pe_ix (ix_anyK (K := K) rfl hu1) (pv 2) pe_int (fun _ _ => rfl)) pa_nil)))) pss_nil) (pss_one (ps_set (i := 2) sc_law.nd rfl (by first | exact .inl rfl | exact .inr rfl) (pv 3)))))))) pss_nil) (pss_cons (ps_set (i := 5) sc_law.nd rfl (by first | exact .inl rfl | exact .inr rfl) (pe_op op_mulA pe_str (pe_op op_mod (pe_callTy call_int1 (by rfl) T.z_int boot_int (pa_cons (pe_ix (ix_anyK (K := K) rfl hu1) (pv 1) pe_int (fun _ _ => rfl)) pa_nil)) pe_int))) (pss_cons (ps_for (passes_of rfl) rfl (pi_range1 (by rfl) T.z_range (pa_cons (pe_callB (call_lenKK (K := K) rfl) (by rfl) T.z_len boot_len (pa_cons (pv 2) pa_nil)) pa_nil)) (pg_name (i := 6) sc_law.nd rfl (by first | exact .inl rfl | exact .inr rfl)) (pss_cons (ps_set (i := 5) sc_law.nd rfl (by first | exact .inl rfl | exact .inr rfl) (pe_op (op_addK (K := K) rfl) (pv 5) (pe_ix (ix_anyK (K := K) rfl hu1) (pv 2) (pv 6) (fun _ _ => rfl)))) (pss_one (ps_if (pt_cmpR op_lt (pe_op (op_addK (K := K) rfl) (pv 6) pe_int) (pe_callB (call_lenKK (K := K) rfl) (by rfl) T.z_len boot_len (pa_cons (pv 2) pa_nil)) (nomark _)) (pss_one (ps_set (i := 5) sc_law.nd rfl (by first | exact .inl rfl | exact .inr rfl) (pe_op (op_addK (K := K) rfl) (pv 5) (pe_op op_mulA pe_str (pe_op (op_addK (K := K) rfl) pe_int (pe_op op_mod (pe_callTy call_int1 (by rfl) T.z_int boot_int (pa_cons (pe_op (op_addK (K := K) rfl) (pe_ix (ix_anyK (K := K) rfl hu1) (pv 1) pe_int (fun _ _ => rfl)) (pe_op op_mulA (pv 6) (pe_ix (ix_anyK (K := K) rfl hu1) (pv 1) pe_int (fun _ _ => rfl)))) pa_nil)) pe_int)))))) pss_nil)))) (pss_cons (ps_set (i := 5) sc_law.nd rfl (by first | exact .inl rfl | exact .inr rfl) (pe_op (op_addK (K := K) rfl) (pv 5) (pe_op op_mulA pe_str (pe_op op_mod (pe_callTy call_int1 (by rfl) T.z_int boot_int (pa_cons (pe_ix (ix_anyK (K := K) rfl hu1) (pv 1) pe_int (fun _ _ => rfl)) pa_nil)) pe_int)))) (pss_cons (ps_set (i := 7) sc_law.nd rfl (by first | exact .inl rfl | exact .inr rfl) (pe_callS (k := 1) (ok_split_words T) (Room.mono hr (by decide)) (by rfl) T.g_split_words T.F_split_words.kp (b_split_words T) (fun σ => passAt tk σ) (pa_cons (pv 5) pa_nil))) (pss_cons (ps_if (pw_or (pt_not (pt_val (pe_callB (call_isiK1 (K := K) rfl) (by rfl) T.z_isinstance boot_isinstance (pa_cons (pv 7) (pa_cons (pe_bltn (v := .ty "list") (by rfl) T.z_list boot_list rfl) pa_nil))))) (pw_or (pt_cmpR (op_neK (K := K) rfl hu64) (pv 7) (pv 2) (nomark _)) (pw_or1 (pt_cmpR (op_neK (K := K) rfl hu64) (pe_callS (k := 1) (ok_split_words T) (Room.mono hr (by decide)) (by rfl) T.g_split_words T.F_split_words.kp (b_split_words T) (fun σ => passAt tk σ) (pa_cons (pe_op op_mulA pe_str (pe_op op_mod (pe_callTy call_int1 (by rfl) T.z_int boot_int (pa_cons (pe_ix (ix_anyK (K := K) rfl hu1) (pv 1) pe_int (fun _ _ => rfl)) pa_nil)) pe_int)) pa_nil)) (pe_lst pa_nil) (nomark _))))).pt (pss_one (ps_ret pe_bl)) pss_nil) (pss_cons (ps_if (pt_cmpR (op_neK (K := K) rfl hu64) (pe_callS (k := 1) (ok_split_words T) (Room.mono hr (by decide)) (by rfl) T.g_split_words T.F_split_words.kp (b_split_words T) (fun σ => passAt tk σ) (pa_cons pe_str pa_nil)) (pe_lst (pa_cons pe_str (pa_cons pe_str pa_nil))) (nomark _)) (pss_one (ps_ret pe_bl)) pss_nil) (pss_cons (ps_set (i := 8) sc_law.nd rfl (by first | exact .inl rfl | exact .inr rfl) (pe_callTy (call_listK (K := K) rfl) (by rfl) T.z_list boot_list (pa_cons (pv 2) pa_nil))) (pss_cons (ps_set (i := 9) sc_law.nd rfl (by first | exact .inl rfl | exact .inr rfl) (pe_callS (k := 3) (ok_is_command T) (Room.mono hr (by decide)) (by rfl) T.g_is_command T.F_is_command.kp (b_is_command T) (fun σ => passAt tk σ) (pa_cons (pv 8) pa_nil))) (pss_one (ps_ret (pe_and (pe_callB (call_isiK1 (K := K) rfl) (by rfl) T.z_isinstance boot_isinstance (pa_cons (pv 9) (pa_cons (pe_bltn (v := .ty "bool") (by rfl) T.z_bool boot_bool rfl) pa_nil))) (pe_and (pe_cmpR (op_eqK (K := K) rfl hu64) (pv 9) (pe_callS (k := 3) (ok__law_command T) (Room.mono hr (by decide)) (by rfl) T.g__law_command T.F__law_command.kp (b__law_command T) (fun σ => passAt tk σ) (pa_cons (pv 2) pa_nil)) (nomark _)) (pe_one (pe_cmpR (op_eqK (K := K) rfl hu64) (pv 8) (pv 2) (nomark _)))))))))))))))))), ?_⟩
    exact law_body (mr := .sh) (n0 := 4) (n := 8) (C := 60) (num := m__law_numbers) (Bn := [.sh, .sh, .sh, .sh, .sh, .sh, .sh, .sh, .sh, .sh]) (Bb := []) (Bxx := [.sh, .sh, .sh, .sh, .sh, .sh, .sh, .sh, .sh, .sh]) rfl (ss_cons (μ1 := [.sh, .sh, .sh, .sh, .sh, .sh, .sh, .sh, .sh, .sh]) (ss_set (sim_lc (si_rng1 (sar_cons (sim_opG og_add sim_int (sim_op os_mod (sim_cb cs_int (sar_cons (sim_opG og_ix (sim_var rfl) sim_int).toR sar_nil)).toR sim_int.toR)).toR sar_nil)) (by decide) (sg_name rfl) st_yes' (sim_call (sa_cons (sim_opG og_ix (sim_var rfl) (sim_opG og_mul sim_int (sim_var rfl))) (sa_cons (sim_opG og_ix (sim_var rfl) (sim_opG og_add (sim_opG og_mul sim_int (sim_var rfl)) sim_int)) sa_nil)) (len_cons (len_cons len_nil)))).fr rfl rfl rfl) (ss_cons (μ1 := [.sh, .sh, .sh, .sh, .sh, .sh, .sh, .sh, .sh, .sh]) (ss_if (st_test (sim_op os_gt (sim_op os_mod (sim_cb cs_int (sar_cons (sim_opG og_ix (sim_var rfl) sim_int).toR sar_nil)).toR sim_int.toR).toR sim_int.toR).toR) (ss_cons (μ1 := [.sh, .sh, .sh, .ow .sh, .sh, .sh, .sh, .sh, .sh, .sh]) (ss_set (sim_call (sa_cons (sim_var rfl) (sa_cons (sim_var rfl) sa_nil)) (len_cons (len_cons len_nil))) rfl rfl rfl) (ss_cons (μ1 := [.sh, .sh, .sh, .ow .sh, .sh, .sh, .sh, .sh, .sh, .sh]) (ss_set (sim_op os_mod (sim_cb cs_int (sar_cons (sim_opG og_ix (sim_var rfl) sim_int).toR sar_nil)).toR (sim_cb cs_len (sar_cons simR_var sar_nil)).toR) rfl rfl rfl) (ss_cons (μ1 := [.sh, .sh, .sh, .ow .sh, .sh, .sh, .sh, .sh, .sh, .sh]) (ss_if (st_test (sim_op os_eqq (sim_op os_mod (sim_cb cs_int (sar_cons (sim_opG og_ix (sim_var rfl) sim_int).toR sar_nil)).toR sim_int.toR).toR sim_int.toR).toR) (ss_asgH (sim_opG og_ix (sim_var rfl) sim_int) (sh_sub (mg := mg) (pl_var rfl) simR_var) rfl rfl) (ss_nil rfl) rfl) (ss_cons (μ1 := [.sh, .sh, .sh, .ow .sh, .sh, .sh, .sh, .sh, .sh, .sh]) (ss_if (st_and (st_test (sim_op os_eqq (sim_op os_mod (sim_cb cs_int (sar_cons (sim_opG og_ix (sim_var rfl) sim_int).toR sar_nil)).toR sim_int.toR).toR sim_int.toR).toR) (st_test (sim_op os_gt (sim_cb cs_len (sar_cons simR_var sar_nil)).toR sim_int.toR).toR)) (ss_set (sim_opO oo_cat (sim_sliceS simR_var so_none (so_some simR_var)).fr (sim_sliceS simR_var (so_some (sim_opG og_add (sim_var rfl) sim_int).toR) so_none).fr) rfl rfl rfl) (ss_nil rfl) rfl) (ss_cons (μ1 := [.sh, .sh, .sh, .ow .sh, .sh, .sh, .sh, .sh, .sh, .sh]) (ss_if (st_test (sim_op os_eqq (sim_op os_mod (sim_cb cs_int (sar_cons (sim_opG og_ix (sim_var rfl) sim_int).toR sar_nil)).toR sim_int.toR).toR sim_int.toR).toR) (ss_app (pl_var rfl) (sim_opG og_ix (sim_var rfl) sim_int) rfl rfl) (ss_nil rfl) rfl) (ss_pre (μ1 := [.sh, .sh, .sh, .sh, .sh, .sh, .sh, .sh, .sh, .sh]) rfl (ss_set (sim_var rfl) rfl rfl rfl))))))) (ss_nil rfl) rfl) (ss_cons (μ1 := [.sh, .sh, .sh, .sh, .sh, .sh, .sh, .sh, .sh, .sh]) (ss_set (sim_opG og_mul sim_str (sim_op os_mod (sim_cb cs_int (sar_cons (sim_opG og_ix (sim_var rfl) sim_int).toR sar_nil)).toR sim_int.toR)) rfl rfl rfl) (ss_cons (μ1 := [.sh, .sh, .sh, .sh, .sh, .sh, .sh, .sh, .sh, .sh]) (ss_for (si_rng1 (sar_cons (sim_cb cs_len (sar_cons simR_var sar_nil)).toR sar_nil)) rfl (sg_name rfl) (ss_cons (μ1 := [.sh, .sh, .sh, .sh, .sh, .sh, .sh, .sh, .sh, .sh]) (ss_set (sim_opG og_add (sim_var rfl) (sim_opG og_ix (sim_var rfl) (sim_var rfl))) rfl rfl rfl) (ss_if (st_test (sim_op os_lt (sim_opG og_add (sim_var rfl) sim_int).toR (sim_cb cs_len (sar_cons simR_var sar_nil)).toR).toR) (ss_set (sim_opG og_add (sim_var rfl) (sim_opG og_mul sim_str (sim_opG og_add sim_int (sim_op os_mod (sim_cb cs_int (sar_cons (sim_opG og_add (sim_opG og_ix (sim_var rfl) sim_int) (sim_opG og_mul (sim_var rfl) (sim_opG og_ix (sim_var rfl) sim_int))).toR sar_nil)).toR sim_int.toR)))) rfl rfl rfl) (ss_nil rfl) rfl)) rfl) (ss_cons (μ1 := [.sh, .sh, .sh, .sh, .sh, .sh, .sh, .sh, .sh, .sh]) (ss_set (sim_opG og_add (sim_var rfl) (sim_opG og_mul sim_str (sim_op os_mod (sim_cb cs_int (sar_cons (sim_opG og_ix (sim_var rfl) sim_int).toR sar_nil)).toR sim_int.toR))) rfl rfl rfl) (ss_cons (μ1 := [.sh, .sh, .sh, .sh, .sh, .sh, .sh, .sh, .sh, .sh]) (ss_set (sim_call (sa_cons (sim_var rfl) sa_nil) (len_cons len_nil)) rfl rfl rfl) (ss_cons (μ1 := [.sh, .sh, .sh, .sh, .sh, .sh, .sh, .sh, .sh, .sh]) (ss_if (st_or (st_not (st_B (sim_isTy simR_var).toR)) (st_or (st_test (sim_op os_neq simR_var simR_var).toR) (st_test (sim_op os_neq (sim_call (sa_cons (sim_opG og_mul sim_str (sim_op os_mod (sim_cb cs_int (sar_cons (sim_opG og_ix (sim_var rfl) sim_int).toR sar_nil)).toR sim_int.toR)) sa_nil) (len_cons len_nil)).toR (sim_lst sa_nil).toR).toR))) (ss_ret sim_bl rfl) (ss_nil rfl) rfl) (ss_cons (μ1 := [.sh, .sh, .sh, .sh, .sh, .sh, .sh, .sh, .sh, .sh]) (ss_if (st_test (sim_op os_neq (sim_call (sa_cons sim_str sa_nil) (len_cons len_nil)).toR (sim_lst (sa_cons sim_str (sa_cons sim_str sa_nil))).toR).toR) (ss_ret sim_bl rfl) (ss_nil rfl) rfl) (ss_cons (μ1 := [.sh, .sh, .sh, .sh, .sh, .sh, .sh, .sh, .sh, .sh]) (ss_set (sim_cbO co_list (sa_cons (sim_var rfl) sa_nil)).fr rfl rfl rfl) (ss_cons (μ1 := [.sh, .sh, .sh, .sh, .sh, .sh, .sh, .sh, .sh, .sh]) (ss_set (sim_call (sa_cons (sim_var rfl) sa_nil) (len_cons len_nil)) rfl rfl rfl) (ss_ret (sim_andV (sim_isTy simR_var).toR (sim_andV (sim_op os_eqq simR_var (sim_call (sa_cons (sim_var rfl) sa_nil) (len_cons len_nil)).toR).toR (sim_op os_eqq simR_var simR_var))) rfl))))))))))) hv h
end
end Mi
namespace Mi
open PySem PySem.Spec PyProof.Rows L2
def dd__law_row : He.DefD := ⟨("_law_row", none), "_law_row", "_law_row", defArgs s__law_row, defBody s__law_row, defScope s__law_row, [], []⟩
def dd__law_numbers : He.DefD := ⟨("_law_numbers", none), "_law_numbers", "_law_numbers", defArgs s__law_numbers, defBody s__law_numbers, defScope s__law_numbers, [], []⟩
def dd_split_words : He.DefD := ⟨("split_words", none), "split_words", "split_words", defArgs s_split_words, defBody s_split_words, defScope s_split_words, [], []⟩
def dd_is_name : He.DefD := ⟨("is_name", none), "is_name", "is_name", defArgs s_is_name, defBody s_is_name, defScope s_is_name, [], []⟩
def dd_is_number : He.DefD := ⟨("is_number", none), "is_number", "is_number", defArgs s_is_number, defBody s_is_number, defScope s_is_number, [], []⟩
def dd_has_form : He.DefD := ⟨("has_form", none), "has_form", "has_form", defArgs s_has_form, defBody s_has_form, defScope s_has_form, [], []⟩
def dd_is_command : He.DefD := ⟨("is_command", none), "is_command", "is_command", defArgs s_is_command, defBody s_is_command, defScope s_is_command, [], []⟩
def dd__law_word : He.DefD := ⟨("_law_word", none), "_law_word", "_law_word", defArgs s__law_word, defBody s__law_word, defScope s__law_word, [], []⟩
def dd__law_is_name : He.DefD := ⟨("_law_is_name", none), "_law_is_name", "_law_is_name", defArgs s__law_is_name, defBody s__law_is_name, defScope s__law_is_name, [], []⟩
def dd__law_is_number : He.DefD := ⟨("_law_is_number", none), "_law_is_number", "_law_is_number", defArgs s__law_is_number, defBody s__law_is_number, defScope s__law_is_number, [], []⟩
def dd__law_formed : He.DefD := ⟨("_law_formed", none), "_law_formed", "_law_formed", defArgs s__law_formed, defBody s__law_formed, defScope s__law_formed, [], []⟩
def dd__law_all_numbers : He.DefD := ⟨("_law_all_numbers", none), "_law_all_numbers", "_law_all_numbers", defArgs s__law_all_numbers, defBody s__law_all_numbers, defScope s__law_all_numbers, [], []⟩
def dd__law_all_names : He.DefD := ⟨("_law_all_names", none), "_law_all_names", "_law_all_names", defArgs s__law_all_names, defBody s__law_all_names, defScope s__law_all_names, [], []⟩
def dd__law_command : He.DefD := ⟨("_law_command", none), "_law_command", "_law_command", defArgs s__law_command, defBody s__law_command, defScope s__law_command, [], []⟩
def dd_law : He.DefD := ⟨("law", none), "law", "law", defArgs s_law, defBody s_law, defScope s_law, [], []⟩
def hfn : List He.DefD := [dd__law_row, dd__law_numbers, dd_split_words, dd_is_name, dd_is_number, dd_has_form, dd_is_command, dd__law_word, dd__law_is_name, dd__law_is_number, dd__law_formed, dd__law_all_numbers, dd__law_all_names, dd__law_command, dd_law]
def hfa : List He.Fa := [.glo "_law_row", .glo "_law_numbers", .glo "split_words", .glo "is_name", .glo "is_number", .glo "has_form", .glo "is_command", .glo "_law_word", .glo "_law_is_name", .glo "_law_is_number", .glo "_law_formed", .glo "_law_all_numbers", .glo "_law_all_names", .glo "_law_command", .glo "law", .free "abs", .free "int", .free "range", .free "len", .free "max", .free "all", .free "zip", .free "isinstance", .free "list", .free "bool", .int "MOST_NAME_CHARS" 12, .str "NAME_CHARS" "abcdefghijklmnopqrstuvwxyz0123456789", .str "DIGITS" "0123456789", .int "MOST_DIGITS" 31, .glo "FORMS", .glo "ASKED"]
def hts : List He.Tab := [(fun K => He.ga K "FORMS", t_FORMS.map (·.1)), (fun K => He.ga K "ASKED", t_ASKED.map (·.1))]
def hex : PySem.W.Frag → Bool := fun K => tabB K pStr (He.ga K "FORMS") t_FORMS && tabB K (pInts K) (He.ga K "ASKED") t_ASKED
abbrev RR : PySem.W.OpenRow := PySem.W.OpenLaw.row PySem.Challenge.rw_matedsquares_k57_words_of_a_session
abbrev hk : PySem.W.Hook := He.hookX 4 hfa hfn hts [] hex
def hob (s : PySem.W.SharedT) : He.AlX := He.obsX 4 hfa hfn hts [] hex (HandSHeadRun.getT s)
theorem hob_eq (s : PySem.W.SharedT) : hob s = hk.obs s.abs := He.obsX_eq (HandSHeadRun.getT_eq s)
def hloose0 : List Str := ["NAME_CHARS", "MOST_NAME_CHARS", "is_name", "DIGITS", "MOST_DIGITS", "is_number", "FORMS", "ASKED", "split_words", "has_form", "is_command", "_law_row", "_law_numbers", "_law_word", "_law_is_name", "_law_all_names", "_law_is_number", "_law_all_numbers", "_law_command", "_law_formed"]
def hloose : List Str := hloose0
theorem hrunF (w : World) : HandSHeadRun.RunEq RR (PySem.W.view RR.prog [24]) hk hob 6000 hloose (w.withFollow "special-get-raises" false) := by
  intro os
  kernel_rfl
theorem hrunT (w : World) : HandSHeadRun.RunEq RR (PySem.W.view RR.prog [24]) hk hob 6000 hloose (w.withFollow "special-get-raises" true) := by
  intro os
  kernel_rfl
theorem hrun (w : World) : HandSHeadRun.RunEq RR (PySem.W.view RR.prog [24]) hk hob 6000 hloose w := PySem.W.byRow2 "special-get-raises" (P := fun w => HandSHeadRun.RunEq RR (PySem.W.view RR.prog [24]) hk hob 6000 hloose w) hrunF hrunT w
theorem hfacts {w : World} {K : PySem.W.Frag} {h : Heap} {mg : Str → Option Value} {f : Addr} (hv : ∀ ns, f_law ns = .ok (.bl true)) (X : K.In h) (G : h.Ns mainGlobals mg) (hfa0 : mg ("law" : Str) = some (.ref f)) (c0 : He.SaysX hfa hfn hts [] hex w h K) :
    ∃ fd : FuncData, (∀ (s : Shared) (v : Value), BindsTo s fd ⟨[v], []⟩ [("_law_script", v)]) ∧ ∀ base : Heap, K.In base → base.Ns mainGlobals mg → FnOk (PySem.Challenge.rw_matedsquares_k57_words_of_a_session).prog w K mg base (L2.CX (PySem.Challenge.rw_matedsquares_k57_words_of_a_session).prog w) 4 f fd ["_law_script"] (spLaw K) := by
  have c := c0.t.d
  obtain ⟨fd__law_row, F__law_row⟩ := c.def_ 0 (d := dd__law_row) rfl
  obtain ⟨fd__law_numbers, F__law_numbers⟩ := c.def_ 1 (d := dd__law_numbers) rfl
  obtain ⟨fd_split_words, F_split_words⟩ := c.def_ 2 (d := dd_split_words) rfl
  obtain ⟨fd_is_name, F_is_name⟩ := c.def_ 3 (d := dd_is_name) rfl
  obtain ⟨fd_is_number, F_is_number⟩ := c.def_ 4 (d := dd_is_number) rfl
  obtain ⟨fd_has_form, F_has_form⟩ := c.def_ 5 (d := dd_has_form) rfl
  obtain ⟨fd_is_command, F_is_command⟩ := c.def_ 6 (d := dd_is_command) rfl
  obtain ⟨fd__law_word, F__law_word⟩ := c.def_ 7 (d := dd__law_word) rfl
  obtain ⟨fd__law_is_name, F__law_is_name⟩ := c.def_ 8 (d := dd__law_is_name) rfl
  obtain ⟨fd__law_is_number, F__law_is_number⟩ := c.def_ 9 (d := dd__law_is_number) rfl
  obtain ⟨fd__law_formed, F__law_formed⟩ := c.def_ 10 (d := dd__law_formed) rfl
  obtain ⟨fd__law_all_numbers, F__law_all_numbers⟩ := c.def_ 11 (d := dd__law_all_numbers) rfl
  obtain ⟨fd__law_all_names, F__law_all_names⟩ := c.def_ 12 (d := dd__law_all_names) rfl
  obtain ⟨fd__law_command, F__law_command⟩ := c.def_ 13 (d := dd__law_command) rfl
  obtain ⟨fd_law, F_law⟩ := c.def_ 14 (d := dd_law) rfl
  have e := hfa0.symm.trans (He.glo_ok X G (c.fact 14 (f := .glo "law") rfl))
  cases e
  have b := FunD.bindsA (ps := ["_law_script"]) F_law fun _ _ _ _ _ _ us hl => match us, hl with | [_], _ => rfl
  let T : FX w K mg := { a__law_row := He.ga K "_law_row", d__law_row := fd__law_row, F__law_row := F__law_row, g__law_row := He.glo_ok X G (c.fact 0 (f := .glo "_law_row") rfl), a__law_numbers := He.ga K "_law_numbers", d__law_numbers := fd__law_numbers, F__law_numbers := F__law_numbers, g__law_numbers := He.glo_ok X G (c.fact 1 (f := .glo "_law_numbers") rfl), a_split_words := He.ga K "split_words", d_split_words := fd_split_words, F_split_words := F_split_words, g_split_words := He.glo_ok X G (c.fact 2 (f := .glo "split_words") rfl), a_is_name := He.ga K "is_name", d_is_name := fd_is_name, F_is_name := F_is_name, g_is_name := He.glo_ok X G (c.fact 3 (f := .glo "is_name") rfl), a_is_number := He.ga K "is_number", d_is_number := fd_is_number, F_is_number := F_is_number, g_is_number := He.glo_ok X G (c.fact 4 (f := .glo "is_number") rfl), a_has_form := He.ga K "has_form", d_has_form := fd_has_form, F_has_form := F_has_form, g_has_form := He.glo_ok X G (c.fact 5 (f := .glo "has_form") rfl), a_is_command := He.ga K "is_command", d_is_command := fd_is_command, F_is_command := F_is_command, g_is_command := He.glo_ok X G (c.fact 6 (f := .glo "is_command") rfl), a__law_word := He.ga K "_law_word", d__law_word := fd__law_word, F__law_word := F__law_word, g__law_word := He.glo_ok X G (c.fact 7 (f := .glo "_law_word") rfl), a__law_is_name := He.ga K "_law_is_name", d__law_is_name := fd__law_is_name, F__law_is_name := F__law_is_name, g__law_is_name := He.glo_ok X G (c.fact 8 (f := .glo "_law_is_name") rfl), a__law_is_number := He.ga K "_law_is_number", d__law_is_number := fd__law_is_number, F__law_is_number := F__law_is_number, g__law_is_number := He.glo_ok X G (c.fact 9 (f := .glo "_law_is_number") rfl), a__law_formed := He.ga K "_law_formed", d__law_formed := fd__law_formed, F__law_formed := F__law_formed, g__law_formed := He.glo_ok X G (c.fact 10 (f := .glo "_law_formed") rfl), a__law_all_numbers := He.ga K "_law_all_numbers", d__law_all_numbers := fd__law_all_numbers, F__law_all_numbers := F__law_all_numbers, g__law_all_numbers := He.glo_ok X G (c.fact 11 (f := .glo "_law_all_numbers") rfl), a__law_all_names := He.ga K "_law_all_names", d__law_all_names := fd__law_all_names, F__law_all_names := F__law_all_names, g__law_all_names := He.glo_ok X G (c.fact 12 (f := .glo "_law_all_names") rfl), a__law_command := He.ga K "_law_command", d__law_command := fd__law_command, F__law_command := F__law_command, g__law_command := He.glo_ok X G (c.fact 13 (f := .glo "_law_command") rfl), a_law := He.ga K "law", d_law := fd_law, F_law := F_law, g_law := He.glo_ok X G (c.fact 14 (f := .glo "law") rfl), z_abs := He.free_ok X G (c.fact 15 (f := .free "abs") rfl), z_int := He.free_ok X G (c.fact 16 (f := .free "int") rfl), z_range := He.free_ok X G (c.fact 17 (f := .free "range") rfl), z_len := He.free_ok X G (c.fact 18 (f := .free "len") rfl), z_max := He.free_ok X G (c.fact 19 (f := .free "max") rfl), z_all := He.free_ok X G (c.fact 20 (f := .free "all") rfl), z_zip := He.free_ok X G (c.fact 21 (f := .free "zip") rfl), z_isinstance := He.free_ok X G (c.fact 22 (f := .free "isinstance") rfl), z_list := He.free_ok X G (c.fact 23 (f := .free "list") rfl), z_bool := He.free_ok X G (c.fact 24 (f := .free "bool") rfl), c_MOST_NAME_CHARS := He.int_ok X G (c.fact 25 (f := .int "MOST_NAME_CHARS" 12) rfl), c_NAME_CHARS := He.str_ok X G (c.fact 26 (f := .str "NAME_CHARS" "abcdefghijklmnopqrstuvwxyz0123456789") rfl), c_DIGITS := He.str_ok X G (c.fact 27 (f := .str "DIGITS" "0123456789") rfl), c_MOST_DIGITS := He.int_ok X G (c.fact 28 (f := .int "MOST_DIGITS" 31) rfl), k_FORMS := He.ga K "FORMS", c_FORMS := He.glo_ok X G (c.fact 29 (f := .glo "FORMS") rfl), n_FORMS := c0.t.tab 0, t_FORMS := (He.ba c0.more).1, k_ASKED := He.ga K "ASKED", c_ASKED := He.glo_ok X G (c.fact 30 (f := .glo "ASKED") rfl), n_ASKED := c0.t.tab 1, t_ASKED := (He.ba c0.more).2 }
  exact ⟨fd_law, fun s v => b s [v] rfl, fun base _ _ => ok_law (P := (PySem.Challenge.rw_matedsquares_k57_words_of_a_session).prog) (base := base) T hv⟩
end Mi
open PySem PySem.W PySem.Calls PyProof.Rows
theorem PySem.Challenge.cw_matedsquares_k57_words_of_a_session_holds : PySem.Challenge.rw_matedsquares_k57_words_of_a_session.Holds := by
  w_on; o_law
  refine HandSHeadRun.head_any (r := OpenLaw.row PySem.Challenge.rw_matedsquares_k57_words_of_a_session) (q := view (OpenLaw.row PySem.Challenge.rw_matedsquares_k57_words_of_a_session).prog [24]) (H := Mi.hk) (ob := Mi.hob) (M := 6000) (loose := Mi.hloose) (d := HandSHeadRun.topDef (OpenLaw.row PySem.Challenge.rw_matedsquares_k57_words_of_a_session).prog 24) (kwd := []) Mi.hob_eq
    (by kernel_rfl) (fun s => by kernel_rfl) Mi.hrun (by kernel_rfl) (by kernel_rfl) (by kernel_rfl) (by rfl) (by first | assumption | decide +kernel) (by decide +kernel) ⟨rfl, rfl, rfl, rfl, rfl, by decide +kernel⟩ ?hw ?hc
  case hw => w_witness2
  case hc =>
    refine Mi.walk_ofW (l := PySem.Challenge.rw_matedsquares_k57_words_of_a_session) (n := 63) (k := 4) (x := "_law_script") (CX := fun w => L2.CX (PySem.Challenge.rw_matedsquares_k57_words_of_a_session).prog w) rfl (by decide) (by kernel_rfl) ⟨rfl, by decide, by decide⟩ ?F (fun _ _ _ _ _ z => Mi.cx_never z)
    intro w mg fa h Y G hmg0
    obtain ⟨K, KX, c⟩ := Y
    have hmg : mg ("law" : PySem.Str) = some (.ref fa) := by
      have e : (HandSHeadRun.topDef (OpenLaw.row PySem.Challenge.rw_matedsquares_k57_words_of_a_session).prog 24).name = ("law" : PySem.Str) := by kernel_rfl
      rw [← e]
      exact hmg0
    obtain ⟨fd, hb, hF⟩ := Mi.hfacts (w := w) Mi.law_true KX G hmg c
    exact ⟨K, fd, Mi.spLaw K, KX, hb, fun H a ns hl _ hS => ⟨a, ns, rfl, hS, fun _ => rfl⟩, hF⟩
