import PyProof.Rows.All
import Wide.All
import OpenK.AllK
import Wide.FinOn
import HandS.ForMost
import HandS.ForExc
import HandS.Star
import HandS.CallSlots
import PyProof.ReprRoads
import HandS.IsInst
import HandS.Style
import HandS.Wide
import HandS.TupAny
import HandS.Conv
import HandS.SortInts
import PyProof.Rows.RuleB_pow
import HandS.Defaults
import HandS.Ends
import HandS.HeadEnd
import HandS.Head0
import HandS.Head1
import HandS.Head2
import HandS.HeadHook1
import HandS.HeadHook2
import HandS.HeadHook4
import PySem.Challenge.RW_heldbehind_k01_forests_judged
set_option Elab.async false
set_option linter.all false
set_option maxRecDepth 100000
set_option maxHeartbeats 2000000
/-! HBCore: plain data D, how a value of the heap bears it, the state of a body: a frozen heap below the true one, and the things that a body owns. -/
namespace HB
open PySem PySem.Spec PyProof.Rows L2

/-- plain data; frz: the script -/
inductive D where
  | non | bl (b : Bool) | int (i : Int) | str (x : Str)
  | lst (ds : List D) | tup (ds : List D) | frz (ds : List D)
  | dK (ks : List Key) (ds : List D) | dT (ks : List (List Key)) (ds : List D)
/-- what an owned thing holds -/
inductive OB where
  | lst (ds : List D) | dK (ks : List Key) (ds : List D) | dT (ks : List (List Key)) (ds : List D)
def OB.toD : OB → D
  | .lst ds => .lst ds
  | .dK ks ds => .dK ks ds
  | .dT ks ds => .dT ks ds
/-- a slot: not known, data, an owned thing -/
inductive Sl where
  | un | im (d : D) | ow (o : OB)
abbrev Evn := List Sl
/-- a value: data, the thing owned by a slot, a thing just made -/
inductive RV where
  | val (d : D) | bo (i : Nat) | fr (o : OB)

abbrev Fg := PySem.W.Frag
def Le (H H' : Hp) : Prop := ∀ b o, H b = some o → H' b = some o
theorem Le.refl (H : Hp) : Le H H := fun _ _ h => h
theorem Le.trans {H H1 H2 : Hp} (a : Le H H1) (b : Le H1 H2) : Le H H2 := fun x o h => b x o (a x o h)
theorem Le.new {H : Hp} {p : Addr} {o : HO} (h : H p = none) : Le H (upd H p o) := fun a u e => by
  rw [upd_ne (ne_of_none e h)]; exact e
theorem Le.none {H H' : Hp} (e : Le H H') {p : Addr} (h : H' p = Option.none) : H p = Option.none := by
  cases q : H p with
  | none => rfl
  | some o => rw [e p o q] at h; cases h
theorem Le.rd {H H' : Hp} (e : Le H H') {a : Addr} {u : HO} (h : Rd H a u) : Rd H' a u := by
  rcases h with h | ⟨o, h⟩
  · exact .inl (e a _ h)
  · exact .inr ⟨o, e a _ h⟩
theorem Le.sql {K : Fg} {H H' : Hp} (e : Le H H') {a : Addr} {xs : List V} (h : SqL K H a xs) : SqL K H' a xs := by
  rcases h with h | h
  · exact .inl (e.rd h)
  · exact .inr h
theorem Le.sqt {K : Fg} {H H' : Hp} (e : Le H H') {a : Addr} {xs : List V} (h : SqT K H a xs) : SqT K H' a xs := by
  rcases h with h | h
  · exact .inl (e.rd h)
  · exact .inr h

mutual
/-- v bears the data d in H -/
def Rp (K : Fg) (H : Hp) : D → V → Prop
  | .non, v => v = .non
  | .bl b, v => v = .bl b
  | .int i, v => v = .int i
  | .str x, v => v = .str x
  | .lst ds, v => ∃ a xs, v = .ref a ∧ H a = some (.lst xs) ∧ RpAll K H ds xs
  | .tup ds, v => ∃ a xs, v = .ref a ∧ SqT K H a xs ∧ RpAll K H ds xs
  | .frz ds, v => ∃ a xs, v = .ref a ∧ SqL K H a xs ∧ RpAll K H ds xs
  | .dK ks ds, v => ∃ a xs, v = .ref a ∧ H a = some (.dK (ks.zip xs)) ∧ ks.length = xs.length ∧ RpAll K H ds xs
  | .dT ks ds, v => ∃ a xs, v = .ref a ∧ H a = some (.dT (ks.zip xs)) ∧ ks.length = xs.length ∧ RpAll K H ds xs
def RpAll (K : Fg) (H : Hp) : List D → List V → Prop
  | [], xs => xs = []
  | d :: ds, xs => ∃ y ys, xs = y :: ys ∧ Rp K H d y ∧ RpAll K H ds ys
end
mutual
theorem Rp.mono {K : Fg} {H H' : Hp} (e : Le H H') : ∀ (d : D) (v : V), Rp K H d v → Rp K H' d v
  | .non, _, h => h
  | .bl _, _, h => h
  | .int _, _, h => h
  | .str _, _, h => h
  | .lst ds, _, ⟨a, xs, h1, h2, h3⟩ => ⟨a, xs, h1, e _ _ h2, RpAll.mono e ds xs h3⟩
  | .tup ds, _, ⟨a, xs, h1, h2, h3⟩ => ⟨a, xs, h1, e.sqt h2, RpAll.mono e ds xs h3⟩
  | .frz ds, _, ⟨a, xs, h1, h2, h3⟩ => ⟨a, xs, h1, e.sql h2, RpAll.mono e ds xs h3⟩
  | .dK _ ds, _, ⟨a, xs, h1, h2, h4, h3⟩ => ⟨a, xs, h1, e _ _ h2, h4, RpAll.mono e ds xs h3⟩
  | .dT _ ds, _, ⟨a, xs, h1, h2, h4, h3⟩ => ⟨a, xs, h1, e _ _ h2, h4, RpAll.mono e ds xs h3⟩
theorem RpAll.mono {K : Fg} {H H' : Hp} (e : Le H H') : ∀ (ds : List D) (xs : List V), RpAll K H ds xs → RpAll K H' ds xs
  | [], _, h => h
  | d :: ds, _, ⟨y, ys, h1, h2, h3⟩ => ⟨y, ys, h1, Rp.mono e d y h2, RpAll.mono e ds ys h3⟩
end
section
variable {K : Fg} {H : Hp}
theorem RpAll.length : ∀ {ds : List D} {xs : List V}, RpAll K H ds xs → ds.length = xs.length
  | [], _, h => by cases h; rfl
  | d :: ds, _, ⟨y, ys, h1, _, h3⟩ => by subst h1; simp [RpAll.length h3]
theorem RpAll.get : ∀ {ds : List D} {xs : List V} {i : Nat} {d : D}, RpAll K H ds xs → ds[i]? = some d → ∃ x, xs[i]? = some x ∧ Rp K H d x
  | [], _, _, _, _, h => by simp at h
  | d :: ds, _, 0, _, ⟨y, ys, h1, h2, h3⟩, h => by subst h1; simp at h; subst h; exact ⟨y, rfl, h2⟩
  | d :: ds, _, i + 1, _, ⟨y, ys, h1, h2, h3⟩, h => by subst h1; simpa using RpAll.get (i := i) h3 (by simpa using h)
theorem RpAll.get' : ∀ {ds : List D} {xs : List V} {i : Nat} {x : V}, RpAll K H ds xs → xs[i]? = some x → ∃ d, ds[i]? = some d ∧ Rp K H d x
  | [], _, _, _, e, h => by cases e; simp at h
  | d :: ds, _, 0, _, ⟨y, ys, h1, h2, h3⟩, h => by subst h1; simp at h; subst h; exact ⟨d, rfl, h2⟩
  | d :: ds, _, i + 1, _, ⟨y, ys, h1, h2, h3⟩, h => by subst h1; simpa using RpAll.get' (i := i) h3 (by simpa using h)
theorem RpAll.app : ∀ {ds es : List D} {xs ys : List V}, RpAll K H ds xs → RpAll K H es ys → RpAll K H (ds ++ es) (xs ++ ys)
  | [], _, _, _, h, k => by cases h; exact k
  | d :: ds, _, _, _, ⟨y, ys, h1, h2, h3⟩, k => by subst h1; exact ⟨y, ys ++ _, rfl, h2, RpAll.app h3 k⟩
theorem RpAll.one {d : D} {v : V} (h : Rp K H d v) : RpAll K H [d] [v] := ⟨v, [], rfl, h, rfl⟩
theorem RpAll.nil : RpAll K H [] [] := rfl
theorem RpAll.cons {d : D} {ds : List D} {v : V} {vs : List V} (h : Rp K H d v) (k : RpAll K H ds vs) : RpAll K H (d :: ds) (v :: vs) := ⟨v, vs, rfl, h, k⟩
theorem RpAll.take : ∀ {ds : List D} {xs : List V} (n : Nat), RpAll K H ds xs → RpAll K H (ds.take n) (xs.take n)
  | _, _, 0, _ => rfl
  | [], _, n + 1, h => by cases h; exact (rfl : RpAll K H [] [])
  | d :: ds, _, n + 1, ⟨y, ys, h1, h2, h3⟩ => by subst h1; exact ⟨y, _, rfl, h2, RpAll.take n h3⟩
theorem RpAll.drop : ∀ {ds : List D} {xs : List V} (n : Nat), RpAll K H ds xs → RpAll K H (ds.drop n) (xs.drop n)
  | _, _, 0, h => h
  | [], _, n + 1, h => by cases h; exact (rfl : RpAll K H [] [])
  | d :: ds, _, n + 1, ⟨y, ys, h1, h2, h3⟩ => by subst h1; exact RpAll.drop n h3
theorem RpAll.rev {ds : List D} {xs : List V} (h : RpAll K H ds xs) : RpAll K H ds.reverse xs.reverse := by
  induction ds generalizing xs with
  | nil => cases h; exact (rfl : RpAll K H [] [])
  | cons d ds ih =>
    obtain ⟨y, ys, h1, h2, h3⟩ := h
    subst h1
    rw [List.reverse_cons, List.reverse_cons]
    exact RpAll.app (ih h3) (RpAll.one h2)
theorem RpAll.set : ∀ {ds : List D} {xs : List V} {d : D} {x : V} (i : Nat), RpAll K H ds xs → Rp K H d x → RpAll K H (ds.set i d) (xs.set i x)
  | [], _, _, _, _, h, _ => by cases h; exact (rfl : RpAll K H [] [])
  | d :: ds, _, _, x, 0, ⟨y, ys, h1, h2, h3⟩, k => by subst h1; exact ⟨x, ys, rfl, k, h3⟩
  | d :: ds, _, _, _, i + 1, ⟨y, ys, h1, h2, h3⟩, k => by subst h1; exact ⟨y, _, rfl, h2, RpAll.set i h3 k⟩
theorem RpAll.erase : ∀ {ds : List D} {xs : List V} (i : Nat), RpAll K H ds xs → RpAll K H (ds.eraseIdx i) (xs.eraseIdx i)
  | [], _, _, h => by cases h; exact (rfl : RpAll K H [] [])
  | d :: ds, _, 0, ⟨y, ys, h1, h2, h3⟩ => by subst h1; exact h3
  | d :: ds, _, i + 1, ⟨y, ys, h1, h2, h3⟩ => by subst h1; exact ⟨y, _, rfl, h2, RpAll.erase i h3⟩
theorem RpAll.rep {ds : List D} {xs : List V} (h : RpAll K H ds xs) : ∀ n, RpAll K H (List.replicate n ds).flatten (List.replicate n xs).flatten
  | 0 => rfl
  | n + 1 => by
    rw [List.replicate_succ, List.replicate_succ, List.flatten_cons, List.flatten_cons]
    exact RpAll.app h (RpAll.rep h n)
end
/-- the data at an owned address -/
def OBat (K : Fg) (Hb H : Hp) (a : Addr) : OB → Prop
  | .lst ds => ∃ xs, H a = some (.lst xs) ∧ RpAll K Hb ds xs
  | .dK ks ds => ∃ xs, H a = some (.dK (ks.zip xs)) ∧ ks.length = xs.length ∧ RpAll K Hb ds xs
  | .dT ks ds => ∃ xs, H a = some (.dT (ks.zip xs)) ∧ ks.length = xs.length ∧ RpAll K Hb ds xs
theorem OBat.there {K : Fg} {Hb H : Hp} {a : Addr} : ∀ {o : OB}, OBat K Hb H a o → ∃ u, H a = some u
  | .lst _, ⟨_, h, _⟩ => ⟨_, h⟩
  | .dK _ _, ⟨_, h, _⟩ => ⟨_, h⟩
  | .dT _ _, ⟨_, h, _⟩ => ⟨_, h⟩
theorem OBat.mono {K : Fg} {Hb Hb' H H' : Hp} {a : Addr} (e : Le Hb Hb') (h : H' a = H a) : ∀ {o : OB}, OBat K Hb H a o → OBat K Hb' H' a o
  | .lst _, ⟨xs, h1, h2⟩ => ⟨xs, h.trans h1, h2.mono e⟩
  | .dK _ _, ⟨xs, h1, h3, h2⟩ => ⟨xs, h.trans h1, h3, h2.mono e⟩
  | .dT _ _, ⟨xs, h1, h3, h2⟩ => ⟨xs, h.trans h1, h3, h2.mono e⟩
/-- an owned thing is frozen -/
theorem OBat.froze {K : Fg} {Hb Hb' H : Hp} {a : Addr} {o : OB} (e : Le Hb Hb') (h : OBat K Hb H a o) (k : Hb' a = H a) : Rp K Hb' o.toD (.ref a) := by
  cases o with
  | lst ds => obtain ⟨xs, h1, h2⟩ := h; exact ⟨a, xs, rfl, k.trans h1, h2.mono e⟩
  | dK ks ds => obtain ⟨xs, h1, h3, h2⟩ := h; exact ⟨a, xs, rfl, k.trans h1, h3, h2.mono e⟩
  | dT ks ds => obtain ⟨xs, h1, h3, h2⟩ := h; exact ⟨a, xs, rfl, k.trans h1, h3, h2.mono e⟩
/-- data seen through the true heap: its parts stand in the frozen one -/
def Vw (K : Fg) (Hb H : Hp) : D → V → Prop
  | .lst ds, v => ∃ a xs, v = .ref a ∧ H a = some (.lst xs) ∧ RpAll K Hb ds xs
  | .dK ks ds, v => ∃ a xs, v = .ref a ∧ H a = some (.dK (ks.zip xs)) ∧ ks.length = xs.length ∧ RpAll K Hb ds xs
  | .dT ks ds, v => ∃ a xs, v = .ref a ∧ H a = some (.dT (ks.zip xs)) ∧ ks.length = xs.length ∧ RpAll K Hb ds xs
  | d, v => Rp K Hb d v
theorem Vw.of {K : Fg} {Hb H : Hp} (e : Le Hb H) {d : D} {v : V} (h : Rp K Hb d v) : Vw K Hb H d v := by
  cases d with
  | lst ds => obtain ⟨a, xs, h1, h2, h3⟩ := h; exact ⟨a, xs, h1, e _ _ h2, h3⟩
  | dK ks ds => obtain ⟨a, xs, h1, h2, h4, h3⟩ := h; exact ⟨a, xs, h1, e _ _ h2, h4, h3⟩
  | dT ks ds => obtain ⟨a, xs, h1, h2, h4, h3⟩ := h; exact ⟨a, xs, h1, e _ _ h2, h4, h3⟩
  | _ => exact h
theorem Vw.ob {K : Fg} {Hb H : Hp} {a : Addr} {o : OB} (h : OBat K Hb H a o) : Vw K Hb H o.toD (.ref a) := by
  cases o with
  | lst ds => obtain ⟨xs, h1, h2⟩ := h; exact ⟨a, xs, rfl, h1, h2⟩
  | dK ks ds => obtain ⟨xs, h1, h3, h2⟩ := h; exact ⟨a, xs, rfl, h1, h3, h2⟩
  | dT ks ds => obtain ⟨xs, h1, h3, h2⟩ := h; exact ⟨a, xs, rfl, h1, h3, h2⟩
theorem Vw.rp {K : Fg} {Hb H : Hp} (e : Le Hb H) {d : D} {v : V} (h : Vw K Hb H d v) : Rp K H d v := by
  cases d with
  | lst ds => obtain ⟨a, xs, h1, h2, h3⟩ := h; exact ⟨a, xs, h1, h2, h3.mono e⟩
  | dK ks ds => obtain ⟨a, xs, h1, h2, h4, h3⟩ := h; exact ⟨a, xs, h1, h2, h4, h3.mono e⟩
  | dT ks ds => obtain ⟨a, xs, h1, h2, h4, h3⟩ := h; exact ⟨a, xs, h1, h2, h4, h3.mono e⟩
  | non => exact Rp.mono e _ _ h
  | bl b => exact Rp.mono e _ _ h
  | int b => exact Rp.mono e _ _ h
  | str b => exact Rp.mono e _ _ h
  | tup b => exact Rp.mono e _ _ h
  | frz b => exact Rp.mono e _ _ h

/-- where a body (or a block) began: the frozen heap, the heap, what was handed in to be changed (addresses, slots) -/
structure Bs where
  Hb : Hp
  H : Hp
  io : Addr → Prop
  ios : Nat → Bool
/-- the state -/
structure Stt (K : Fg) (B : Bs) (env : Evn) (σ : L2.St) (Hb H : Hp) : Prop where
  len : σ.length = env.length
  sub : Le Hb H
  im : ∀ (i : Nat) (d : D), env[i]? = some (.im d) → ∃ v, σ[i]? = some (some v) ∧ Rp K Hb d v
  ow : ∀ (i : Nat) (o : OB), env[i]? = some (.ow o) → ∃ a, σ[i]? = some (some (.ref a)) ∧ Hb a = none ∧ OBat K Hb H a o ∧ (if B.ios i = true then B.io a else B.H a = none ∧ ¬ B.io a)
  inj : ∀ (i j : Nat) (o o' : OB) (a : Addr), env[i]? = some (.ow o) → env[j]? = some (.ow o') → σ[i]? = some (some (.ref a)) → σ[j]? = some (some (.ref a)) → i = j
  exb : Le B.Hb Hb
  keep : ∀ b o, B.H b = some o → ¬ B.io b → H b = some o
  frs : ∀ b o, Hb b = some o → B.Hb b = none → B.H b = none ∨ B.io b
  iot : ∀ b, B.io b → ∃ o, H b = some o
section
variable {K : Fg} {B : Bs} {env : Evn} {σ : L2.St} {Hb H : Hp}
theorem Stt.fresh (S : Stt K B env σ Hb H) {p : Addr} (hp : H p = none) : B.H p = none ∧ ¬ B.io p := by
  have h1 : ¬ B.io p := fun z => by obtain ⟨o, e⟩ := S.iot p z; rw [hp] at e; cases e
  refine ⟨?_, h1⟩
  cases e : B.H p with
  | none => rfl
  | some o => have := S.keep p o e h1; rw [hp] at this; cases this
theorem Stt.hbn (S : Stt K B env σ Hb H) {p : Addr} (hp : H p = none) : Hb p = none := S.sub.none hp
/-- a new thing, not yet frozen -/
theorem Stt.newH (S : Stt K B env σ Hb H) {p : Addr} {u : HO} (hp : H p = none) : Stt K B env σ Hb (upd H p u) where
  len := S.len
  sub := fun b o e => by rw [upd_ne (ne_of_none e (S.hbn hp))]; exact S.sub b o e
  im := S.im
  ow := fun i o e => by
    obtain ⟨a, h1, h2, h3, h4⟩ := S.ow i o e
    obtain ⟨u', hu⟩ := h3.there
    exact ⟨a, h1, h2, h3.mono (Le.refl _) (upd_ne (ne_of_none hu hp)), h4⟩
  inj := S.inj
  exb := S.exb
  keep := fun b o e n => by
    have := S.keep b o e n
    rw [upd_ne (ne_of_none this hp)]; exact this
  frs := S.frs
  iot := fun b z => by
    obtain ⟨o, e⟩ := S.iot b z
    exact ⟨o, by rw [upd_ne (ne_of_none e hp)]; exact e⟩
/-- a thing that no slot owns is frozen -/
theorem Stt.frz (S : Stt K B env σ Hb H) {p : Addr} {u : HO} (hp : H p = some u) (hn : Hb p = none) (hB : B.H p = none ∨ B.io p) (hf : ∀ (i : Nat) (o : OB), env[i]? = some (.ow o) → σ[i]? ≠ some (some (.ref p))) : Stt K B env σ (upd Hb p u) H where
  len := S.len
  sub := fun b o e => by
    by_cases h : b = p
    · subst h; rw [upd_same] at e; cases e; exact hp
    · rw [upd_ne h] at e; exact S.sub b o e
  im := fun i d e => by
    obtain ⟨v, h1, h2⟩ := S.im i d e
    exact ⟨v, h1, Rp.mono (Le.new hn) _ _ h2⟩
  ow := fun i o e => by
    obtain ⟨a, h1, h2, h3, h4⟩ := S.ow i o e
    have ne : a ≠ p := fun z => hf i o e (by rw [h1, z])
    exact ⟨a, h1, by rw [upd_ne ne]; exact h2, h3.mono (Le.new hn) rfl, h4⟩
  inj := S.inj
  exb := S.exb.trans (Le.new hn)
  keep := S.keep
  frs := fun b o e n => by
    by_cases h : b = p
    · subst h; exact hB
    · rw [upd_ne h] at e; exact S.frs b o e n
  iot := S.iot
theorem Stt.nofr (S : Stt K B env σ Hb H) {p : Addr} (hp : H p = none) : ∀ (i : Nat) (o : OB), env[i]? = some (.ow o) → σ[i]? ≠ some (some (.ref p)) := fun i o e z => by
  obtain ⟨a, h1, h2, h3, h4⟩ := S.ow i o e
  rw [z] at h1; cases h1
  obtain ⟨u, hu⟩ := h3.there
  rw [hp] at hu; cases hu
/-- a new thing, frozen -/
theorem Stt.new (S : Stt K B env σ Hb H) {p : Addr} {u : HO} (hp : H p = none) : Stt K B env σ (upd Hb p u) (upd H p u) := by
  have S' := S.newH (u := u) hp
  exact S'.frz upd_same (S.hbn hp) (.inl (S.fresh hp).1) (S.nofr hp)
/-- a slot is forgotten -/
theorem Stt.forget (S : Stt K B env σ Hb H) (i : Nat) : Stt K B (env.set i .un) σ Hb H where
  len := by rw [List.length_set]; exact S.len
  sub := S.sub
  im := fun j d e => by
    by_cases h : i = j
    · subst h
      by_cases hl : i < env.length
      · rw [List.getElem?_set_self hl] at e; cases e
      · rw [List.getElem?_eq_none (by simpa using hl)] at e; cases e
    · rw [List.getElem?_set_ne h] at e; exact S.im j d e
  ow := fun j d e => by
    by_cases h : i = j
    · subst h
      by_cases hl : i < env.length
      · rw [List.getElem?_set_self hl] at e; cases e
      · rw [List.getElem?_eq_none (by simpa using hl)] at e; cases e
    · rw [List.getElem?_set_ne h] at e; exact S.ow j d e
  inj := fun j k o o' a e e' => by
    by_cases h : i = j
    · subst h
      by_cases hl : i < env.length
      · rw [List.getElem?_set_self hl] at e; cases e
      · rw [List.getElem?_eq_none (by simpa using hl)] at e; cases e
    · by_cases h' : i = k
      · subst h'
        by_cases hl : i < env.length
        · rw [List.getElem?_set_self hl] at e'; cases e'
        · rw [List.getElem?_eq_none (by simpa using hl)] at e'; cases e'
      · rw [List.getElem?_set_ne h] at e; rw [List.getElem?_set_ne h'] at e'
        exact S.inj j k o o' a e e'
  exb := S.exb
  keep := S.keep
  frs := S.frs
  iot := S.iot
end
/-- a value bears a result -/
def RVOk (K : Fg) (B : Bs) (env : Evn) (σ : L2.St) (Hb H : Hp) (v : V) : RV → Prop
  | .val d => Rp K Hb d v
  | .bo i => σ[i]? = some (some v)
  | .fr o => ∃ p, v = .ref p ∧ Hb p = none ∧ OBat K Hb H p o ∧ B.H p = none ∧ ¬ B.io p ∧ ∀ (i : Nat) (o' : OB), env[i]? = some (.ow o') → σ[i]? ≠ some (some (.ref p))
/-- a thing just made is taken as data -/
def RV.set : RV → RV
  | .fr o => .val o.toD
  | r => r
/-- the data of a result, in a state -/
def RV.opd (env : Evn) : RV → Option D
  | .val d => some d
  | .fr _ => none
  | .bo i => match env[i]? with
    | some (.ow o) => some o.toD
    | some (.im d) => some d
    | _ => none
section
variable {K : Fg} {B : Bs} {env : Evn} {σ : L2.St} {Hb H : Hp}
/-- settled: from a state with a thing just made to one where it is frozen -/
theorem Stt.settle (S : Stt K B env σ Hb H) {v : V} {r : RV} (h : RVOk K B env σ Hb H v r) : ∃ Hb', Le Hb Hb' ∧ Stt K B env σ Hb' H ∧ RVOk K B env σ Hb' H v r.set := by
  cases r with
  | val d => exact ⟨Hb, Le.refl _, S, h⟩
  | bo i => exact ⟨Hb, Le.refl _, S, h⟩
  | fr o =>
    obtain ⟨p, rfl, h1, h2, h3, h4, h5⟩ := h
    obtain ⟨u, hu⟩ := h2.there
    exact ⟨upd Hb p u, Le.new h1, S.frz hu h1 (.inl h3) h5, h2.froze (Le.new h1) (by rw [upd_same, hu])⟩
theorem Stt.view (S : Stt K B env σ Hb H) {v : V} {r : RV} {d : D} (h : RVOk K B env σ Hb H v r) (e : r.opd env = some d) : Vw K Hb H d v := by
  cases r with
  | val d' => cases e; exact Vw.of S.sub h
  | fr o => cases e
  | bo i =>
    have h' : σ[i]? = some (some v) := h
    cases ho : env[i]? with
    | none => simp [RV.opd, ho] at e
    | some t =>
      cases t with
      | un => simp [RV.opd, ho] at e
      | im d' =>
        simp [RV.opd, ho] at e
        subst e
        obtain ⟨v', h1, h2⟩ := S.im i _ ho
        rw [h'] at h1; cases h1
        exact Vw.of S.sub h2
      | ow o =>
        simp [RV.opd, ho] at e
        subst e
        obtain ⟨a, h1, h2, h3, h4⟩ := S.ow i o ho
        rw [h'] at h1; cases h1
        exact Vw.ob h3
/-- settled results stay -/
theorem RVOk.stay {env' : Evn} {Hb' H' : Hp} {v : V} {r : RV} (h : RVOk K B env σ Hb H v r.set) (e : Le Hb Hb') : RVOk K B env' σ Hb' H' v r.set := by
  cases r with
  | val d => exact Rp.mono e _ _ h
  | bo i => exact h
  | fr o => exact Rp.mono e _ _ h
end
end HB

set_option Elab.async false
set_option linter.all false
set_option maxRecDepth 100000
set_option maxHeartbeats 2000000
/-! HBIr: a small language of slots, and what its terms are worth over plain data. -/
namespace HB
open PySem PySem.Spec PyProof.Rows L2

def LIM : Nat := 100000
inductive Bop where | add | sub | mul | div | mod | pow
inductive Cop where | eq | ne | lt | le | gt | ge | is | isn | mem | nmem
inductive Blt where | len | int | str | abs | max2 | min2 | maxL | minL | sum | all | any | sorted | list | listRng | tuple | repr | lenset
inductive Mth where | append | pop | popAt | extend | index | count | get1 | get2 | remove
inductive Tyc where | int | bool | str | list | tuple | dict | cls (c : Nat)

mutual
inductive IE where
  | var (i : Nat)
  | cst (d : D)
  | bin (o : Bop) (a b : IE)
  | neg (a : IE)
  | not (a : IE)
  | cmp (o : Cop) (a b : IE)
  | chn (o p : Cop) (a b c : IE)
  | and (a b : IE)
  | or (a b : IE)
  | ite (c a b : IE)
  | lst (es : IA)
  | tup (es : IA)
  | dct0
  | idx (a b : IE)
  | slc (a : IE) (lo hi : IO)
  | rev (a : IE)
  | call (f : Nat) (io : Bool) (es : IA)
  | callK (f : Nat) (perm : List Nat) (es : IA)
  | blt (b : Blt) (es : IA)
  | meth (m : Mth) (o : IE) (es : IA)
  | isi (e : IE) (ts : List Tyc)
  | comp (own : List Nat) (t : List Nat) (it : II) (c : IO) (e : IE)
inductive IA where
  | nil
  | cons (e : IE) (r : IA)
  | star (e : IE) (r : IA)
inductive IO where
  | no
  | yes (e : IE)
inductive II where
  | rng1 (a : IE)
  | rng2 (a b : IE)
  | seq (a : IE)
  | enum (a : IE)
end
/-- statements -/
inductive IS where
  | expr (e : IE)
  | asg (i : Nat) (own : Bool) (e : IE)
  | asgN (is : List Nat) (os : List Bool) (es : IA)
  | unp (is : List Nat) (e : IE)
  | setI (o i e : IE)
  | for_ (t : List Nat) (it : II) (body : List IS)
  | while_ (c : IE) (body : List IS)
  | if_ (c : IE) (a b : List IS)
  | ret (e : IE)
  | retN
  | brk
  | ct
  | pass
  | raise (c : Nat)
  | stuck

/-! ### data -/
mutual
def toPy : D → PyData
  | .non => .none
  | .bl b => .bool b
  | .int i => .int i
  | .str x => .str x
  | .lst ds => .list (toPys ds)
  | .tup ds => .tuple (toPys ds)
  | .frz ds => .list (toPys ds)
  | .dK _ _ => .dict []
  | .dT _ _ => .dict []
def toPys : List D → List PyData
  | [] => []
  | d :: ds => toPy d :: toPys ds
end
def okPy (d : D) : Bool := SeqAt.shaped (toPy d)
def eqP (d e : D) : Option Bool := if okPy d && okPy e then some (PyData.eqv (toPy d) (toPy e)) else none
def eqD (d e : D) : Option Bool := match d, e with
  | .str x, .str y => some (x == y)
  | .int i, .int j => some (i == j)
  | .lst a, .lst b => if a.length ≠ b.length then some false else eqP (.lst a) (.lst b)
  | .tup a, .tup b => if a.isEmpty || b.isEmpty then some (a.isEmpty && b.isEmpty) else eqP (.tup a) (.tup b)
  | d, e => eqP d e
mutual
def reprOk : D → Bool
  | .non => true
  | .bl _ => true
  | .int _ => true
  | .str _ => true
  | .lst ds => reprOks ds
  | .tup ds => reprOks ds
  | .frz _ => false
  | .dK ks ds => ks.isEmpty && ds.isEmpty
  | .dT _ _ => false
def reprOks : List D → Bool
  | [] => true
  | d :: ds => reprOk d && reprOks ds
end
def reprD (d : D) : Option Str := if reprOk d && (toPy d).showable && decide ((toPy d).depth ≤ 64) && decide ((toPy d).shown.length ≤ LIM) then some (toPy d).shown else none
def mulOk (i j : Int) : Bool := decide (-(2 ^ 64) < i ∧ i < 2 ^ 64) || decide (-(2 ^ 64) < j ∧ j < 2 ^ 64) || decide (i.natAbs.log2 + j.natAbs.log2 < 1000000)
def binD : Bop → D → D → Option RV
  | .add, .int i, .int j => some (.val (.int (i + j)))
  | .add, .lst a, .lst b => if a.length + b.length ≤ LIM then some (.fr (.lst (a ++ b))) else none
  | .add, .tup a, .tup b => if a.length + b.length ≤ LIM then some (.val (.tup (a ++ b))) else none
  | .add, .str a, .str b => if a.length + b.length ≤ LIM then some (.val (.str (a ++ b))) else none
  | .sub, .int i, .int j => some (.val (.int (i - j)))
  | .mul, .int i, .int j => if mulOk i j = true then some (.val (.int (i * j))) else none
  | .mul, .lst a, .int k => if k ≤ 100000 ∧ -100000 ≤ k ∧ a.length * k.toNat ≤ LIM then some (.fr (.lst (List.replicate k.toNat a).flatten)) else none
  | .div, .int i, .int j => if 0 < j ∧ j.natAbs.log2 < 9000 then some (.val (.int (i / j))) else none
  | .mod, .int i, .int j => if 0 < j then some (.val (.int (i % j))) else none
  | .pow, .int i, .int j => if 0 ≤ j ∧ (Builtin.Int.intBits i : Int) * j ≤ 2 ^ 27 then some (.val (.int (i ^ j.toNat))) else none
  | _, _, _ => none
def isNon : D → Bool
  | .non => true
  | _ => false
/-- scalars that may be sought in a row -/
def flatD : D → Option V
  | .non => some .non
  | .bl b => some (.bl b)
  | .int i => some (.int i)
  | .str x => some (.str x)
  | _ => none
def flatDs : List D → Option (List V)
  | [] => some []
  | d :: ds => match flatD d, flatDs ds with
    | some v, some vs => some (v :: vs)
    | _, _ => none
def memD (d : D) (ds : List D) : Option Bool := match flatD d, flatDs ds with
  | some v, some vs => some (inV v vs)
  | _, _ => none
def keyD : D → Option Key
  | .int i => some (.inl i)
  | .str x => some (.inr x)
  | _ => none
def atK (ks : List Key) (ds : List D) (k : Key) : Option D := ((ks.zip ds).find? fun p => decide (p.1 = k)).map (·.2)
def cmpD : Cop → D → D → Option Bool
  | .eq, d, e => eqD d e
  | .ne, d, e => (eqD d e).map (!·)
  | .lt, .int i, .int j => some (decide (i < j))
  | .le, .int i, .int j => some (decide (i ≤ j))
  | .gt, .int i, .int j => some (decide (j < i))
  | .ge, .int i, .int j => some (decide (j ≤ i))
  | .is, d, .non => some (isNon d)
  | .isn, d, .non => some (!isNon d)
  | .is, .bl a, .bl b => some (decide (a = b))
  | .isn, .bl a, .bl b => some (!decide (a = b))
  | .mem, d, .lst ds => memD d ds
  | .mem, d, .tup ds => memD d ds
  | .nmem, d, .lst ds => (memD d ds).map (!·)
  | .nmem, d, .tup ds => (memD d ds).map (!·)
  | _, _, _ => none
def atD : D → D → Option D
  | .lst ds, .int i => atI ds i
  | .tup ds, .int i => atI ds i
  | .frz ds, .int i => atI ds i
  | _, _ => none
/-- where a slice's ends lie -/
def cutD (ds : List D) (lo hi : Option Int) : List D := (ds.drop (HT.sIx ds.length 0 lo)).take (HT.sIx ds.length ds.length hi - HT.sIx ds.length 0 lo)
def slcD : D → Option Int → Option Int → Option RV
  | .lst ds, lo, hi => some (.fr (.lst (cutD ds lo hi)))
  | .tup ds, lo, hi => some (.val (.tup (cutD ds lo hi)))
  | _, _, _ => none
def intD : D → Option Int
  | .int i => some i
  | _ => none
def intsD : List D → Option (List Int)
  | [] => some []
  | d :: ds => match intD d, intsD ds with
    | some i, some is => some (i :: is)
    | _, _ => none
def blsD : List D → Option (List Bool)
  | [] => some []
  | .bl b :: ds => (blsD ds).map (b :: ·)
  | _ :: _ => none
def insI (i : Int) : List Int → List Int
  | [] => [i]
  | j :: r => if i ≤ j then i :: j :: r else j :: insI i r
def sortI : List Int → List Int
  | [] => []
  | i :: r => insI i (sortI r)
def ddp (l : List Int) : List Int := match l with
  | [] => []
  | i :: r => if i ∈ r then ddp r else i :: ddp r
def bltD : Blt → List D → Option RV
  | .len, [.lst ds] => some (.val (.int ds.length))
  | .len, [.tup ds] => some (.val (.int ds.length))
  | .len, [.frz ds] => some (.val (.int ds.length))
  | .int, [.int i] => some (.val (.int i))
  | .int, [.bl b] => some (.val (.int (if b then 1 else 0)))
  | .abs, [.int i] => some (.val (.int (if i < 0 then -i else i)))
  | .max2, [.int i, .int j] => some (.val (.int (if j > i then j else i)))
  | .min2, [.int i, .int j] => some (.val (.int (if j < i then j else i)))
  | .sum, [.lst ds] => (intsD ds).map fun is => .val (.int is.sum)
  | .all, [.lst ds] => (blsD ds).map fun bs => .val (.bl (bs.all id))
  | .any, [.lst ds] => (blsD ds).map fun bs => .val (.bl (bs.any id))
  | .sorted, [.lst ds] => (intsD ds).map fun is => .fr (.lst ((sortI is).map D.int))
  | .list, [.lst ds] => some (.fr (.lst ds))
  | .list, [.tup ds] => some (.fr (.lst ds))
  | .tuple, [.lst ds] => some (.val (.tup ds))
  | .tuple, [.tup ds] => some (.val (.tup ds))
  | .listRng, [.int i] => if 0 ≤ i ∧ i ≤ 100000 then some (.fr (.lst ((List.range i.toNat).map fun (k : Nat) => D.int (k : Int)))) else none
  | .repr, [d] => (reprD d).map fun x => .val (.str x)
  | _, _ => none
def tyD : D → Tyc → Option Bool
  | _, .cls _ => none
  | .frz _, _ => none
  | d, t => some (match d, t with
    | .bl _, .bool => true
    | .bl _, .int => true
    | .int _, .int => true
    | .str _, .str => true
    | .lst _, .list => true
    | .tup _, .tuple => true
    | .dK _ _, .dict => true
    | .dT _ _, .dict => true
    | _, _ => false)
def tysD (d : D) : List Tyc → Option Bool
  | [] => some false
  | t :: ts => match tyD d t, tysD d ts with
    | some a, some b => some (a || b)
    | _, _ => none
/-- methods that read -/
def mthD : Mth → D → List D → Option RV
  | _, _, _ => none
/-- methods that change an owned thing: its value, the thing behind it -/
def mutD : Mth → OB → List D → Option (D × OB)
  | .append, .lst ds, [d] => if ds.length < LIM then some (.non, .lst (ds ++ [d])) else none
  | .pop, .lst ds, [] => (ds[ds.length - 1]?).map fun d => (d, .lst ds.dropLast)
  | .popAt, .lst ds, [.int i] => if 0 ≤ i ∧ i ≤ 100000 then (ds[i.toNat]?).map fun d => (d, .lst (ds.eraseIdx i.toNat)) else none
  | .extend, .lst ds, [.lst es] => if ds.length + es.length ≤ LIM then some (.non, .lst (ds ++ es)) else none
  | _, _, _ => none

/-! ### what an evaluation comes to -/
inductive Out (α : Type) where
  | ok (a : α) (env : Evn)
  | ex (c : Nat) (env : Evn)
abbrev Mo (α : Type) := Evn → Option (Out α)
def Mo.ret {α : Type} (a : α) : Mo α := fun env => some (.ok a env)
def Mo.bnd {α β : Type} (x : Mo α) (f : α → Mo β) : Mo β := fun env => match x env with
  | some (.ok a env') => f a env'
  | some (.ex c env') => some (.ex c env')
  | none => none
def Mo.lift {α : Type} (o : Option α) : Mo α := fun env => match o with
  | some a => some (.ok a env)
  | none => none
def Mo.opd (r : RV) : Mo D := fun env => match r.opd env with
  | some d => some (.ok d env)
  | none => none
def opds (env : Evn) : List RV → Option (List D)
  | [] => some []
  | r :: rs => match r.opd env, opds env rs with
    | some d, some ds => some (d :: ds)
    | _, _ => none
/-- a settled value is taken as data: an owned thing is frozen -/
def Mo.imm : RV → Mo D
  | .val d => Mo.ret d
  | .fr _ => fun _ => none
  | .bo i => fun env => match env[i]? with
    | some (.ow o) => some (.ok o.toD (env.set i (.im o.toD)))
    | some (.im d) => some (.ok d env)
    | _ => none
def Mo.imms : List RV → Mo (List D)
  | [] => Mo.ret []
  | r :: rs => (Mo.imm r).bnd fun d => (Mo.imms rs).bnd fun ds => Mo.ret (d :: ds)
def Mo.set (x : Mo RV) : Mo RV := x.bnd fun r => Mo.ret r.set
def Mo.tst (x : Mo RV) : Mo Bool := x.bnd fun r => match r with
  | .val (.bl b) => Mo.ret b
  | _ => fun _ => none
inductive FOut where
  | ok (r : RV) (io : Option OB)
  | ex (c : Nat)
abbrev Fn := Nat → Option OB → List D → Option FOut
/-- the slots of a target hold data -/
def bindT (ts : List Nat) (d : D) (env : Evn) : Option Evn := match ts with
  | [i] => if i < env.length then some (env.set i (.im d)) else none
  | _ => match d with
    | .tup ds => if ds.length = ts.length ∧ (ts.all fun i => decide (i < env.length)) = true then some ((ts.zip ds).foldl (fun e p => e.set p.1 (.im p.2)) env) else none
    | _ => none
def unown : List Nat → Evn → Evn
  | [], env => env
  | i :: is, env => (unown is env).set i .un
/-- a block's own slots as they were -/
def back (env : Evn) : List Nat → Evn → Evn
  | [], e => e
  | i :: is, e => match env[i]? with
    | some s => (back env is e).set i s
    | none => back env is e
def callD (Φ : Fn) (f : Nat) (io : Bool) (rs : List RV) : Mo RV :=
  if io = true then
    match rs with
    | .bo i :: rs' => (Mo.imms rs').bnd fun ds env => match env[i]? with
      | some (.ow o) => match Φ f (some o) ds with
        | some (.ok r (some o')) => some (.ok r (env.set i (.ow o')))
        | _ => none
      | _ => none
    | _ => fun _ => none
  else (Mo.imms rs).bnd fun ds env => match Φ f none ds with
    | some (.ok r none) => some (.ok r env)
    | some (.ex c) => some (.ex c env)
    | _ => none
/-- keywords' values in the parameters' order -/
def permL {α : Type} (perm : List Nat) (l : List α) : Option (List α) := perm.mapM fun i => l[i]?
/-- a loop of a comprehension: the items, what is made so far -/
def compGo (step : D → Mo (Option D)) : List D → List D → Mo (List D)
  | [], acc => Mo.ret acc
  | d :: ds, acc => (step d).bnd fun o => match o with
    | some y => if acc.length < LIM then compGo step ds (acc ++ [y]) else fun _ => none
    | none => compGo step ds acc
def seqD : D → Option (List D)
  | .lst ds => some ds
  | .tup ds => some ds
  | .frz ds => some ds
  | _ => none
def lstD : D → Option (List D)
  | .lst ds => some ds
  | .frz ds => some ds
  | _ => none
def isMut : Mth → Bool
  | .append => true
  | .pop => true
  | .popAt => true
  | .extend => true
  | .remove => true
  | _ => false
def methD (m : Mth) (r : RV) (rs : List RV) : Mo RV :=
  if isMut m = true then
    match r with
    | .bo i => (Mo.imms rs).bnd fun ds env => match env[i]? with
      | some (.ow o) => match mutD m o ds with
        | some (d, o') => some (.ok (.val d) (env.set i (.ow o')))
        | none => none
      | _ => none
    | _ => fun _ => none
  else (Mo.imms rs).bnd fun ds => (Mo.opd r).bnd fun d => Mo.lift (mthD m d ds)

mutual
def ev (Φ : Fn) : IE → Mo RV
  | .var i => fun env => match env[i]? with
    | some (.im d) => some (.ok (.val d) env)
    | some (.ow _) => some (.ok (.bo i) env)
    | _ => none
  | .cst d => Mo.ret (.val d)
  | .bin o a b => (ev Φ a).set.bnd fun x => (ev Φ b).set.bnd fun y => (Mo.opd x).bnd fun d => (Mo.opd y).bnd fun e => Mo.lift (binD o d e)
  | .neg a => (ev Φ a).set.bnd fun x => (Mo.opd x).bnd fun d => Mo.lift ((intD d).map fun i => .val (.int (-i)))
  | .not a => (ev Φ a).tst.bnd fun b => Mo.ret (.val (.bl (!b)))
  | .cmp o a b => (ev Φ a).set.bnd fun x => (ev Φ b).set.bnd fun y => (Mo.opd x).bnd fun d => (Mo.opd y).bnd fun e => Mo.lift ((cmpD o d e).map fun b => .val (.bl b))
  | .chn o p a b c => (ev Φ a).set.bnd fun x => (ev Φ b).set.bnd fun y => (Mo.opd x).bnd fun d => (Mo.opd y).bnd fun e => (Mo.lift (cmpD o d e)).bnd fun t =>
      if t = true then (ev Φ c).set.bnd fun z => (Mo.opd y).bnd fun e => (Mo.opd z).bnd fun g => Mo.lift ((cmpD p e g).map fun b => .val (.bl b)) else Mo.ret (.val (.bl false))
  | .and a b => (ev Φ a).tst.bnd fun t => if t = true then ev Φ b else Mo.ret (.val (.bl false))
  | .or a b => (ev Φ a).tst.bnd fun t => if t = true then Mo.ret (.val (.bl true)) else ev Φ b
  | .ite c a b => (ev Φ c).tst.bnd fun t => if t = true then ev Φ a else ev Φ b
  | .lst es => (evA Φ es).bnd fun rs => (Mo.imms rs).bnd fun ds => if ds.length ≤ LIM then Mo.ret (.fr (.lst ds)) else fun _ => none
  | .tup es => (evA Φ es).bnd fun rs => (Mo.imms rs).bnd fun ds => if ds.length ≤ LIM then Mo.ret (.val (.tup ds)) else fun _ => none
  | .dct0 => Mo.ret (.fr (.dK [] []))
  | .idx a b => (ev Φ a).set.bnd fun x => (ev Φ b).set.bnd fun y => (Mo.opd x).bnd fun d => (Mo.opd y).bnd fun e => Mo.lift ((atD d e).map .val)
  | .slc a lo hi => (ev Φ a).set.bnd fun x => (evO Φ lo).bnd fun l => (evO Φ hi).bnd fun h => (Mo.opd x).bnd fun d => Mo.lift (slcD d l h)
  | .rev a => (ev Φ a).set.bnd fun x => (Mo.opd x).bnd fun d => match d with
    | .lst ds => Mo.ret (.fr (.lst ds.reverse))
    | _ => fun _ => none
  | .call f io es => (evA Φ es).bnd fun rs => callD Φ f io rs
  | .callK f perm es => (evA Φ es).bnd fun rs => match permL perm rs with
    | some rs' => callD Φ f false rs'
    | none => fun _ => none
  | .blt b es => (evA Φ es).bnd fun rs env => match opds env rs with
      | some ds => Mo.lift (bltD b ds) env
      | none => none
  | .meth m o es => (ev Φ o).set.bnd fun r => (Mo.opd r).bnd fun d => match d with
    | .lst _ => (evA Φ es).bnd fun rs => methD m r rs
    | _ => fun _ => none
  | .isi e ts => (ev Φ e).set.bnd fun x => (Mo.opd x).bnd fun d => Mo.lift ((tysD d ts).map fun b => .val (.bl b))
  | .comp own t it c e => (evI Φ it).bnd fun ds env =>
      match compGo (fun d env => match bindT t d (unown own env) with
        | some env' => (evC Φ c).bnd (fun b => if b = true then (ev Φ e).set.bnd fun r => (Mo.imm r).bnd fun y => Mo.ret (some y) else Mo.ret none) env'
        | none => none) ds [] env with
      | some (.ok ys env') => some (.ok (.fr (.lst ys)) (back env own (unown own env')))
      | some (.ex _ _) => none
      | none => none
def evA (Φ : Fn) : IA → Mo (List RV)
  | .nil => Mo.ret []
  | .cons e r => (ev Φ e).set.bnd fun x => (evA Φ r).bnd fun xs => Mo.ret (x :: xs)
  | .star e r => (ev Φ e).set.bnd fun x => (Mo.opd x).bnd fun d => match seqD d with
    | some ds => (evA Φ r).bnd fun xs => Mo.ret (ds.map RV.val ++ xs)
    | none => fun _ => none
def evO (Φ : Fn) : IO → Mo (Option Int)
  | .no => Mo.ret none
  | .yes e => (ev Φ e).bnd fun r => match r with
    | .val (.int i) => Mo.ret (some i)
    | _ => fun _ => none
def evC (Φ : Fn) : IO → Mo Bool
  | .no => Mo.ret true
  | .yes e => (ev Φ e).tst
def evI (Φ : Fn) : II → Mo (List D)
  | .rng1 a => (ev Φ a).bnd fun r => match r with
    | .val (.int i) => if -100000 ≤ i ∧ i ≤ 100000 then Mo.ret ((List.range i.toNat).map fun (k : Nat) => D.int (0 + (k : Int))) else fun _ => none
    | _ => fun _ => none
  | .rng2 a b => (ev Φ a).set.bnd fun r => (ev Φ b).set.bnd fun r' => match r, r' with
    | .val (.int i), .val (.int j) => if -100000 ≤ i ∧ i ≤ 100000 ∧ -100000 ≤ j ∧ j ≤ 100000 then Mo.ret ((List.range (j - i).toNat).map fun (k : Nat) => D.int (i + (k : Int))) else fun _ => none
    | _, _ => fun _ => none
  | .seq a => (ev Φ a).set.bnd fun r => (Mo.imm r).bnd fun d => Mo.lift (seqD d)
  | .enum a => (ev Φ a).set.bnd fun r => (Mo.imm r).bnd fun d => (Mo.lift (lstD d)).bnd fun ds => Mo.ret ((List.range ds.length).zip ds |>.map fun p => D.tup [.int (p.1 : Int), p.2])
end

/-! ### statements -/
inductive Fl where
  | nx (env : Evn)
  | rt (r : RV) (env : Evn)
  | bk (env : Evn)
  | ct (env : Evn)
  | ex (c : Nat) (env : Evn)
abbrev Ms := Evn → Option Fl
def Mo.fl {α : Type} (x : Mo α) (f : α → Ms) : Ms := fun env => match x env with
  | some (.ok a env') => f a env'
  | some (.ex c env') => some (.ex c env')
  | none => none
def Ms.seq (x y : Ms) : Ms := fun env => match x env with
  | some (.nx env') => y env'
  | r => r
/-- a value is got ready for its slot: own: a thing just made; else data -/
def prepR (own : Bool) (r : RV) : Mo RV := if own = true then match r with
    | .fr o => Mo.ret (.fr o)
    | _ => fun _ => none
  else (Mo.imm r.set).bnd fun d => Mo.ret (.val d)
def preps : List Bool → List RV → Mo (List RV)
  | [], [] => Mo.ret []
  | o :: os, r :: rs => (prepR o r).bnd fun r' => (preps os rs).bnd fun rs' => Mo.ret (r' :: rs')
  | _, _ => fun _ => none
/-- a slot is given a value -/
def storeR (io0 : Bool) (i : Nat) (r : RV) (env : Evn) : Option Evn :=
  if (i == 0 && io0) = true ∨ ¬ i < env.length then none else match r with
    | .fr o => some (env.set i (.ow o))
    | .val d => some (env.set i (.im d))
    | .bo _ => none
def storesR (io0 : Bool) : List Nat → List RV → Evn → Option Evn
  | [], [], env => some env
  | i :: is, r :: rs, env => match storeR io0 i r env with
    | some env' => storesR io0 is rs env'
    | none => none
  | _, _, _ => none
def nxOf : Option Evn → Option Fl
  | some e => some (.nx e)
  | none => none
def forGo (t : List Nat) (body : Ms) : List D → Ms
  | [], env => some (.nx env)
  | d :: ds, env => match bindT t d env with
    | none => none
    | some env1 => match body env1 with
      | some (.nx env') => forGo t body ds env'
      | some (.ct env') => forGo t body ds env'
      | some (.bk env') => some (.nx env')
      | r => r
def whileGo (c : Mo Bool) (body : Ms) : Nat → Ms
  | 0, _ => none
  | n + 1, env => match c env with
    | some (.ok true env1) => match body env1 with
      | some (.nx env') => whileGo c body n env'
      | some (.ct env') => whileGo c body n env'
      | some (.bk env') => some (.nx env')
      | r => r
    | some (.ok false env1) => some (.nx env1)
    | some (.ex e env1) => some (.ex e env1)
    | none => none
/-- no exception -/
def Mo.nox {α : Type} (x : Mo α) : Mo α := fun env => match x env with
  | some (.ok a env') => some (.ok a env')
  | _ => none
/-- a display's values, things just made among them -/
def evF (Φ : Fn) : IA → Mo (List RV)
  | .nil => Mo.ret []
  | .cons e r => (ev Φ e).bnd fun x => (evF Φ r).nox.bnd fun xs => Mo.ret (x :: xs)
  | .star _ _ => fun _ => none
mutual
def exS (Φ : Fn) (w : Nat) (io0 : Bool) : IS → Ms
  | .expr e => (ev Φ e).fl fun _ env => some (.nx env)
  | .asg i own e => ((ev Φ e).bnd fun r => prepR own r).fl fun r env => nxOf (storeR io0 i r env)
  | .asgN is os es => ((evF Φ es).bnd fun rs => preps os rs).fl fun rs env => nxOf (storesR io0 is rs env)
  | .unp is e => ((ev Φ e).set.bnd fun r => Mo.imm r).fl fun d env => nxOf (bindT is d env)
  | .setI o i e => (ev Φ e).set.fl fun r => (ev Φ o).set.fl fun x => (ev Φ i).set.fl fun y => (Mo.imm r).fl fun d env => match x, y with
    | .bo j, .val (.int k) => match env[j]? with
      | some (.ow (.lst ds)) => match ixN ds.length k with
        | some n => some (.nx (env.set j (.ow (.lst (ds.set n d)))))
        | none => none
      | _ => none
    | _, _ => none
  | .for_ t it body => (evI Φ it).fl fun ds => forGo t (exB Φ w io0 body) ds
  | .while_ c body => whileGo (ev Φ c).tst (exB Φ w io0 body) w
  | .if_ c a b => (ev Φ c).tst.fl fun t => if t = true then exB Φ w io0 a else exB Φ w io0 b
  | .ret e => (ev Φ e).fl fun r env => match r with
    | .bo i => match env[i]? with
      | some (.ow o) => if (i == 0 && io0) = true then none else some (.rt (.fr o) (env.set i .un))
      | some (.im d) => some (.rt (.val d) env)
      | _ => none
    | r => some (.rt r env)
  | .retN => fun env => some (.rt (.val .non) env)
  | .brk => fun env => some (.bk env)
  | .ct => fun env => some (.ct env)
  | .pass => fun env => some (.nx env)
  | .raise c => fun env => some (.ex c env)
  | .stuck => fun _ => none
def exB (Φ : Fn) (w : Nat) (io0 : Bool) : List IS → Ms
  | [] => fun env => some (.nx env)
  | s :: r => (exS Φ w io0 s).seq (exB Φ w io0 r)
end
/-- a def: parameters, slots, whether the first parameter is changed, the body -/
structure Df where
  ps : Nat
  ns : Nat
  io : Bool
  body : List IS
def startE (d : Df) (io : Option OB) (ds : List D) : Option Evn :=
  let a : List Sl := (match io with | some o => [.ow o] | none => []) ++ ds.map .im
  if io.isSome = d.io ∧ a.length = d.ps ∧ d.ps ≤ d.ns then some (a ++ List.replicate (d.ns - d.ps) .un) else none
def ioE (d : Df) (env : Evn) : Option (Option OB) := if d.io = true then match env with
    | .ow o :: _ => some (some o)
    | _ => none
  else some none
def runD (Φ : Fn) (w : Nat) (d : Df) (io : Option OB) (ds : List D) : Option FOut := match startE d io ds with
  | none => none
  | some env => match exB Φ w d.io d.body env with
    | some (.rt r env') => (ioE d env').map fun o => .ok r o
    | some (.nx env') => (ioE d env').map fun o => .ok (.val .non) o
    | some (.ex c _) => if d.io = true then none else some (.ex c)
    | _ => none
/-- the program: at each depth of calls -/
def runF (P : Nat → Option Df) (w : Nat) : Nat → Fn
  | 0 => fun _ _ _ => none
  | n + 1 => fun f io ds => match P f with
    | some d => runD (runF P w n) w d io ds
    | none => none
end HB

set_option Elab.async false
set_option linter.all false
set_option maxRecDepth 100000
set_option maxHeartbeats 2000000
/-! HBComp: from the row's own terms to the small language. -/
namespace HB
open PySem PySem.Spec PyProof.Rows L2

/-- the module's names: defs (number, whether the first parameter is changed, parameters), classes -/
structure Tab where
  fns : List (Str × Nat × Bool × List Str × List (List Str × List Nat))
  cls : List (Str × Nat)
  bls : List Str
/-- a body's names -/
structure Sc where
  N : List Str
  sc : Scope
  own : List Str
  fnb : Option Scope
  tb : Tab
def ixOf (x : Str) : List Str → Option Nat
  | [] => none
  | y :: r => if y = x then some 0 else (ixOf x r).map (· + 1)
def visB (sc : Scope) (x : Str) : Bool := match sc.names.lookup x with
  | some .local => true
  | some .cell => true
  | some .free => true
  | _ => false
def locB (sc : Scope) (x : Str) : Bool := match sc.names.lookup x with
  | some .local => true
  | some .cell => true
  | _ => false
def isLoc (sc : Scope) (x : Str) : Bool := match sc.names.lookup x with
  | some .local => true
  | _ => false
def glbB (sc : Scope) (x : Str) : Bool := match sc.names.lookup x with
  | some .globalImplicit => true
  | _ => false
/-- a name that is read -/
def Sc.rd (S : Sc) (x : Str) : Option Nat := if visB S.sc x && !(x == ("__debug__" : Str)) && !(x == ("__classdict__" : Str)) then ixOf x S.N else none
/-- a name that is stored -/
def Sc.wr (S : Sc) (x : Str) : Option Nat := if locB S.sc x && (match S.fnb with
    | none => true
    | some s => isLoc S.sc x || (s.names.lookup x == some .cell)) then ixOf x S.N else none
def glOk (S : Sc) (x : Str) : Bool := glbB S.sc x && !(x == ("__debug__" : Str)) && !(x == ("__name__" : Str))
/-- a name of the machine's own -/
def Sc.bl (S : Sc) (x : Str) : Bool := glOk S x && decide (x ∈ S.tb.bls)
/-- the block of a comprehension -/
def Sc.blk (S : Sc) (scope : Scope) : Sc := { S with sc := relS scope S.sc, fnb := some scope }
def bopOf : Operator → Option Bop
  | .Add => some .add
  | .Sub => some .sub
  | .Mult => some .mul
  | .FloorDiv => some .div
  | .Mod => some .mod
  | .Pow => some .pow
  | _ => none
def copOf : CmpOp → Option Cop
  | .Eq => some .eq
  | .NotEq => some .ne
  | .Lt => some .lt
  | .LtE => some .le
  | .Gt => some .gt
  | .GtE => some .ge
  | .Is => some .is
  | .IsNot => some .isn
  | .In => some .mem
  | .NotIn => some .nmem
def notSet : Expr → Bool
  | .Set .. => false
  | _ => true
def notStar : Expr → Bool
  | .Starred .. => false
  | _ => true
def notSlice : Expr → Bool
  | .Slice .. => false
  | _ => true
def isComp : Expr → Bool
  | .ListComp .. => true
  | .SetComp .. => true
  | .DictComp .. => true
  | _ => false
def bltOf (S : Sc) (x : Str) (n : Nat) : Option Blt :=
  if S.bl x = true then
    if x = ("len" : Str) ∧ n = 1 then some .len
    else if x = ("int" : Str) ∧ n = 1 then some .int
    else if x = ("abs" : Str) ∧ n = 1 then some .abs
    else if x = ("max" : Str) ∧ n = 2 then some .max2
    else if x = ("min" : Str) ∧ n = 2 then some .min2
    else if x = ("sum" : Str) ∧ n = 1 then some .sum
    else if x = ("all" : Str) ∧ n = 1 then some .all
    else if x = ("any" : Str) ∧ n = 1 then some .any
    else if x = ("sorted" : Str) ∧ n = 1 then some .sorted
    else if x = ("list" : Str) ∧ n = 1 then some .list
    else if x = ("tuple" : Str) ∧ n = 1 then some .tuple
    else if x = ("repr" : Str) ∧ n = 1 then some .repr
    else none
  else none
def mthOf (x : Str) (n : Nat) : Option Mth :=
  if x = ("append" : Str) ∧ n = 1 then some .append
  else if x = ("pop" : Str) ∧ n = 0 then some .pop
  else if x = ("pop" : Str) ∧ n = 1 then some .popAt
  else if x = ("extend" : Str) ∧ n = 1 then some .extend
  else none
def tycOf (S : Sc) : Expr → Option Tyc
  | .Name x _ => if S.bl x = true then
      if x = ("int" : Str) then some .int
      else if x = ("bool" : Str) then some .bool
      else if x = ("str" : Str) then some .str
      else if x = ("list" : Str) then some .list
      else if x = ("tuple" : Str) then some .tuple
      else if x = ("dict" : Str) then some .dict
      else none
    else none
  | _ => none
def tycsOf (S : Sc) : List Expr → Option (List Tyc)
  | [] => some []
  | e :: es => match tycOf S e, tycsOf S es with
    | some t, some ts => some (t :: ts)
    | _, _ => none
def namesOf (S : Sc) : List Expr → Option (List Nat)
  | [] => some []
  | .Name x _ :: es => match S.wr x, namesOf S es with
    | some i, some is => some (i :: is)
    | _, _ => none
  | _ :: _ => none
/-- a target: a name, or a tuple of names -/
def tgtOf (S : Sc) : Expr → Option (List Nat)
  | .Name x _ => (S.wr x).map ([·])
  | .Tuple es _ _ => match namesOf S es with
    | some is => if 2 ≤ is.length then some is else none
    | none => none
  | _ => none
/-- a comprehension's own names, with their places -/
def ownOf (N : List Str) : List (Str × NameKind) → List (Str × Nat)
  | [] => []
  | (x, k) :: r => match k, ixOf x N with
    | .local, some i => (x, i) :: ownOf N r
    | .cell, some i => (x, i) :: ownOf N r
    | _, _ => ownOf N r
def allPlain : List Expr → Bool
  | [] => true
  | e :: es => notStar e && allPlain es
def isRev : Expr → Bool
  | .Slice none none (some (.UnaryOp .USub (.Constant (.int 1) _ _) _)) _ => true
  | _ => false
def notSup : Expr → Bool
  | .Call (.Name _ _) [] [] _ => false
  | _ => true
def tysArg (S : Sc) : Expr → Option (List Tyc)
  | .Tuple es _ _ => tycsOf S es
  | e => (tycOf S e).map ([·])
/-- range(a) -/
def isRange (S : Sc) : Expr → Bool
  | .Call (.Name g _) [a] [] _ => S.bl g && decide (g = ("range" : Str)) && notStar a
  | _ => false
def cCall (S : Sc) (f : Str) (args : List Expr) (as : Option IA) (it : Option (List IE)) (h : Option IE) : Option IE :=
  if allPlain args = true then
    match S.tb.fns.lookup f with
    | some (n, io, ps, _) => if glOk S f = true ∧ args.length = ps.length ∧ args.length ≠ 0 then as.map (.call n io) else none
    | none =>
      if f = ("isinstance" : Str) then
        if S.bl f = true then match args, h with
          | [_, t], some x => match tysArg S t with
            | some ts => if ts ≠ [] ∧ ts.length ≤ 1000 then some (.isi x ts) else none
            | none => none
          | _, _ => none
        else none
      else if f = ("list" : Str) ∧ args.any (isRange S) = true then match args, it with
        | [_], some [x] => if S.bl f = true then some (.blt .listRng (.cons x .nil)) else none
        | _, _ => none
      else match bltOf S f args.length, as with
        | some b, some es => some (.blt b es)
        | _, _ => none
  else none
def kwNames : List Keyword → Option (List Str)
  | [] => some []
  | ⟨some x, _, _⟩ :: r => (kwNames r).map (x :: ·)
  | ⟨none, _, _⟩ :: _ => none
/-- a call by keywords alone -/
def cCallK (S : Sc) (f : Str) (kws : List Keyword) (as : Option IA) : Option IE := match S.tb.fns.lookup f, kwNames kws with
  | some (n, false, ps, kl), some ks => match kl.lookup ks with
    | some perm => if glOk S f = true ∧ kws.length = ps.length ∧ perm.length = ps.length then as.map (.callK n perm) else none
    | none => none
  | _, _ => none
/-- what is walked: its own value, its arguments' values -/
def cI (S : Sc) (e : Expr) (x : Option IE) (as : Option (List IE)) : Option II := match e with
  | .Call (.Name f _) args [] _ => if S.bl f = true ∧ f = ("range" : Str) then
      if allPlain args = true then match args, as with
        | [_], some [a] => some (.rng1 a)
        | [_, _], some [a, b] => some (.rng2 a b)
        | _, _ => none
      else none
    else if S.bl f = true ∧ f = ("enumerate" : Str) then
      if allPlain args = true then match args, as with
        | [_], some [a] => some (.enum a)
        | _, _ => none
      else none
    else x.map .seq
  | .Set _ _ _ => none
  | _ => x.map .seq
def isTup : Expr → Bool
  | .Tuple .. => true
  | _ => false
def tgOk (tg : Expr) : II → Bool
  | .enum _ => isTup tg
  | _ => true
def cComp (S : Sc) (tg : Expr) (scope : Scope) (it : Option II) (c : Option IO) (e : Option IE) : Option IE :=
  match tgtOf (S.blk scope) tg, it, c, e with
  | some t, some it, some c, some e => if (tgOk tg it && blkC S.N S.sc scope (ownOf S.N scope.names) && t.all fun i => (ownOf S.N scope.names).any fun p => p.2 == i) = true then
      some (.comp ((ownOf S.N scope.names).map (·.2)) t it c e) else none
  | _, _, _, _ => none
mutual
def cE (S : Sc) : Expr → Option IE
  | .Constant c _ _ => match c with
    | .none => some (.cst .non)
    | .bool b => some (.cst (.bl b))
    | .int i => some (.cst (.int i))
    | .str x => some (.cst (.str x))
    | _ => none
  | .Name x _ => (S.rd x).map .var
  | .BinOp a op b _ => match bopOf op, cE S a, cE S b with
    | some o, some x, some y => some (.bin o x y)
    | _, _, _ => none
  | .UnaryOp op a _ => match op, cE S a with
    | .USub, some x => some (.neg x)
    | .Not, some x => some (.not x)
    | _, _ => none
  | .BoolOp op es _ => match op with
    | .And => cAnd S es
    | .Or => cOr S es
  | .Compare a ops cs _ => if cs.all notSet = true then match ops.map copOf, cE S a, cEs S cs with
      | [some o], some x, some [y] => some (.cmp o x y)
      | [some o, some o'], some x, some [y, z] => some (.chn o o' x y z)
      | _, _, _ => none
    else none
  | .IfExp c a b _ => match cE S c, cE S a, cE S b with
    | some z, some x, some y => some (.ite z x y)
    | _, _, _ => none
  | .List es _ => (cA S es).map .lst
  | .Tuple es _ _ => (cA S es).map .tup
  | .Dict ks vs _ => match ks, vs with
    | [], [] => some .dct0
    | _, _ => none
  | .Subscript a s _ => if isRev s = true then (cE S a).map .rev else match cSl S s with
    | some (l, h) => (cE S a).map fun x => .slc x l h
    | none => if notSlice s = true then match cE S a, cE S s with
        | some x, some y => some (.idx x y)
        | _, _ => none
      else none
  | .Call f args kws p => match f, kws with
    | .Name f _, [] => cCall S f args (cA S args) (cIh S args) (cH S args)
    | .Name f _, k :: ks => match args with
      | [] => cCallK S f (k :: ks) (cK S (k :: ks))
      | _ => none
    | .Attribute o m q, [] => if (notSup o && allPlain args && (q.endLine == p.line) && decide (args.length < 20)) = true then match mthOf m args.length, cE S o, cA S args with
        | some k, some x, some es => some (.meth k x es)
        | _, _, _ => none
      else none
    | _, _ => none
  | .ListComp elt gs scope _ => match gs with
    | [⟨tg, iter, ifs, 0⟩] => cComp S tg scope (cI S iter (cE S iter) (cArgs S iter)) (cIf (S.blk scope) ifs) (cE (S.blk scope) elt)
    | _ => none
  | _ => none
def cSt (S : Sc) : Expr → Option IE
  | .Starred e _ => cE S e
  | _ => none
def cArgs (S : Sc) : Expr → Option (List IE)
  | .Call _ args _ _ => cEs S args
  | _ => none
def cSl (S : Sc) : Expr → Option (IO × IO)
  | .Slice lo hi st _ => match st, cO S lo, cO S hi with
    | none, some l, some h => some (l, h)
    | _, _, _ => none
  | _ => none
def cO (S : Sc) : Option Expr → Option IO
  | none => some .no
  | some e => (cE S e).map .yes
def cEs (S : Sc) : List Expr → Option (List IE)
  | [] => some []
  | e :: es => match cE S e, cEs S es with
    | some x, some xs => some (x :: xs)
    | _, _ => none
def cH (S : Sc) : List Expr → Option IE
  | [] => none
  | e :: _ => cE S e
def cIh (S : Sc) : List Expr → Option (List IE)
  | [] => none
  | e :: _ => cArgs S e
def cIf (S : Sc) : List Expr → Option IO
  | [] => some .no
  | e :: es => match es with
    | [] => (cE S e).map .yes
    | _ => none
def cAnd (S : Sc) : List Expr → Option IE
  | [] => none
  | e :: es => match es with
    | [] => cE S e
    | _ => match cE S e, cAnd S es with
      | some x, some y => some (.and x y)
      | _, _ => none
def cOr (S : Sc) : List Expr → Option IE
  | [] => none
  | e :: es => match es with
    | [] => cE S e
    | _ => match cE S e, cOr S es with
      | some x, some y => some (.or x y)
      | _, _ => none
def cA (S : Sc) : List Expr → Option IA
  | [] => some .nil
  | e :: es => match cSt S e, cE S e, cA S es with
    | some x, _, some r => some (.star x r)
    | none, some x, some r => some (.cons x r)
    | _, _, _ => none
def cK (S : Sc) : List Keyword → Option IA
  | [] => some .nil
  | ⟨_, e, _⟩ :: r => match cE S e, cK S r with
    | some x, some xs => some (.cons x xs)
    | _, _ => none
end
/-! ### statements -/
def notComp : Expr → Bool
  | .ListComp .. => false
  | .SetComp .. => false
  | .DictComp .. => false
  | _ => true
def allLoc (S : Sc) (line : Nat) : List Expr → Bool
  | [] => true
  | .Name x p :: es => isLoc S.sc x && (p.line == line) && allLoc S line es
  | _ :: _ => false
def anyCell (S : Sc) : List Expr → Bool
  | [] => false
  | .Name x _ :: es => !isLoc S.sc x || anyCell S es
  | _ :: _ => false
/-- stored from the right -/
def parC (S : Sc) (ts vs : List Expr) : Bool := (ts.length == 2 || ts.length == 3) && allLoc S ((ts.head?.map (·.pos.line)).getD 0) ts && !(vs.all (foldedForSure 8)) && !(vs.all (constantsAlone 8))
def parN (S : Sc) (ts vs : List Expr) : Bool := anyCell S ts || !(ts.length == 2 || ts.length == 3) || (allLoc S ((ts.head?.map (·.pos.line)).getD 0) ts && vs.all (foldedForSure 8))
def strOf : Expr → Str
  | .Name x _ => x
  | _ => ⟨#[]⟩
def cAsg (S : Sc) (ts : List Expr) (v : Expr) (e : Option IE) (vs : Option IA) (o i : Option IE) : Option IS := match ts with
  | [.Name x _] => match S.wr x, e with
    | some j, some e => some (.asg j (decide (x ∈ S.own)) e)
    | _, _ => none
  | [.Tuple ts _ _] => match namesOf S ts with
    | some is => if 2 ≤ is.length then match v with
        | .Tuple ws _ _ => match vs with
          | some es => if (ts.length == ws.length && allPlain ws && (parC S ts ws || parN S ts ws) && decide is.Nodup && decide (ws.length < 1000)) = true then some (.asgN is (ts.map fun t => decide (strOf t ∈ S.own)) es) else none
          | none => none
        | v => if notComp v = true then e.map (.unp is) else none
      else none
    | none => none
  | [.Subscript _ b _] => if (notSlice b && notComp v) = true then match o, i, e with
      | some o, some i, some e => some (.setI o i e)
      | _, _, _ => none
    else none
  | _ => none
def tupOf : Expr → List Expr
  | .Tuple es _ _ => es
  | _ => []
def subA (S : Sc) : List Expr → Option IE
  | [.Subscript a _ _] => cE S a
  | _ => none
def subB (S : Sc) : List Expr → Option IE
  | [.Subscript _ b _] => cE S b
  | _ => none
mutual
def cS (S : Sc) : Stmt → Option IS
  | .Expr e _ => if notComp e = true then (cE S e).map .expr else none
  | .Assign ts v _ => cAsg S ts v (cE S v) (cA S (tupOf v)) (subA S ts) (subB S ts)
  | .For tg it body orelse _ => match orelse, tgtOf S tg, cI S it (cE S it) (cArgs S it) with
    | [], some t, some ii => if tgOk tg ii = true then some (.for_ t ii (cB S body)) else none
    | _, _, _ => none
  | .While c body orelse _ => match orelse, cE S c with
    | [], some c => some (.while_ c (cB S body))
    | _, _ => none
  | .If c a b _ => match cE S c with
    | some c => some (.if_ c (cB S a) (cB S b))
    | none => none
  | .Return e _ => match e with
    | some e => (cE S e).map .ret
    | none => some .retN
  | .Pass _ => some .pass
  | .Break _ => some .brk
  | .Continue _ => some .ct
  | _ => none
/-- what is not compiled is stuck -/
def cB (S : Sc) : List Stmt → List IS
  | [] => []
  | s :: r => (match cS S s with
    | some x => x
    | none => .stuck) :: cB S r
end
end HB

set_option Elab.async false
set_option linter.all false
set_option maxRecDepth 100000
set_option maxHeartbeats 2000000
/-! HBSnd1: contracts of defs by what the small language says, calls, judgements. -/
namespace HB
open PySem PySem.Spec PyProof.Rows L2

/-- a def's contract, no thing being shown at the time -/
structure Fok (P : Program) (w : World) (K : Fg) (mg : Str → Option Value) (base : Heap) (k : Nat) (f : Addr) (fd : FuncData) (ps : List Str) (sp : Sp) : Prop where
  len : ∀ vs H Q E, sp vs H Q E → vs.length = ps.length
  run : ∀ (A : Around) (outer : List Env) (s : Shared) (H : Hp) (args : Args) (us : List Value) (vs : List V) (Q : VK) (E : XK), Room k A → A.guards = some [] → Env0 P w K mg base A outer s H →
    BindsTo s fd args (ps.zip us) → Vals vs us → sp vs H Q E → codeAny (model P w) A (.call (.ref f) args) (CR (L2.CX P w) outer P w H s Q E) s
theorem Fok.of {P : Program} {w : World} {K : Fg} {mg : Str → Option Value} {base : Heap} {k : Nat} {f : Addr} {fd : FuncData} {ps : List Str} {sp : Sp} (F : FnOk P w K mg base (L2.CX P w) k f fd ps sp) : Fok P w K mg base k f fd ps sp :=
  ⟨F.len, fun A outer s H args us vs Q E hr _ => F.run A outer s H args us vs Q E hr⟩

/-! ### what a body leaves -/
abbrev GotE {α : Type} (o : Option (Out α)) (P : α → Evn → Prop) (R : Nat → Evn → Prop) : Prop := match o with
  | some (.ok a e) => P a e
  | some (.ex c e) => R c e
  | none => False
theorem GotE.imp {α : Type} {o : Option (Out α)} {P P' : α → Evn → Prop} {R R' : Nat → Evn → Prop} (h : GotE o P R) (hP : ∀ a e, P a e → P' a e) (hR : ∀ c e, R c e → R' c e) : GotE o P' R' := by
  cases o with
  | none => exact h
  | some t => cases t with
    | ok a e => exact hP a e h
    | ex c e => exact hR c e h
theorem GotE.bnd {α β : Type} {x : Mo α} {f : α → Mo β} {env : Evn} {P : β → Evn → Prop} {R : Nat → Evn → Prop} (h : GotE (x.bnd f env) P R) : GotE (x env) (fun a e => GotE (f a e) P R) R := by
  unfold Mo.bnd at h
  cases hx : x env with
  | none => rw [hx] at h; exact h
  | some t => cases t with
    | ok a e => rw [hx] at h; exact h
    | ex c e => rw [hx] at h; exact h
theorem GotE.bnd' {α β : Type} {x : Mo α} {f : α → Mo β} {env : Evn} {P : β → Evn → Prop} {R : Nat → Evn → Prop} (h : GotE (x env) (fun a e => GotE (f a e) P R) R) : GotE (x.bnd f env) P R := by
  unfold Mo.bnd
  cases hx : x env with
  | none => rw [hx] at h; exact h
  | some t => cases t with
    | ok a e => rw [hx] at h; exact h
    | ex c e => rw [hx] at h; exact h
theorem GotE.lift {α : Type} {o : Option α} {env : Evn} {P : α → Evn → Prop} {R : Nat → Evn → Prop} (h : GotE (Mo.lift o env) P R) : ∃ a, o = some a ∧ P a env := by
  cases o with
  | none => exact h.elim
  | some a => exact ⟨a, rfl, h⟩
theorem GotE.opd {r : RV} {env : Evn} {P : D → Evn → Prop} {R : Nat → Evn → Prop} (h : GotE (Mo.opd r env) P R) : ∃ d, r.opd env = some d ∧ P d env := by
  unfold Mo.opd at h
  cases e : r.opd env with
  | none => rw [e] at h; exact h.elim
  | some d => rw [e] at h; exact ⟨d, rfl, h⟩
theorem GotE.set {x : Mo RV} {env : Evn} {P : RV → Evn → Prop} {R : Nat → Evn → Prop} (h : GotE (x.set env) P R) : GotE (x env) (fun r e => P r.set e) R := GotE.bnd h
/-- only owned slots stay owned -/
def Shp (env env' : Evn) : Prop := ∀ (i : Nat) (o' : OB), env'[i]? = some (.ow o') → ∃ o, env[i]? = some (.ow o)
theorem Shp.refl (env : Evn) : Shp env env := fun _ o h => ⟨o, h⟩
theorem Shp.trans {a b c : Evn} (h : Shp a b) (k : Shp b c) : Shp a c := fun i o' e => by
  obtain ⟨o, e1⟩ := k i o' e
  exact h i o e1
def NoFr : RV → Prop
  | .fr _ => False
  | _ => True
theorem RV.set_nofr (r : RV) : NoFr r.set := by cases r <;> trivial
theorem RVOk.keep {K : Fg} {B : Bs} {env env' : Evn} {σ : L2.St} {Hb H Hb' H' : Hp} {v : V} {r : RV} (h : RVOk K B env σ Hb H v r) (n : NoFr r) (e : Le Hb Hb') : RVOk K B env' σ Hb' H' v r := by
  cases r with
  | val d => exact Rp.mono e _ _ h
  | bo i => exact h
  | fr o => exact n.elim
/-- the exception is wished for -/
abbrev Xw (X : Cx) (W : WX) (ct : Nat → Addr) (B : Bs) (σ : L2.St) (Hb : Hp) : Nat → Evn → Prop := fun c env' => ∀ Hb' H', Stt X.K B env' σ Hb' H' → Le Hb Hb' → W (.ref (ct c)) none σ H'
theorem Xw.mono {X : Cx} {W : WX} {ct : Nat → Addr} {B : Bs} {σ : L2.St} {Hb Hb1 : Hp} (le : Le Hb Hb1) {c : Nat} {e : Evn} (h : Xw X W ct B σ Hb c e) : Xw X W ct B σ Hb1 c e := fun Hb' H' S l => h Hb' H' S (le.trans l)
/-- an expression is worth what f says -/
def SE (X : Cx) (W : WX) (ct : Nat → Addr) (e : Expr) (f : Mo RV) : Prop := ∃ te : TE, PE X e te ∧ ∀ (B : Bs) (σ : L2.St) (Hb H : Hp) (env : Evn) (Q : VK), Stt X.K B env σ Hb H →
  GotE (f env) (fun r env' => ∀ v Hb' H', Stt X.K B env' σ Hb' H' → Le Hb Hb' → Shp env env' → RVOk X.K B env' σ Hb' H' v r → Q v H') (Xw X W ct B σ Hb) → te σ H Q
/-- .. settled -/
def SEs (X : Cx) (W : WX) (ct : Nat → Addr) (e : Expr) (f : Mo RV) : Prop := ∃ te : TE, PE X e te ∧ ∀ (B : Bs) (σ : L2.St) (Hb H : Hp) (env : Evn) (Q : VK), Stt X.K B env σ Hb H →
  GotE (f env) (fun r env' => ∀ v Hb' H', Stt X.K B env' σ Hb' H' → Le Hb Hb' → Shp env env' → NoFr r → RVOk X.K B env' σ Hb' H' v r → Q v H') (Xw X W ct B σ Hb) → te σ H Q
theorem SE.set {X : Cx} {W : WX} {ct : Nat → Addr} {e : Expr} {f : Mo RV} (h : SE X W ct e f) : SEs X W ct e f.set := by
  obtain ⟨te, pe, k⟩ := h
  refine ⟨te, pe, fun B σ Hb H env Q S g => k B σ Hb H env Q S (g.set.imp (fun r e' q v Hb' H' S' le sh rv => ?_) fun _ _ q => q)⟩
  obtain ⟨Hb2, le2, S2, rv2⟩ := S'.settle rv
  exact q v Hb2 H' S2 (le.trans le2) sh r.set_nofr rv2
/-- a test is decided as f says -/
def ST (X : Cx) (W : WX) (ct : Nat → Addr) (e : Expr) (f : Mo Bool) : Prop := ∃ tt : TT, PT X e tt ∧ ∀ (B : Bs) (σ : L2.St) (Hb H : Hp) (env : Evn) (Q : Bool → Hp → Prop), Stt X.K B env σ Hb H →
  GotE (f env) (fun b env' => ∀ Hb' H', Stt X.K B env' σ Hb' H' → Le Hb Hb' → Shp env env' → Q b H') (Xw X W ct B σ Hb) → tt σ H Q
/-- a row of values -/
def RVsOk (K : Fg) (B : Bs) (env : Evn) (σ : L2.St) (Hb H : Hp) : List RV → List V → Prop
  | [], vs => vs = []
  | r :: rs, vs => ∃ v vs', vs = v :: vs' ∧ RVOk K B env σ Hb H v r ∧ NoFr r ∧ RVsOk K B env σ Hb H rs vs'
theorem RVsOk.keep {K : Fg} {B : Bs} {env env' : Evn} {σ : L2.St} {Hb H Hb' H' : Hp} (e : Le Hb Hb') : ∀ {rs : List RV} {vs : List V}, RVsOk K B env σ Hb H rs vs → RVsOk K B env' σ Hb' H' rs vs
  | [], _, h => h
  | r :: rs, _, ⟨v, vs, h1, h2, h3, h4⟩ => ⟨v, vs, h1, h2.keep h3 e, h3, RVsOk.keep e h4⟩
theorem RVsOk.vals {K : Fg} {B : Bs} {env : Evn} {σ : L2.St} {Hb H : Hp} : ∀ {ds : List D} {xs : List V}, RpAll K Hb ds xs → RVsOk K B env σ Hb H (ds.map RV.val) xs
  | [], _, h => h
  | d :: ds, _, ⟨y, ys, h1, h2, h3⟩ => ⟨y, ys, h1, h2, trivial, RVsOk.vals h3⟩
theorem RVsOk.app {K : Fg} {B : Bs} {env : Evn} {σ : L2.St} {Hb H : Hp} : ∀ {rs rs' : List RV} {vs vs' : List V}, RVsOk K B env σ Hb H rs vs → RVsOk K B env σ Hb H rs' vs' → RVsOk K B env σ Hb H (rs ++ rs') (vs ++ vs')
  | [], _, _, _, h, k => by have h' : _ = [] := h; subst h'; exact k
  | r :: rs, _, _, _, ⟨v, vs, h1, h2, h3, h4⟩, k => by subst h1; exact ⟨v, _, rfl, h2, h3, RVsOk.app h4 k⟩
/-- arguments, items of a display -/
def SA (X : Cx) (W : WX) (ct : Nat → Addr) (es : List Expr) (f : Mo (List RV)) : Prop := ∃ ta : TA, PA X es ta ∧ ∀ (B : Bs) (σ : L2.St) (Hb H : Hp) (env : Evn) (Q : List V → Hp → Prop), Stt X.K B env σ Hb H →
  GotE (f env) (fun rs env' => ∀ vs Hb' H', Stt X.K B env' σ Hb' H' → Le Hb Hb' → Shp env env' → RVsOk X.K B env' σ Hb' H' rs vs → Q vs H') (Xw X W ct B σ Hb) → ta σ H Q

/-! ### an owned thing is frozen -/
section
variable {K : Fg} {B : Bs} {env : Evn} {σ : L2.St} {Hb H : Hp}
theorem Shp.set_im (i : Nat) (d : D) : Shp env (env.set i (.im d)) := fun j o h => by
  by_cases e : i = j
  · subst e
    by_cases hl : i < env.length
    · rw [List.getElem?_set_self hl] at h; cases h
    · rw [List.getElem?_eq_none (by simpa using hl)] at h; cases h
  · rw [List.getElem?_set_ne e] at h; exact ⟨o, h⟩
/-- slot i, which owns a thing, has it frozen -/
theorem Stt.freeze (S : Stt K B env σ Hb H) {i : Nat} {o : OB} (h : env[i]? = some (.ow o)) : ∃ a Hb', σ[i]? = some (some (.ref a)) ∧ Le Hb Hb' ∧ Stt K B (env.set i (.im o.toD)) σ Hb' H ∧ Rp K Hb' o.toD (.ref a) := by
  obtain ⟨a, h1, h2, h3, h4⟩ := S.ow i o h
  obtain ⟨u, hu⟩ := h3.there
  have hB : B.H a = none ∨ B.io a := by
    split at h4
    · exact .inr h4
    · exact .inl h4.1
  have S1 : Stt K B (env.set i .un) σ Hb H := S.forget i
  have nf : ∀ (j : Nat) (o' : OB), (env.set i .un)[j]? = some (.ow o') → σ[j]? ≠ some (some (.ref a)) := fun j o' e z => by
    by_cases hij : i = j
    · subst hij
      rw [List.getElem?_set_self (List.getElem?_eq_some_iff.mp h).1] at e; cases e
    · rw [List.getElem?_set_ne hij] at e
      exact hij (S.inj i j o o' a h e h1 z)
  have S2 := S1.frz hu h2 hB nf
  have rp : Rp K (upd Hb a u) o.toD (.ref a) := h3.froze (Le.new h2) (by rw [upd_same, hu])
  have hl : i < env.length := (List.getElem?_eq_some_iff.mp h).1
  refine ⟨a, _, h1, Le.new h2, ⟨by rw [List.length_set]; exact S.len, S2.sub, fun j d e => ?_, fun j o' e => ?_, fun j k o1 o2 b e1 e2 => ?_, S2.exb, S2.keep, S2.frs, S2.iot⟩, rp⟩
  · by_cases hij : i = j
    · subst hij
      rw [List.getElem?_set_self hl] at e
      cases e
      exact ⟨_, h1, rp⟩
    · exact S2.im j d (by rw [List.getElem?_set_ne hij]; rwa [List.getElem?_set_ne hij] at e)
  · by_cases hij : i = j
    · subst hij
      rw [List.getElem?_set_self hl] at e; cases e
    · exact S2.ow j o' (by rw [List.getElem?_set_ne hij]; rwa [List.getElem?_set_ne hij] at e)
  · by_cases hij : i = j
    · subst hij
      rw [List.getElem?_set_self hl] at e1; cases e1
    · by_cases hik : i = k
      · subst hik
        rw [List.getElem?_set_self hl] at e2; cases e2
      · exact S2.inj j k o1 o2 b (by rw [List.getElem?_set_ne hij]; rwa [List.getElem?_set_ne hij] at e1) (by rw [List.getElem?_set_ne hik]; rwa [List.getElem?_set_ne hik] at e2)
/-- a settled value taken as data -/
theorem Stt.imm (S : Stt K B env σ Hb H) {v : V} {r : RV} (h : RVOk K B env σ Hb H v r) {P : D → Evn → Prop} {R : Nat → Evn → Prop} (g : GotE (Mo.imm r env) P R) :
    ∃ d env' Hb', P d env' ∧ Le Hb Hb' ∧ Shp env env' ∧ Stt K B env' σ Hb' H ∧ Rp K Hb' d v := by
  cases r with
  | val d => exact ⟨d, env, Hb, g, Le.refl _, Shp.refl _, S, h⟩
  | fr o => exact g.elim
  | bo i =>
    have h' : σ[i]? = some (some v) := h
    cases ho : env[i]? with
    | none => simp only [Mo.imm, ho] at g; exact False.elim g
    | some t =>
      cases t with
      | un => simp only [Mo.imm, ho] at g; exact False.elim g
      | im d' =>
        simp only [Mo.imm, ho] at g
        obtain ⟨v', h1, h2⟩ := S.im i _ ho
        rw [h'] at h1; cases h1
        exact ⟨d', env, Hb, g, Le.refl _, Shp.refl _, S, h2⟩
      | ow o =>
        simp only [Mo.imm, ho] at g
        obtain ⟨a, Hb', h1, le, S', rp⟩ := S.freeze ho
        rw [h'] at h1; cases h1
        exact ⟨_, _, Hb', g, le, Shp.set_im i _, S', rp⟩
end
theorem Stt.imms {K : Fg} {B : Bs} {σ : L2.St} {H : Hp} : ∀ {rs : List RV} {vs : List V} {env : Evn} {Hb : Hp} (S : Stt K B env σ Hb H) (h : RVsOk K B env σ Hb H rs vs) {P : List D → Evn → Prop} {R : Nat → Evn → Prop} (g : GotE (Mo.imms rs env) P R),
    ∃ ds env' Hb', P ds env' ∧ Le Hb Hb' ∧ Shp env env' ∧ Stt K B env' σ Hb' H ∧ RpAll K Hb' ds vs
  | [], vs, env, Hb, S, h, P, R, g => ⟨[], env, Hb, g, Le.refl _, Shp.refl _, S, h⟩
  | r :: rs, vs, env, Hb, S, ⟨v, vs', h1, h2, h3, h4⟩, P, R, g => by
    subst h1
    obtain ⟨d, env1, Hb1, g1, le1, sh1, S1, rp⟩ := S.imm h2 (GotE.bnd g)
    obtain ⟨ds, env2, Hb2, g2, le2, sh2, S2, rps⟩ := Stt.imms S1 (h4.keep le1) (GotE.bnd g1)
    exact ⟨d :: ds, env2, Hb2, g2, le1.trans le2, sh1.trans sh2, S2, _, _, rfl, Rp.mono le2 _ _ rp, rps⟩

/-! ### calls -/
/-- the heap behind a call, from what was handed in: io the address that may be changed -/
structure Aft (Hb Hc Hb' H' : Hp) (io : Addr → Prop) : Prop where
  le : Le Hb Hb'
  sub : Le Hb' H'
  keep : ∀ b o, Hc b = some o → ¬ io b → H' b = some o
  frs : ∀ b o, Hb' b = some o → Hb b = none → Hc b = none
/-- what is handed in -/
def ArgsOk (K : Fg) (Hb Hc : Hp) (io : Option OB) (ds : List D) (ioa : Option Addr) (vs : List V) : Prop := match io, ioa with
  | none, none => RpAll K Hb ds vs
  | some o, some a => ∃ vs', vs = .ref a :: vs' ∧ Hb a = none ∧ OBat K Hb Hc a o ∧ RpAll K Hb ds vs'
  | _, _ => False
/-- what is handed out -/
def RetOk (K : Fg) (Hc Hb' H' : Hp) (v : V) : RV → Prop
  | .val d => Rp K Hb' d v
  | .bo _ => False
  | .fr o => ∃ p, v = .ref p ∧ Hb' p = none ∧ OBat K Hb' H' p o ∧ Hc p = none
def IoOk (K : Fg) (Hb' H' : Hp) (io : Option OB) (ioa : Option Addr) : Prop := match io, ioa with
  | none, none => True
  | some o, some a => Hb' a = none ∧ OBat K Hb' H' a o
  | _, _ => False
/-- the contract of def f, by what Φ says of it -/
def SpOf (K : Fg) (ct : Nat → Addr) (n : Nat) (φ : Option OB → List D → Option FOut) : Sp := fun vs Hc Q E => vs.length = n ∧ ∃ Hb io ds ioa, Le Hb Hc ∧ ArgsOk K Hb Hc io ds ioa vs ∧ match φ io ds with
  | none => False
  | some (.ok r io') => ∀ v Hb' H', Aft Hb Hc Hb' H' (fun b => ioa = some b) → IoOk K Hb' H' io' ioa → RetOk K Hc Hb' H' v r → Q v H'
  | some (.ex c) => ∀ Hb' H', Aft Hb Hc Hb' H' (fun b => ioa = some b) → E (.ref (ct c)) none H'
/-- a def stands at the name x and keeps its contract -/
def KwB (K : Fg) (fd : FuncData) (ps : List Str) (kl : List (List Str × List Nat)) : Prop := ∀ q ∈ kl, ∀ (s : Shared) (us ws : List Value), K.In s.heap → us.length = ps.length → permL q.2 us = some ws → BindsTo s fd ⟨[], q.1.zip us⟩ (ps.zip ws)
structure FnAt (P : Program) (w : World) (K : Fg) (mg : Str → Option Value) (base : Heap) (ct : Nat → Addr) (k : Nat) (x : Str) (ps : List Str) (kl : List (List Str × List Nat)) (φ : Option OB → List D → Option FOut) : Prop where
  ex : ∃ fa fd, mg x = some (.ref fa) ∧ PySem.W.keepIn K (.ref fa) = true ∧ L2.Binds K fd ps [] ∧ KwB K fd ps kl ∧ Fok P w K mg base k fa fd ps (SpOf K ct ps.length φ)
/-- what a body stands on -/
structure CkE (S : Sc) (Φ : Fn) (ct : Nat → Addr) (k : Nat) (X : Cx) (W : WX) : Prop where
  N : X.N = S.N
  sc : X.env.scope = S.sc
  fnb : ∀ x, (match S.fnb with | none => true | some s => s.names.lookup x == some .cell) = true → X.fn x = true
  nd : X.N.Nodup
  calm : X.calm = true
  gd : X.A.guards = some []
  room : Room k X.A
  tk : Takes X W
  fns : ∀ x f io ps kl, S.tb.fns.lookup x = some (f, io, ps, kl) → FnAt X.prog X.w X.K X.mg X.base ct k x ps kl (fun o ds => if o.isSome = io then Φ f o ds else none)
  sm : ∃ o, X.base.get? sysModules = some o
  bl : ∀ x, x ∈ S.tb.bls → X.mg x = none
section
variable {X : Cx} {W : WX} {k : Nat} {x : Str} {p pos : Pos} {e : Expr} {es : List Expr} {t : TA}
theorem starEach_plain {e : Expr} {es : List Expr} {env : Env} (h : notStar e = true) : starEach (e :: es) env = (false, eval e env) :: starEach es env := by
  cases e <;> first | rfl | cases h
theorem backTo_plain {pos : Pos} {env : Env} : ∀ {es : List Expr}, allPlain es = true → (backTo pos (starEach es env)).any (·.1) = false
  | [], _ => rfl
  | e :: es, h => by
    have h' : notStar e = true ∧ allPlain es = true := by simpa [allPlain] using h
    rw [starEach_plain h'.1]
    show (false || (backTo pos (starEach es env)).any (·.1)) = false
    rw [backTo_plain h'.2]
    rfl
/-- a def of the module is called; what it raises is wished for at the slots -/
theorem pe_callF {f : Addr} {fd : FuncData} {ps : List Str} {sp : Sp} (F : Fok X.prog X.w X.K X.mg X.base k f fd ps sp) (hr : Room k X.A) (hgd : X.A.guards = some []) (hg : Gl X x) (hm : X.mg x = some (.ref f)) (hk : PySem.W.keepIn X.K (.ref f) = true) (hb : L2.Binds X.K fd ps []) (tk : Takes X W)
    (ha : PA X (e :: es) t) (hdb : (x == ("__debug__" : Str)) = false) (hp : allPlain (e :: es) = true) : PE X (.Call (.Name x p) (e :: es) [] pos) (tCallS sp (WE W) t) := by
  have h' : notStar e = true ∧ allPlain es = true := by simpa [allPlain] using hp
  refine ⟨fun pins s σ H Q I h => wpAny_Call_Name_kw (ld_glob I hg hm ?_ hdb)⟩
  refine PySem.W.callWith_K (h₀ := X.base) I.ok.mod.kin hk (thn (ha.run pos pins s σ H _ I h) fun us s1 hh => ?_) (starEach_plain h'.1) (backTo_plain h'.2)
  obtain ⟨vs, H1, I1, r, q⟩ := hh
  refine ⟨I1.kIn, ?_⟩
  have hl : us.length = ps.length := r.length.symm.trans (F.len _ _ _ _ q)
  have b := hb s1 us I1.kIn (by rw [List.append_nil]; exact hl)
  rw [List.append_nil] at b
  refine wpAny_call (codeAny_mono (F.run X.A X.stack s1 H1 ⟨us, []⟩ us vs Q (WE W σ) hr hgd I1.env0 b r q) fun r' s' hq => ?_)
  cases r' with
  | error e' => exact passAt tk σ pins H1 s1 e' s' I1 hq
  | ok fl => cases fl with
    | ret u => exact I1.after hq
    | next => exact hq.elim
    | brk => exact hq.elim
    | cont => exact hq.elim
/-- .. by keywords alone -/
theorem permL_vals {perm : List Nat} : ∀ {zs vs : List V} {us : List Value}, Vals zs us → permL perm zs = some vs → ∃ ws, permL perm us = some ws ∧ Vals vs ws := by
  induction perm with
  | nil => intro zs vs us r h; cases h; exact ⟨[], rfl, .nil⟩
  | cons i perm ih =>
    intro zs vs us r h
    unfold permL at h ⊢
    rw [List.mapM_cons] at h ⊢
    cases hz : zs[i]? with
    | none => rw [hz] at h; cases h
    | some z =>
      cases hr : permL perm zs with
      | none =>
        unfold permL at hr
        rw [hz, hr] at h; cases h
      | some vr =>
        obtain ⟨ws, hw, rw'⟩ := ih r hr
        unfold permL at hr hw
        rw [hz, hr] at h
        cases h
        obtain ⟨u, hu, ru⟩ := r.get hz
        exact ⟨u :: ws, by rw [hu, hw]; rfl, .cons ru rw'⟩
theorem kw_named : ∀ {kws : List Keyword} {ks : List Str} {pos : Pos} {env : Env}, kwNames kws = some ks → (backToKw pos (keywordEach kws env)).all (·.1.isSome) = true ∧ (backToKw pos (keywordEach kws env)).filterMap (·.1) = ks ∧ (backToKw pos (keywordEach kws env)).any (·.1.isNone) = false
  | [], ks, pos, env, h => by cases h; exact ⟨rfl, rfl, rfl⟩
  | ⟨nm, e, p⟩ :: r, ks, pos, env, h => by
    cases nm with
    | none => cases h
    | some x =>
      obtain ⟨ks', h1, rfl⟩ := Option.map_eq_some_iff.mp (show (kwNames r).map (x :: ·) = some ks from h)
      obtain ⟨a, b, c⟩ := kw_named (pos := pos) (env := env) h1
      refine ⟨?_, ?_, ?_⟩
      · show (true && (backToKw pos (keywordEach r env)).all (·.1.isSome)) = true
        rw [a]; rfl
      · show x :: (backToKw pos (keywordEach r env)).filterMap (·.1) = _
        rw [b]
      · show (false || (backToKw pos (keywordEach r env)).any (·.1.isNone)) = false
        rw [c]; rfl
theorem pe_callKF {f : Addr} {fd : FuncData} {ps ks : List Str} {perm : List Nat} {kl : List (List Str × List Nat)} {sp : Sp} {kws : List Keyword} (F : Fok X.prog X.w X.K X.mg X.base k f fd ps sp) (hr : Room k X.A) (hgd : X.A.guards = some []) (hg : Gl X x) (hm : X.mg x = some (.ref f)) (hk : PySem.W.keepIn X.K (.ref f) = true)
    (hb : KwB X.K fd ps kl) (hq : (ks, perm) ∈ kl) (tk : Takes X W) (ha : PK X kws t) (hn : kwNames kws = some ks) (hdb : (x == ("__debug__" : Str)) = false) :
    PE X (.Call (.Name x p) [] kws pos) (fun σ H Q => t σ H fun zs H1 => zs.length = ps.length ∧ ∃ vs, permL perm zs = some vs ∧ sp vs H1 Q (WE W σ)) := by
  obtain ⟨n1, n2, n3⟩ := kw_named (pos := pos) (env := X.env) hn
  refine ⟨fun pins s σ H Q I h => wpAny_Call_Name_kw (ld_glob I hg hm ?_ hdb)⟩
  refine PySem.W.callWith_KW0 (h₀ := X.base) I.ok.mod.kin hk n1 (thn (ha.run pos pins s σ H _ I h) fun us s1 hh => ?_) (by show (false || _) = false; rw [n3]; rfl)
  obtain ⟨zs, H1, I1, r, hl, vs, hp, q⟩ := hh
  obtain ⟨ws, hw, rw'⟩ := permL_vals r hp
  refine ⟨I1.kIn, ?_⟩
  rw [n2]
  have b := hb _ hq s1 us ws I1.kIn (by rw [← r.length]; exact hl) hw
  refine wpAny_call (codeAny_mono (F.run X.A X.stack s1 H1 ⟨[], ks.zip us⟩ ws vs Q (WE W σ) hr hgd I1.env0 b rw' q) fun r' s' hq' => ?_)
  cases r' with
  | error e' => exact passAt tk σ pins H1 s1 e' s' I1 hq'
  | ok fl => cases fl with
    | ret u => exact I1.after hq'
    | next => exact hq'.elim
    | brk => exact hq'.elim
    | cont => exact hq'.elim
end
end HB

set_option Elab.async false
set_option linter.all false
set_option maxRecDepth 100000
set_option maxHeartbeats 2000000
/-! HBSnd2: operators. -/
namespace HB
open PySem PySem.Spec PyProof.Rows L2

theorem lim_le {n : Nat} (h : n ≤ LIM) : n ≤ sizeLine := Nat.le_trans h (by decide)
theorem lim_lt {n : Nat} (h : n < LIM) : n < sizeLine := Nat.lt_of_lt_of_le h (by decide)
section
variable {K : Fg} {B : Bs} {env : Evn} {σ : L2.St} {Hb H : Hp}
theorem Stt.madeL (S : Stt K B env σ Hb H) {p : Addr} (hp : H p = none) {ds : List D} {xs : List V} (h : RpAll K Hb ds xs) : Stt K B env σ Hb (upd H p (.lst xs)) ∧ RVOk K B env σ Hb (upd H p (.lst xs)) (.ref p) (.fr (.lst ds)) :=
  ⟨S.newH hp, p, rfl, S.hbn hp, ⟨xs, upd_same, h⟩, (S.fresh hp).1, (S.fresh hp).2, S.nofr hp⟩
theorem Stt.madeT (S : Stt K B env σ Hb H) {p : Addr} (hp : H p = none) {ds : List D} {xs : List V} (h : RpAll K Hb ds xs) : ∃ Hb', Le Hb Hb' ∧ Stt K B env σ Hb' (upd H p (.tup xs)) ∧ Rp K Hb' (.tup ds) (.ref p) :=
  ⟨upd Hb p (.tup xs), Le.new (S.hbn hp), S.new hp, p, xs, rfl, SqT.of upd_same, h.mono (Le.new (S.hbn hp))⟩
end
/-- what an operation over values asks, in a state -/
abbrev Fin (K : Fg) (B : Bs) (env : Evn) (σ : L2.St) (Hb : Hp) (Q : VK) (rv : RV) : Prop := ∀ v Hb' H', Stt K B env σ Hb' H' → Le Hb Hb' → RVOk K B env σ Hb' H' v rv → Q v H'
def OpB (X : Cx) (r : R2) (g : D → D → Option RV) : Prop := ∀ (B : Bs) (env : Evn) (σ : L2.St) (Hb H : Hp), Stt X.K B env σ Hb H → ∀ (d e : D) (v u : V) (rv : RV), g d e = some rv → Vw X.K Hb H d v → Vw X.K Hb H e u → ∀ Q : VK, Fin X.K B env σ Hb Q rv → r v u H Q
section
variable {X : Cx}
theorem fin_val {K : Fg} {B : Bs} {env : Evn} {σ : L2.St} {Hb H : Hp} {Q : VK} {d : D} {v : V} (S : Stt K B env σ Hb H) (f : Fin K B env σ Hb Q (.val d)) (h : Rp K Hb d v) : Q v H := f v Hb H S (Le.refl _) h
theorem bin_add : ∃ r, OpR X (binaryOp .Add) r ∧ OpB X r (binD .add) := by
  refine ⟨_, op_add.or (op_cat.or (op_catA.or op_add_str)), ?_⟩
  intro B env σ Hb H S d e v u rv h hv hu Q f
  cases d <;> cases e <;> simp only [binD] at h <;> try cases h
  · cases hv; cases hu; exact .inl ⟨_, _, rfl, rfl, fin_val S f rfl⟩
  · rename_i a b
    split at h
    · rename_i hl
      cases h; cases hv; cases hu
      exact .inr (.inr (.inr ⟨_, _, rfl, rfl, lim_le hl, fin_val S f rfl⟩))
    · cases h
  · rename_i a b
    split at h
    · rename_i hl
      cases h
      obtain ⟨x, xs, rfl, h1, h2⟩ := hv
      obtain ⟨y, ys, rfl, h3, h4⟩ := hu
      refine .inr (.inl ⟨x, y, xs, ys, rfl, rfl, h1, h3, by rw [← h2.length, ← h4.length]; exact lim_le hl, fun p hp => ?_⟩)
      obtain ⟨S', rv⟩ := S.madeL hp (h2.app h4)
      exact f _ _ _ S' (Le.refl _) rv
    · cases h
  · rename_i a b
    split at h
    · rename_i hl
      cases h
      obtain ⟨x, xs, rfl, h1, h2⟩ := hv
      obtain ⟨y, ys, rfl, h3, h4⟩ := hu
      refine .inr (.inr (.inl ⟨x, y, xs, ys, rfl, rfl, S.sub.sqt h1, S.sub.sqt h3, by rw [← h2.length, ← h4.length]; exact lim_le hl, fun ex => ?_, fun _ ey => ?_, fun _ _ p hp => ?_⟩))
      · subst ex
        have : a = [] := List.length_eq_zero_iff.mp h2.length
        subst this
        exact fin_val S f ⟨y, ys, rfl, h3, h4⟩
      · subst ey
        have : b = [] := List.length_eq_zero_iff.mp h4.length
        subst this
        rw [List.append_nil] at f
        exact fin_val S f ⟨x, xs, rfl, h1, h2⟩
      · obtain ⟨Hb', le, S', rp⟩ := S.madeT hp (h2.app h4)
        exact f _ _ _ S' le rp
    · cases h
theorem bin_sub : ∃ r, OpR X (binaryOp .Sub) r ∧ OpB X r (binD .sub) := by
  refine ⟨_, op_sub, ?_⟩
  intro B env σ Hb H S d e v u rv h hv hu Q f
  cases d <;> cases e <;> simp only [binD] at h <;> try cases h
  cases hv; cases hu; exact ⟨_, _, rfl, rfl, fin_val S f rfl⟩
theorem bin_mod : ∃ r, OpR X (binaryOp .Mod) r ∧ OpB X r (binD .mod) := by
  refine ⟨_, op_mod, ?_⟩
  intro B env σ Hb H S d e v u rv h hv hu Q f
  cases d <;> cases e <;> simp only [binD] at h <;> try cases h
  split at h
  · rename_i hl
    cases h; cases hv; cases hu; exact ⟨_, _, rfl, rfl, hl, fin_val S f rfl⟩
  · cases h
theorem bin_div : ∃ r, OpR X (binaryOp .FloorDiv) r ∧ OpB X r (binD .div) := by
  refine ⟨_, op_fdivW, ?_⟩
  intro B env σ Hb H S d e v u rv h hv hu Q f
  cases d <;> cases e <;> simp only [binD] at h <;> try cases h
  split at h
  · rename_i hl
    cases h; cases hv; cases hu; exact ⟨_, _, rfl, rfl, hl, fin_val S f rfl⟩
  · cases h
theorem bin_pow : ∃ r, OpR X (binaryOp .Pow) r ∧ OpB X r (binD .pow) := by
  refine ⟨rI (fun i j => 0 ≤ j ∧ (Builtin.Int.intBits i : Int) * j ≤ 2 ^ 27) fun i j => .int (i ^ j.toNat), opI fun i j t u Q E s hc q => pow_int hc.1 hc.2 q, ?_⟩
  intro B env σ Hb H S d e v u rv h hv hu Q f
  cases d <;> cases e <;> simp only [binD] at h <;> try cases h
  split at h
  · rename_i hl
    cases h; cases hv; cases hu; exact ⟨_, _, rfl, rfl, hl, fin_val S f rfl⟩
  · cases h
theorem bin_mul : ∃ r, OpR X (binaryOp .Mult) r ∧ OpB X r (binD .mul) := by
  refine ⟨_, (op_mul.or op_mulW).or op_rep, ?_⟩
  intro B env σ Hb H S d e v u rv h hv hu Q f
  cases d <;> cases e <;> simp only [binD] at h <;> try cases h
  · rename_i i j
    split at h
    · rename_i hl
      cases h; cases hv; cases hu
      unfold mulOk at hl
      simp only [Bool.or_eq_true, decide_eq_true_eq] at hl
      rcases hl with (hl | hl) | hl
      · exact .inl (.inl ⟨_, _, rfl, rfl, .inl hl, fin_val S f rfl⟩)
      · exact .inl (.inl ⟨_, _, rfl, rfl, .inr hl, fin_val S f rfl⟩)
      · exact .inl (.inr ⟨_, _, rfl, rfl, hl, fin_val S f rfl⟩)
    · cases h
  · rename_i a k
    split at h
    · rename_i hl
      cases h
      obtain ⟨x, xs, rfl, h1, h2⟩ := hv
      cases hu
      obtain ⟨l1, l2, l3⟩ := hl
      refine .inr ⟨x, k, xs, rfl, rfl, h1, by omega, by omega, by rw [← h2.length]; exact lim_le l3, fun p hp => ?_⟩
      obtain ⟨S', rv⟩ := S.madeL hp (h2.rep k.toNat)
      exact f _ _ _ S' (Le.refl _) rv
    · cases h
theorem bin_op {op : Operator} {o : Bop} (h : bopOf op = some o) : ∃ r, OpR X (binaryOp op) r ∧ OpB X r (binD o) := by
  cases op <;> simp [bopOf] at h <;> subst h
  · exact bin_add
  · exact bin_sub
  · exact bin_mul
  · exact bin_mod
  · exact bin_pow
  · exact bin_div

/-! ### data as the library's -/
mutual
theorem Rp.dp {K : Fg} {H : Hp} : ∀ (d : D) (v : V), (toPy d).canLay0 = true → Rp K H d v → Dp K H v (toPy d)
  | .non, _, _, h => by cases h; exact .non
  | .bl b, _, _, h => by cases h; exact .bl b
  | .int i, _, _, h => by cases h; exact .int i
  | .str x, _, _, h => by cases h; exact .str x
  | .lst ds, _, c, ⟨a, xs, h1, h2, h3⟩ => by
    subst h1
    exact .lst (SqL.of h2) (RpAll.dp ds xs (by simpa [toPy, PyData.canLay0] using c) h3)
  | .tup ds, _, c, ⟨a, xs, h1, h2, h3⟩ => by
    subst h1
    exact .tup h2 (RpAll.dp ds xs (by simpa [toPy, PyData.canLay0] using c) h3)
  | .frz ds, _, c, ⟨a, xs, h1, h2, h3⟩ => by
    subst h1
    exact .lst h2 (RpAll.dp ds xs (by simpa [toPy, PyData.canLay0] using c) h3)
  | .dK _ _, _, c, _ => by simp [toPy, PyData.canLay0] at c
  | .dT _ _, _, c, _ => by simp [toPy, PyData.canLay0] at c
theorem RpAll.dp {K : Fg} {H : Hp} : ∀ (ds : List D) (xs : List V), PyData.canLayAll0 (toPys ds) = true → RpAll K H ds xs → DpAll K H xs (toPys ds)
  | [], _, _, h => by cases h; exact .nil
  | d :: ds, _, c, ⟨y, ys, h1, h2, h3⟩ => by
    subst h1
    have c' : (toPy d).canLay0 = true ∧ PyData.canLayAll0 (toPys ds) = true := by simpa [toPys, PyData.canLayAll0] using c
    exact .cons (Rp.dp d y c'.1 h2) (RpAll.dp ds ys c'.2 h3)
end
theorem Vw.dp {K : Fg} {Hb H : Hp} (e : Le Hb H) {d : D} {v : V} (c : okPy d = true) (h : Vw K Hb H d v) : Dp K H v (toPy d) := Rp.dp d v (SeqAt.canLay_of_shaped c) (h.rp e)

/-! ### comparisons -/
def OpC (X : Cx) (r : R2) (g : D → D → Option Bool) : Prop := ∀ (Hb H : Hp), Le Hb H → ∀ (d e : D) (v u : V) (b : Bool), g d e = some b → Vw X.K Hb H d v → Vw X.K Hb H e u → ∀ Q : VK, Q (.bl b) H → r v u H Q
theorem eqP_is {d e : D} {b : Bool} (h : eqP d e = some b) : okPy d = true ∧ okPy e = true ∧ b = PyData.eqv (toPy d) (toPy e) := by
  unfold eqP at h
  split at h
  · rename_i c
    cases h
    rw [Bool.and_eq_true] at c
    exact ⟨c.1, c.2, rfl⟩
  · cases h
theorem eqD_cases {d e : D} {b : Bool} (h : eqD d e = some b) : (∃ x y, d = .str x ∧ e = .str y ∧ b = (x == y)) ∨ (∃ x y, d = .int x ∧ e = .int y ∧ b = (x == y)) ∨ (∃ x y, d = .lst x ∧ e = .lst y ∧ x.length ≠ y.length ∧ b = false) ∨
    (∃ x y, d = .tup x ∧ e = .tup y ∧ (x = [] ∨ y = []) ∧ b = decide (x.length = y.length)) ∨ (okPy d = true ∧ okPy e = true ∧ b = PyData.eqv (toPy d) (toPy e)) := by
  unfold eqD at h
  split at h
  · cases h; exact .inl ⟨_, _, rfl, rfl, rfl⟩
  · cases h; exact .inr (.inl ⟨_, _, rfl, rfl, rfl⟩)
  · rename_i x y
    split at h
    · rename_i hl
      cases h
      exact .inr (.inr (.inl ⟨x, y, rfl, rfl, hl, rfl⟩))
    · exact .inr (.inr (.inr (.inr (eqP_is h))))
  · rename_i x y
    split at h
    · rename_i hl
      cases h
      refine .inr (.inr (.inr (.inl ⟨x, y, rfl, rfl, ?_, ?_⟩)))
      · simpa [List.isEmpty_iff] using hl
      · cases x <;> cases y <;> simp at hl ⊢
    · exact .inr (.inr (.inr (.inr (eqP_is h))))
  · exact .inr (.inr (.inr (.inr (eqP_is h))))
def rLen2 (K : Fg) (f : Bool → Bool) : R2 := fun x y H Q => ∃ a c xs ys, x = .ref a ∧ y = .ref c ∧ ((SqL K H a xs ∧ SqL K H c ys ∧ xs.length ≠ ys.length ∧ Q (.bl (f false)) H) ∨ (SqT K H a xs ∧ SqT K H c ys ∧ (xs = [] ∨ ys = []) ∧ Q (.bl (f (decide (xs.length = ys.length)))) H))
theorem min_nil {α : Type} {xs ys : List α} (h : xs = [] ∨ ys = []) : min xs.length ys.length = 0 := by
  rcases h with h | h <;> subst h <;> simp
theorem op_eqE (hu : X.A.units < cLine) : OpR X (compareOp .Eq) (rLen2 X.K fun b => b) := by
  intro pins s σ H x y v u Q I rx ry h
  obtain ⟨a, c, xs, ys, rfl, rfl, h⟩ := h
  cases rx
  cases ry
  rcases h with ⟨h1, h2, hl, q⟩ | ⟨h1, h2, hl, q⟩
  · obtain ⟨is, r1, p1, _⟩ := I.list h1
    obtain ⟨js, r2, p2, _⟩ := I.list h2
    exact SeqAt.eq_list_lengthsAt p1.isList p2.isList (by simp only [List.size_toArray, bne_iff_ne, ne_eq]; rw [← r1.length, ← r2.length]; exact hl) hu ⟨.bl false, H, I, rfl, q⟩
  · obtain ⟨is, r1, p1, _⟩ := I.tuple h1
    obtain ⟨js, r2, p2, _⟩ := I.tuple h2
    have m : min is.length js.length = 0 := by rw [← r1.length, ← r2.length]; exact min_nil hl
    have e1 : s.heap.IsTuple a is.toArray := p1
    have e2 : s.heap.IsTuple c js.toArray := p2
    refine SeqAt.eq_tupleAt (e := fun _ => true) e1 e2 hu (fun j j1 j2 => ?_) ⟨.bl _, H, I, rfl, ?_⟩
    · simp only [List.size_toArray] at j1 j2; omega
    · have z : ((List.range (min is.toArray.size js.toArray.size)).all (fun _ => true) && is.toArray.size == js.toArray.size) = decide (xs.length = ys.length) := by
        simp only [List.size_toArray, m]
        rw [r1.length, r2.length]
        rfl
      rw [z]; exact q
theorem op_neE (hu : X.A.units < cLine) : OpR X (compareOp .NotEq) (rLen2 X.K fun b => !b) := by
  intro pins s σ H x y v u Q I rx ry h
  obtain ⟨a, c, xs, ys, rfl, rfl, h⟩ := h
  cases rx
  cases ry
  rcases h with ⟨h1, h2, hl, q⟩ | ⟨h1, h2, hl, q⟩
  · obtain ⟨is, r1, p1, _⟩ := I.list h1
    obtain ⟨js, r2, p2, _⟩ := I.list h2
    exact SeqAt.RcNeAt.lists_lengths p1.isList p2.isList (by simp only [List.size_toArray, bne_iff_ne, ne_eq]; rw [← r1.length, ← r2.length]; exact hl) hu X.prog X.w _ _ ⟨.bl true, H, I, rfl, q⟩
  · obtain ⟨is, r1, p1, _⟩ := I.tuple h1
    obtain ⟨js, r2, p2, _⟩ := I.tuple h2
    have m : min is.length js.length = 0 := by rw [← r1.length, ← r2.length]; exact min_nil hl
    have e1 : s.heap.IsTuple a is.toArray := p1
    have e2 : s.heap.IsTuple c js.toArray := p2
    refine SeqAt.RcNeAt.tuples (e := fun _ => true) e1 e2 hu (fun j j1 j2 => ?_) X.prog X.w _ _ ⟨.bl _, H, I, rfl, ?_⟩
    · simp only [List.size_toArray] at j1 j2; omega
    · have z : ((List.range (min is.toArray.size js.toArray.size)).all (fun _ => true) && is.toArray.size == js.toArray.size) = decide (xs.length = ys.length) := by
        simp only [List.size_toArray, m]
        rw [r1.length, r2.length]
        rfl
      rw [z]; exact q
theorem cmp_eq (hu : X.A.units + 64 < cLine) : ∃ r, OpR X (compareOp .Eq) r ∧ OpC X r (cmpD .eq) := by
  refine ⟨_, (op_eq.or (op_eqD hu)).or (op_eqE (by omega)), fun Hb H le d e v u b h hv hu' Q q => ?_⟩
  rcases eqD_cases (show eqD d e = some b by cases d <;> exact h) with ⟨x, y, rfl, rfl, rfl⟩ | ⟨x, y, rfl, rfl, rfl⟩ | ⟨x, y, rfl, rfl, hl, rfl⟩ | ⟨x, y, rfl, rfl, hl, rfl⟩ | ⟨c1, c2, rfl⟩
  · cases hv; cases hu'
    exact .inl (.inl ⟨rfl, by rw [dec_str]; exact q⟩)
  · cases hv; cases hu'
    exact .inl (.inl ⟨rfl, by rw [dec_int]; exact q⟩)
  · obtain ⟨a, xs, rfl, h1, h2⟩ := hv
    obtain ⟨c, ys, rfl, h3, h4⟩ := hu'
    exact .inr ⟨a, c, xs, ys, rfl, rfl, .inl ⟨SqL.of h1, SqL.of h3, by rw [← h2.length, ← h4.length]; exact hl, q⟩⟩
  · obtain ⟨a, xs, rfl, h1, h2⟩ := hv
    obtain ⟨c, ys, rfl, h3, h4⟩ := hu'
    refine .inr ⟨a, c, xs, ys, rfl, rfl, .inr ⟨le.sqt h1, le.sqt h3, ?_, by rw [← h2.length, ← h4.length]; exact q⟩⟩
    rcases hl with hl | hl <;> subst hl
    · exact .inl h2
    · exact .inr h4
  · exact .inl (.inr ⟨_, _, hv.dp le c1, hu'.dp le c2, c1, c2, q⟩)
theorem cmp_ne (hu : X.A.units + 64 < cLine) : ∃ r, OpR X (compareOp .NotEq) r ∧ OpC X r (cmpD .ne) := by
  refine ⟨_, (op_ne.or (op_neD hu)).or (op_neE (by omega)), fun Hb H le d e v u b h hv hu' Q q => ?_⟩
  have h' : (eqD d e).map (!·) = some b := by cases d <;> exact h
  obtain ⟨b', hb, rfl⟩ := Option.map_eq_some_iff.mp h'
  rcases eqD_cases hb with ⟨x, y, rfl, rfl, rfl⟩ | ⟨x, y, rfl, rfl, rfl⟩ | ⟨x, y, rfl, rfl, hl, rfl⟩ | ⟨x, y, rfl, rfl, hl, rfl⟩ | ⟨c1, c2, rfl⟩
  · cases hv; cases hu'
    exact .inl (.inl ⟨rfl, by rw [dec_str]; exact q⟩)
  · cases hv; cases hu'
    exact .inl (.inl ⟨rfl, by rw [dec_int]; exact q⟩)
  · obtain ⟨a, xs, rfl, h1, h2⟩ := hv
    obtain ⟨c, ys, rfl, h3, h4⟩ := hu'
    exact .inr ⟨a, c, xs, ys, rfl, rfl, .inl ⟨SqL.of h1, SqL.of h3, by rw [← h2.length, ← h4.length]; exact hl, q⟩⟩
  · obtain ⟨a, xs, rfl, h1, h2⟩ := hv
    obtain ⟨c, ys, rfl, h3, h4⟩ := hu'
    refine .inr ⟨a, c, xs, ys, rfl, rfl, .inr ⟨le.sqt h1, le.sqt h3, ?_, by rw [← h2.length, ← h4.length]; exact q⟩⟩
    rcases hl with hl | hl <;> subst hl
    · exact .inl h2
    · exact .inr h4
  · exact .inl (.inr ⟨_, _, hv.dp le c1, hu'.dp le c2, c1, c2, q⟩)
theorem cmp_lt : ∃ r, OpR X (compareOp .Lt) r ∧ OpC X r (cmpD .lt) := by
  refine ⟨_, op_lt, fun Hb H le d e v u b h hv hu' Q q => ?_⟩
  cases d <;> cases e <;> simp only [cmpD] at h <;> try cases h
  cases hv; cases hu'; exact ⟨_, _, rfl, rfl, q⟩
theorem cmp_le : ∃ r, OpR X (compareOp .LtE) r ∧ OpC X r (cmpD .le) := by
  refine ⟨_, op_le, fun Hb H le d e v u b h hv hu' Q q => ?_⟩
  cases d <;> cases e <;> simp only [cmpD] at h <;> try cases h
  cases hv; cases hu'; exact ⟨_, _, rfl, rfl, q⟩
theorem cmp_gt : ∃ r, OpR X (compareOp .Gt) r ∧ OpC X r (cmpD .gt) := by
  refine ⟨_, op_gt, fun Hb H le d e v u b h hv hu' Q q => ?_⟩
  cases d <;> cases e <;> simp only [cmpD] at h <;> try cases h
  cases hv; cases hu'; exact ⟨_, _, rfl, rfl, q⟩
theorem cmp_ge : ∃ r, OpR X (compareOp .GtE) r ∧ OpC X r (cmpD .ge) := by
  refine ⟨_, op_ge, fun Hb H le d e v u b h hv hu' Q q => ?_⟩
  cases d <;> cases e <;> simp only [cmpD] at h <;> try cases h
  cases hv; cases hu'; exact ⟨_, _, rfl, rfl, q⟩
theorem non_iff {K : Fg} {Hb H : Hp} {d : D} {v : V} (h : Vw K Hb H d v) : decide (v = .non) = isNon d := by
  cases d with
  | non => cases h; rfl
  | bl b => cases h; rfl
  | int b => cases h; rfl
  | str b => cases h; rfl
  | lst ds => obtain ⟨a, xs, rfl, _⟩ := h; rfl
  | tup ds => obtain ⟨a, xs, rfl, _⟩ := h; rfl
  | frz ds => obtain ⟨a, xs, rfl, _⟩ := h; rfl
  | dK _ ds => obtain ⟨a, xs, rfl, _⟩ := h; rfl
  | dT _ ds => obtain ⟨a, xs, rfl, _⟩ := h; rfl
theorem cmp_is : ∃ r, OpR X (compareOp .Is) r ∧ OpC X r (cmpD .is) := by
  refine ⟨_, op_isN.or op_isBl, fun Hb H le d e v u b h hv hu' Q q => ?_⟩
  cases e with
  | non =>
    have h' : some (isNon d) = some b := by cases d <;> exact h
    cases h'
    exact .inl ⟨hu', by rw [non_iff hv]; exact q⟩
  | bl b' =>
    cases d <;> simp only [cmpD] at h <;> try cases h
    exact .inr ⟨_, _, hv, hu', q⟩
  | _ => cases d <;> simp only [cmpD] at h <;> cases h
theorem cmp_isn : ∃ r, OpR X (compareOp .IsNot) r ∧ OpC X r (cmpD .isn) := by
  refine ⟨_, op_notN.or op_notBl, fun Hb H le d e v u b h hv hu' Q q => ?_⟩
  cases e with
  | non =>
    have h' : some (!isNon d) = some b := by cases d <;> exact h
    cases h'
    exact .inl ⟨hu', by rw [non_iff hv]; exact q⟩
  | bl b' =>
    cases d <;> simp only [cmpD] at h <;> try cases h
    exact .inr ⟨_, _, hv, hu', q⟩
  | _ => cases d <;> simp only [cmpD] at h <;> cases h
theorem flat_is {K : Fg} {Hb : Hp} {d : D} {v w : V} (h : flatD d = some w) (r : Rp K Hb d v) : v = w ∧ flatV w = true := by
  cases d <;> simp only [flatD] at h <;> cases h <;> exact ⟨r, rfl⟩
theorem flats_is {K : Fg} {Hb : Hp} : ∀ {ds : List D} {xs ws : List V}, flatDs ds = some ws → RpAll K Hb ds xs → xs = ws ∧ ws.all flatV = true
  | [], _, _, h, r => by cases h; cases r; exact ⟨rfl, rfl⟩
  | d :: ds, _, _, h, ⟨y, ys, e, r1, r2⟩ => by
    unfold flatDs at h
    split at h
    · rename_i v vs h1 h2
      cases h
      obtain ⟨e1, f1⟩ := flat_is h1 r1
      obtain ⟨e2, f2⟩ := flats_is h2 r2
      subst e e1 e2
      exact ⟨rfl, by simp [f1, f2]⟩
    · cases h
theorem memD_is {K : Fg} {Hb H : Hp} {d : D} {ds : List D} {v : V} {xs : List V} {b : Bool} (h : memD d ds = some b) (hv : Vw K Hb H d v) (hx : RpAll K Hb ds xs) : flatV v = true ∧ xs.all flatV = true ∧ inV v xs = b := by
  unfold memD at h
  split at h
  · rename_i w ws h1 h2
    cases h
    have hv' : Rp K Hb d v := by cases d <;> first | exact hv | cases h1
    obtain ⟨e1, f1⟩ := flat_is h1 hv'
    obtain ⟨e2, f2⟩ := flats_is h2 hx
    subst e1 e2
    exact ⟨f1, f2, rfl⟩
  · cases h
theorem cmp_mem : ∃ r, OpR X (compareOp .In) r ∧ OpC X r (cmpD .mem) := by
  refine ⟨_, op_in_seq, fun Hb H le d e v u b h hv hu' Q q => ?_⟩
  cases e with
  | lst ds =>
    have h' : memD d ds = some b := by cases d <;> exact h
    obtain ⟨a, xs, rfl, h1, h2⟩ := hu'
    obtain ⟨f1, f2, e⟩ := memD_is h' hv h2
    exact ⟨a, xs, rfl, .inl (SqL.of h1), f1, f2, by rw [e]; exact q⟩
  | tup ds =>
    have h' : memD d ds = some b := by cases d <;> exact h
    obtain ⟨a, xs, rfl, h1, h2⟩ := hu'
    obtain ⟨f1, f2, e⟩ := memD_is h' hv h2
    exact ⟨a, xs, rfl, .inr (le.sqt h1), f1, f2, by rw [e]; exact q⟩
  | _ => cases d <;> simp only [cmpD] at h <;> cases h
theorem cmp_nmem : ∃ r, OpR X (compareOp .NotIn) r ∧ OpC X r (cmpD .nmem) := by
  refine ⟨_, op_notIn_seq, fun Hb H le d e v u b h hv hu' Q q => ?_⟩
  cases e with
  | lst ds =>
    have h' : (memD d ds).map (!·) = some b := by cases d <;> exact h
    obtain ⟨b', hb, rfl⟩ := Option.map_eq_some_iff.mp h'
    obtain ⟨a, xs, rfl, h1, h2⟩ := hu'
    obtain ⟨f1, f2, e⟩ := memD_is hb hv h2
    exact ⟨a, xs, rfl, .inl (SqL.of h1), f1, f2, by rw [e]; exact q⟩
  | tup ds =>
    have h' : (memD d ds).map (!·) = some b := by cases d <;> exact h
    obtain ⟨b', hb, rfl⟩ := Option.map_eq_some_iff.mp h'
    obtain ⟨a, xs, rfl, h1, h2⟩ := hu'
    obtain ⟨f1, f2, e⟩ := memD_is hb hv h2
    exact ⟨a, xs, rfl, .inr (le.sqt h1), f1, f2, by rw [e]; exact q⟩
  | _ => cases d <;> simp only [cmpD] at h <;> cases h
theorem cmp_op (hu : X.A.units + 64 < cLine) {op : CmpOp} {o : Cop} (h : copOf op = some o) : ∃ r, OpR X (compareOp op) r ∧ OpC X r (cmpD o) := by
  cases op <;> simp [copOf] at h <;> subst h
  · exact cmp_eq hu
  · exact cmp_ne hu
  · exact cmp_lt
  · exact cmp_le
  · exact cmp_gt
  · exact cmp_ge
  · exact cmp_is
  · exact cmp_isn
  · exact cmp_mem
  · exact cmp_nmem
end
end HB

set_option Elab.async false
set_option linter.all false
set_option maxRecDepth 100000
set_option maxHeartbeats 2000000
/-! HBSnd3: the machine's own functions and methods. -/
namespace HB
open PySem PySem.Spec PyProof.Rows L2

def VwAll (K : Fg) (Hb H : Hp) : List D → List V → Prop
  | [], vs => vs = []
  | d :: ds, vs => ∃ v vs', vs = v :: vs' ∧ Vw K Hb H d v ∧ VwAll K Hb H ds vs'
theorem Stt.views {K : Fg} {B : Bs} {env : Evn} {σ : L2.St} {Hb H : Hp} (S : Stt K B env σ Hb H) : ∀ {rs : List RV} {vs : List V} {ds : List D}, RVsOk K B env σ Hb H rs vs → opds env rs = some ds → VwAll K Hb H ds vs
  | [], _, _, h, e => by cases e; exact h
  | r :: rs, _, ds, ⟨v, vs, h1, h2, h3, h4⟩, e => by
    unfold opds at e
    split at e
    · rename_i d ds' e1 e2
      cases e
      exact ⟨v, vs, h1, S.view h2 e1, S.views h4 e2⟩
    · cases e
theorem VwAll.one {K : Fg} {Hb H : Hp} {d : D} {vs : List V} (h : VwAll K Hb H [d] vs) : ∃ v, vs = [v] ∧ Vw K Hb H d v := by
  obtain ⟨v, vs', rfl, h1, h2⟩ := h
  cases h2
  exact ⟨v, rfl, h1⟩
theorem VwAll.two {K : Fg} {Hb H : Hp} {d e : D} {vs : List V} (h : VwAll K Hb H [d, e] vs) : ∃ v u, vs = [v, u] ∧ Vw K Hb H d v ∧ Vw K Hb H e u := by
  obtain ⟨v, vs', rfl, h1, h2⟩ := h
  obtain ⟨u, rfl, h3⟩ := h2.one
  exact ⟨v, u, rfl, h1, h3⟩
/-- a function by values, as g says -/
def OpA (X : Cx) (r : List V → Hp → VK → Prop) (g : List D → Option RV) : Prop := ∀ (B : Bs) (env : Evn) (σ : L2.St) (Hb H : Hp), Stt X.K B env σ Hb H → ∀ (ds : List D) (vs : List V) (rv : RV), g ds = some rv → VwAll X.K Hb H ds vs → ∀ Q : VK, Fin X.K B env σ Hb Q rv → r vs H Q
theorem ints_is {K : Fg} {Hb : Hp} : ∀ {ds : List D} {xs : List V} {is : List Int}, intsD ds = some is → RpAll K Hb ds xs → xs = is.map V.int
  | [], _, _, h, r => by cases h; cases r; rfl
  | d :: ds, _, _, h, ⟨y, ys, e, r1, r2⟩ => by
    unfold intsD at h
    split at h
    · rename_i i is h1 h2
      cases h
      subst e
      rw [ints_is h2 r2]
      cases d <;> simp only [intD] at h1 <;> cases h1
      cases r1
      rfl
    · cases h
theorem bls_is {K : Fg} {Hb : Hp} : ∀ {ds : List D} {xs : List V} {bs : List Bool}, blsD ds = some bs → RpAll K Hb ds xs → xs = bs.map V.bl
  | [], _, _, h, r => by cases h; cases r; rfl
  | d :: ds, _, _, h, ⟨y, ys, e, r1, r2⟩ => by
    cases d <;> simp only [blsD] at h <;> try cases h
    rename_i b
    obtain ⟨bs', hb, rfl⟩ := Option.map_eq_some_iff.mp h
    subst e
    rw [bls_is hb r2]
    cases r1
    rfl
theorem rp_ints {K : Fg} {Hb : Hp} : ∀ (is : List Int), RpAll K Hb (is.map D.int) (is.map V.int)
  | [] => rfl
  | i :: is => ⟨_, _, rfl, rfl, rp_ints is⟩
/-! sorting -/
theorem insI_perm (i : Int) : ∀ l : List Int, (insI i l).Perm (i :: l)
  | [] => .refl _
  | j :: r => by
    unfold insI
    split
    · exact .refl _
    · exact (List.Perm.cons j (insI_perm i r)).trans (List.Perm.swap i j r)
theorem sortI_perm : ∀ l : List Int, (sortI l).Perm l
  | [] => .refl _
  | i :: r => (insI_perm i (sortI r)).trans (List.Perm.cons i (sortI_perm r))
theorem insI_sorted (i : Int) : ∀ l : List Int, l.Pairwise (· ≤ ·) → (insI i l).Pairwise (· ≤ ·)
  | [], _ => by simp [insI]
  | j :: r, h => by
    unfold insI
    have h' := List.pairwise_cons.mp h
    split
    · rename_i hij
      refine List.pairwise_cons.mpr ⟨fun x hx => ?_, h⟩
      rcases List.mem_cons.mp hx with e | hx
      · subst e; exact hij
      · exact Int.le_trans hij (h'.1 x hx)
    · rename_i hij
      refine List.pairwise_cons.mpr ⟨fun x hx => ?_, insI_sorted i r h'.2⟩
      have hx' := (insI_perm i r).mem_iff.mp hx
      rcases List.mem_cons.mp hx' with e | hx'
      · subst e; omega
      · exact h'.1 x hx'
theorem sortI_sorted : ∀ l : List Int, (sortI l).Pairwise (· ≤ ·)
  | [] => .nil
  | i :: r => insI_sorted i _ (sortI_sorted r)
theorem sorted_uniq : ∀ {a b : List Int}, a.Perm b → a.Pairwise (· ≤ ·) → b.Pairwise (· ≤ ·) → a = b
  | [], b, p, _, _ => (List.nil_perm.mp p).symm
  | x :: a, [], p, _, _ => by simp at p
  | x :: a, y :: b, p, ha, hb => by
    have ha' := List.pairwise_cons.mp ha
    have hb' := List.pairwise_cons.mp hb
    have e : x = y := by
      have h1 : x ∈ y :: b := p.mem_iff.mp List.mem_cons_self
      have h2 : y ∈ x :: a := p.mem_iff.mpr List.mem_cons_self
      rcases List.mem_cons.mp h1 with e | h1
      · exact e
      · rcases List.mem_cons.mp h2 with e | h2
        · exact e.symm
        · exact Int.le_antisymm (ha'.1 y h2) (hb'.1 x h1)
    subst e
    rw [sorted_uniq (List.Perm.cons_inv p) ha'.2 hb'.2]
theorem sorted_is {a b : List Int} (p : a.Perm b) (h : a.Pairwise (· ≤ ·)) : a = sortI b := sorted_uniq (p.trans (sortI_perm b).symm) h (sortI_sorted b)
section
variable {X : Cx}
/-- the machine's function x -/
structure BltOk (X : Cx) (x : Str) (r : List V → Hp → VK → Prop) : Prop where
  pe : ∀ (e : Expr) (es : List Expr) (t : TA) (p pos : Pos), Gl X x → X.mg x = none → allPlain (e :: es) = true → PA X (e :: es) t → PE X (.Call (.Name x p) (e :: es) [] pos) (tCB r t)
theorem blt_b {x : Str} {id : String} {r : List V → Hp → VK → Prop} (hc : CallR X (.builtin id) r) (hv : bootBuiltins x = some (.builtin id)) (hn : x ≠ "__name__" := by decide) (hd : (x == ("__debug__" : Str)) = false := by decide) : BltOk X x r :=
  ⟨fun e es t p pos hg hm hp ha => by
    have h' : notStar e = true ∧ allPlain es = true := by simpa [allPlain] using hp
    exact pe_callB hc hg hm hv ha hn hd (starEach_plain h'.1) (backTo_plain h'.2)⟩
theorem blt_t {x : Str} {T : String} {r : List V → Hp → VK → Prop} (hc : CallR X (.type T) r) (hv : bootBuiltins x = some (.type T)) (hn : x ≠ "__name__" := by decide) (hd : (x == ("__debug__" : Str)) = false := by decide) : BltOk X x r :=
  ⟨fun e es t p pos hg hm hp ha => by
    have h' : notStar e = true ∧ allPlain es = true := by simpa [allPlain] using hp
    exact pe_callTy hc hg hm hv ha hn hd (starEach_plain h'.1) (backTo_plain h'.2)⟩
theorem call_no (f : Value) : CallR X f (fun _ _ _ => False) := fun _ _ _ _ _ _ _ _ _ h => h.elim
theorem or_len : CallR X (.builtin "len") (fun xs H Q => (∃ p ys, xs = [.ref p] ∧ (SqL X.K H p ys ∨ SqT X.K H p ys) ∧ Q (.int ys.length) H)) := call_len_seq
theorem blt_len : ∃ r, BltOk X "len" r ∧ OpA X r (bltD .len) := by
  refine ⟨_, blt_b call_len_seq PySem.boot_len, fun B env σ Hb H S ds vs rv h hv Q f => ?_⟩
  match ds, h with
  | [.lst ds], h =>
    cases h
    obtain ⟨v, rfl, a, xs, rfl, h1, h2⟩ := hv.one
    exact ⟨a, xs, rfl, .inl (SqL.of h1), by rw [← h2.length]; exact fin_val S f rfl⟩
  | [.tup ds], h =>
    cases h
    obtain ⟨v, rfl, a, xs, rfl, h1, h2⟩ := hv.one
    exact ⟨a, xs, rfl, .inr (S.sub.sqt h1), by rw [← h2.length]; exact fin_val S f rfl⟩
  | [.frz ds], h =>
    cases h
    obtain ⟨v, rfl, a, xs, rfl, h1, h2⟩ := hv.one
    exact ⟨a, xs, rfl, .inl (S.sub.sql h1), by rw [← h2.length]; exact fin_val S f rfl⟩
theorem blt_int : ∃ r, BltOk X "int" r ∧ OpA X r (bltD .int) := by
  refine ⟨_, blt_t call_int1 PyProof.Rows.boot_int, fun B env σ Hb H S ds vs rv h hv Q f => ?_⟩
  match ds, h with
  | [.int i], h =>
    cases h
    obtain ⟨v, rfl, h1⟩ := hv.one
    cases h1
    exact .inl ⟨_, rfl, fin_val S f rfl⟩
  | [.bl b], h =>
    cases h
    obtain ⟨v, rfl, h1⟩ := hv.one
    cases h1
    exact .inr ⟨_, rfl, fin_val S f rfl⟩
theorem blt_abs : ∃ r, BltOk X "abs" r ∧ OpA X r (bltD .abs) := by
  refine ⟨_, blt_b call_abs (by decide +kernel), fun B env σ Hb H S ds vs rv h hv Q f => ?_⟩
  match ds, h with
  | [.int i], h =>
    cases h
    obtain ⟨v, rfl, h1⟩ := hv.one
    cases h1
    exact ⟨_, rfl, fin_val S f rfl⟩
theorem blt_max2 (hc : X.calm = true) : ∃ r, BltOk X "max" r ∧ OpA X r (bltD .max2) := by
  refine ⟨_, blt_b (call_max2 hc) PyProof.Rows.boot_max, fun B env σ Hb H S ds vs rv h hv Q f => ?_⟩
  match ds, h with
  | [.int i, .int j], h =>
    cases h
    obtain ⟨v, u, rfl, h1, h2⟩ := hv.two
    cases h1; cases h2
    exact ⟨_, _, rfl, fin_val S f rfl⟩
theorem blt_min2 (hc : X.calm = true) : ∃ r, BltOk X "min" r ∧ OpA X r (bltD .min2) := by
  refine ⟨_, blt_b (call_min2 hc) PyProof.Rows.boot_min, fun B env σ Hb H S ds vs rv h hv Q f => ?_⟩
  match ds, h with
  | [.int i, .int j], h =>
    cases h
    obtain ⟨v, u, rfl, h1, h2⟩ := hv.two
    cases h1; cases h2
    exact ⟨_, _, rfl, fin_val S f rfl⟩
theorem one_lst {α : Type} {g : List D → Option α} {k : α → RV} {ds : List D} {rv : RV} (b : Blt) (hb : ∀ ds, bltD b ds = match ds with | [.lst ds] => (g ds).map k | _ => none) (h : bltD b ds = some rv) : ∃ es a, ds = [.lst es] ∧ g es = some a ∧ rv = k a := by
  rw [hb] at h
  split at h
  · rename_i es
    obtain ⟨a, h1, rfl⟩ := Option.map_eq_some_iff.mp h
    exact ⟨es, a, rfl, h1, rfl⟩
  · cases h
theorem blt_sum (hc : X.calm = true) : ∃ r, BltOk X "sum" r ∧ OpA X r (bltD .sum) := by
  refine ⟨_, blt_b (cr_sum hc) PyProof.Rows.boot_sum, fun B env σ Hb H S ds vs rv h hv Q f => ?_⟩
  obtain ⟨es, is, rfl, h1, rfl⟩ := one_lst (g := intsD) (k := fun is => .val (.int is.sum)) .sum (fun ds => by cases ds with | nil => rfl | cons d r => cases r <;> cases d <;> rfl) h
  obtain ⟨v, rfl, a, xs, rfl, h2, h3⟩ := hv.one
  rw [ints_is h1 h3] at h2
  exact ⟨a, is, rfl, SqL.of h2, fin_val S f rfl⟩
theorem blt_all (hc : X.calm = true) : ∃ r, BltOk X "all" r ∧ OpA X r (bltD .all) := by
  refine ⟨_, blt_b (cr_all hc) (by decide +kernel), fun B env σ Hb H S ds vs rv h hv Q f => ?_⟩
  obtain ⟨es, is, rfl, h1, rfl⟩ := one_lst (g := blsD) (k := fun bs => .val (.bl (bs.all id))) .all (fun ds => by cases ds with | nil => rfl | cons d r => cases r <;> cases d <;> rfl) h
  obtain ⟨v, rfl, a, xs, rfl, h2, h3⟩ := hv.one
  rw [bls_is h1 h3] at h2
  exact ⟨a, is, rfl, SqL.of h2, fin_val S f rfl⟩
theorem blt_any (hc : X.calm = true) : ∃ r, BltOk X "any" r ∧ OpA X r (bltD .any) := by
  refine ⟨_, blt_b (cr_any hc) (by decide +kernel), fun B env σ Hb H S ds vs rv h hv Q f => ?_⟩
  obtain ⟨es, is, rfl, h1, rfl⟩ := one_lst (g := blsD) (k := fun bs => .val (.bl (bs.any id))) .any (fun ds => by cases ds with | nil => rfl | cons d r => cases r <;> cases d <;> rfl) h
  obtain ⟨v, rfl, a, xs, rfl, h2, h3⟩ := hv.one
  rw [bls_is h1 h3] at h2
  exact ⟨a, is, rfl, SqL.of h2, fin_val S f rfl⟩
theorem blt_sorted : ∃ r, BltOk X "sorted" r ∧ OpA X r (bltD .sorted) := by
  refine ⟨_, blt_b cr_sortedI PyProof.Rows.boot_sorted, fun B env σ Hb H S ds vs rv h hv Q f => ?_⟩
  obtain ⟨es, is, rfl, h1, rfl⟩ := one_lst (g := intsD) (k := fun is => .fr (.lst ((sortI is).map D.int))) .sorted (fun ds => by cases ds with | nil => rfl | cons d r => cases r <;> cases d <;> rfl) h
  obtain ⟨v, rfl, a, xs, rfl, h2, h3⟩ := hv.one
  rw [ints_is h1 h3] at h2
  refine ⟨a, is, rfl, SqL.of h2, fun ns' p hp hs hn => ?_⟩
  rw [sorted_is hp hs]
  obtain ⟨S', rv⟩ := S.madeL hn (rp_ints (sortI is))
  exact f _ _ _ S' (Le.refl _) rv
theorem blt_list : ∃ r, BltOk X "list" r ∧ OpA X r (bltD .list) := by
  refine ⟨_, blt_t call_list_of PyProof.Rows.boot_list, fun B env σ Hb H S ds vs rv h hv Q f => ?_⟩
  match ds, h with
  | [.lst ds], h =>
    cases h
    obtain ⟨v, rfl, a, xs, rfl, h1, h2⟩ := hv.one
    refine ⟨a, xs, rfl, .inl (SqL.of h1), fun l hl => ?_⟩
    obtain ⟨S', rv⟩ := S.madeL hl h2
    exact f _ _ _ S' (Le.refl _) rv
  | [.tup ds], h =>
    cases h
    obtain ⟨v, rfl, a, xs, rfl, h1, h2⟩ := hv.one
    refine ⟨a, xs, rfl, .inr (S.sub.sqt h1), fun l hl => ?_⟩
    obtain ⟨S', rv⟩ := S.madeL hl h2
    exact f _ _ _ S' (Le.refl _) rv
theorem blt_tuple : ∃ r, BltOk X "tuple" r ∧ OpA X r (bltD .tuple) := by
  refine ⟨_, blt_t call_tuple_of PyProof.Rows.boot_tuple, fun B env σ Hb H S ds vs rv h hv Q f => ?_⟩
  match ds, h with
  | [.lst ds], h =>
    cases h
    obtain ⟨v, rfl, a, xs, rfl, h1, h2⟩ := hv.one
    refine ⟨a, xs, rfl, .inl ⟨SqL.of h1, fun l hl => ?_⟩⟩
    obtain ⟨Hb', le, S', rp⟩ := S.madeT hl h2
    exact f _ _ _ S' le rp
  | [.tup ds], h =>
    cases h
    obtain ⟨v, rfl, a, xs, rfl, h1, h2⟩ := hv.one
    exact ⟨a, xs, rfl, .inr ⟨S.sub.sqt h1, fin_val S f ⟨a, xs, rfl, h1, h2⟩⟩⟩
theorem blt_no {x : Str} {id : String} (hv : bootBuiltins x = some (.builtin id)) (b : Blt) (h : ∀ ds, bltD b ds = none) (hn : x ≠ "__name__" := by decide) (hd : (x == ("__debug__" : Str)) = false := by decide) : ∃ r, BltOk X x r ∧ OpA X r (bltD b) :=
  ⟨_, blt_b (call_no _) hv hn hd, fun B env σ Hb H S ds vs rv e => by rw [h] at e; cases e⟩
/-! repr -/
section
variable {pins : List (Addr × Obj)} {σ : L2.St} {H : Hp} {s : Shared}
theorem no_sys (I : L2.Inv X pins σ H s) (sm : ∃ o, X.base.get? sysModules = some o) {a : Addr} {u : HO} (h : H a = some u) : a ≠ sysModules := fun z => by
  obtain ⟨o, e⟩ := sm
  have := (I.bs _ _ e).2
  rw [← z, h] at this
  cases this
mutual
theorem Rp.reads (I : L2.Inv X pins σ H s) (sm : ∃ o, X.base.get? sysModules = some o) : ∀ (d : D) (v : V) (u : Value), reprOk d = true → Rp X.K H d v → RelV v u → ∃ as, Reads s.heap u (toPy d) as ∧ sysModules ∉ as
  | .non, _, _, _, h, r => by cases h; cases r; exact ⟨_, Reads.none, by simp⟩
  | .bl b, _, _, _, h, r => by cases h; cases r; exact ⟨_, Reads.bool b, by simp⟩
  | .int i, _, _, _, h, r => by cases h; obtain ⟨t, rfl⟩ := r; exact ⟨_, Reads.int i t, by simp⟩
  | .str x, _, _, _, h, r => by cases h; obtain ⟨t, rfl⟩ := r; exact ⟨_, Reads.str x t, by simp⟩
  | .lst ds, _, _, k, ⟨a, xs, h1, h2, h3⟩, r => by
    subst h1
    cases r
    obtain ⟨its, rv, ⟨o, n, ho, hc, _, hd⟩, _⟩ := I.list (SqL.of h2)
    obtain ⟨as, hr, ns⟩ := RpAll.reads I sm ds xs its (by simpa [reprOk] using k) h3 rv
    exact ⟨_, Reads.list ho hc hd hr, by
      simp only [List.mem_cons, not_or]
      exact ⟨fun z => no_sys I sm h2 z.symm, ns⟩⟩
  | .tup ds, _, _, k, ⟨a, xs, h1, h2, h3⟩, r => by
    subst h1
    cases r
    obtain ⟨its, rv, ⟨o, ho, hc, n, hd⟩, _⟩ := I.tuple h2
    obtain ⟨as, hr, ns⟩ := RpAll.reads I sm ds xs its (by simpa [reprOk] using k) h3 rv
    exact ⟨_, Reads.tuple ho hc hd hr, ns⟩
  | .frz ds, _, _, k, _, _ => by simp [reprOk] at k
  | .dK ks ds, _, _, k, ⟨a, xs, h1, h2, h4, h3⟩, r => by
    simp only [reprOk, Bool.and_eq_true, List.isEmpty_iff] at k
    obtain ⟨rfl, rfl⟩ := k
    cases h3
    subst h1
    cases r
    obtain ⟨_, hn, vs, kv, o, es, ep, e1, e2, e3, _, pr, _⟩ := I.hok a _ h2
    cases kv
    have e4 : es.toList = [] := List.length_eq_zero_iff.mp (by rw [pr.length]; rfl)
    exact ⟨_, Reads.dict (kvs := []) e1 e2.1 e3 (by rw [e4]; exact .nil) (by rw [e4]; exact .nil), by
      simp only [List.append_nil, List.mem_cons, not_or]
      exact ⟨fun z => no_sys I sm h2 z.symm, by simp⟩⟩
  | .dT ks ds, _, _, k, _, _ => by simp [reprOk] at k
theorem RpAll.reads (I : L2.Inv X pins σ H s) (sm : ∃ o, X.base.get? sysModules = some o) : ∀ (ds : List D) (xs : List V) (us : List Value), reprOks ds = true → RpAll X.K H ds xs → Vals xs us → ∃ as, ReadsAll s.heap us (toPys ds) as ∧ sysModules ∉ as
  | [], _, _, _, h, r => by cases h; cases r; exact ⟨_, ReadsAll.nil, by simp⟩
  | d :: ds, _, _, k, ⟨y, ys, h1, h2, h3⟩, r => by
    subst h1
    have k' : reprOk d = true ∧ reprOks ds = true := by simpa [reprOks] using k
    cases r with
    | cons r1 r2 =>
      obtain ⟨as, q1, n1⟩ := Rp.reads I sm d y _ k'.1 h2 r1
      obtain ⟨bs, q2, n2⟩ := RpAll.reads I sm ds ys _ k'.2 h3 r2
      exact ⟨_, ReadsAll.cons q1 q2, by simp [n1, n2]⟩
end
end
theorem reprD_is {d : D} {t : Str} (h : reprD d = some t) : reprOk d = true ∧ (toPy d).showable = true ∧ (toPy d).depth ≤ 64 ∧ (toPy d).shown.length ≤ LIM ∧ t = (toPy d).shown := by
  unfold reprD at h
  split at h
  · rename_i c
    cases h
    simp only [Bool.and_eq_true, decide_eq_true_eq] at c
    exact ⟨c.1.1.1, c.1.1.2, c.1.2, c.2, rfl⟩
  · cases h
theorem call_repr (hgd : X.A.guards = some []) (hu : X.A.units + 66 < cLine) (sm : ∃ o, X.base.get? sysModules = some o) : CallR X (.builtin "repr") (fun xs H Q => ∃ v d t, xs = [v] ∧ Rp X.K H d v ∧ reprD d = some t ∧ Q (.str t) H) := by
  intro pins s σ H xs us Q I r h
  obtain ⟨v, d, t, rfl, rp, hd, q⟩ := h
  obtain ⟨u, rfl, ru⟩ := r.one
  obtain ⟨k1, k2, k3, k4, rfl⟩ := reprD_is hd
  have deep : ∀ a, u = .ref a → wpAny (model X.prog X.w) X.A (call (.builtin "repr") [u]) (EP X pins σ Q) X.xe s := fun a e => by
    subst e
    obtain ⟨as, rd, ns⟩ := Rp.reads I sm d v _ k1 rp ru
    exact repr_of_reads' rd k2 (fun _ => ns) hgd (by omega) (fun _ _ z => z) (fun h' tk t' hk => ⟨.str _, H, I.kept (t' := t') hk, ⟨_, rfl⟩, q⟩) (lim_le k4)
  cases d with
  | non => cases rp; cases ru; exact PySem.P.repr_of_none ⟨.str _, H, I.tok _, ⟨_, rfl⟩, q⟩
  | bl b => cases rp; cases ru; exact PySem.P.repr_of_bool ⟨.str _, H, I.tok _, ⟨_, rfl⟩, q⟩
  | int i =>
    cases rp
    obtain ⟨tk, rfl⟩ := ru
    exact PySem.P.repr_of_int (by simpa [toPy, PyData.showable] using k2) ⟨.str _, H, I.tok _, ⟨_, rfl⟩, q⟩
  | str x =>
    cases rp
    obtain ⟨tk, rfl⟩ := ru
    exact PySem.P.repr_of_str ⟨.str _, H, I.tok _, ⟨_, rfl⟩, q⟩ (lim_le k4)
  | lst ds => obtain ⟨a, xs, rfl, _⟩ := rp; cases ru; exact deep a rfl
  | tup ds => obtain ⟨a, xs, rfl, _⟩ := rp; cases ru; exact deep a rfl
  | frz ds => simp [reprOk] at k1
  | dK ks ds => obtain ⟨a, xs, rfl, _⟩ := rp; cases ru; exact deep a rfl
  | dT ks ds => simp [reprOk] at k1
theorem blt_repr (hgd : X.A.guards = some []) (hu : X.A.units + 66 < cLine) (sm : ∃ o, X.base.get? sysModules = some o) : ∃ r, BltOk X "repr" r ∧ OpA X r (bltD .repr) := by
  refine ⟨_, blt_b (call_repr hgd hu sm) PyProof.Rows.boot_repr, fun B env σ Hb H S ds vs rv h hv Q f => ?_⟩
  match ds, h with
  | [d], h =>
    obtain ⟨t, ht, rfl⟩ := Option.map_eq_some_iff.mp (show (reprD d).map (fun x => RV.val (.str x)) = some rv from h)
    obtain ⟨v, rfl, hv1⟩ := hv.one
    exact ⟨v, d, t, rfl, Vw.rp S.sub hv1, ht, fin_val S f rfl⟩
theorem ite_or {α : Type} {c : Prop} [Decidable c] {x y a : α} (h : (if c then x else y) = a) : (c ∧ x = a) ∨ (¬ c ∧ y = a) := by
  by_cases e : c
  · rw [if_pos e] at h; exact .inl ⟨e, h⟩
  · rw [if_neg e] at h; exact .inr ⟨e, h⟩
theorem blt_ok {S : Sc} {x : Str} {n : Nat} {b : Blt} (hc : X.calm = true) (hgd : X.A.guards = some []) (hu : X.A.units + 66 < cLine) (sm : ∃ o, X.base.get? sysModules = some o) (h : bltOf S x n = some b) : S.bl x = true ∧ ∃ r, BltOk X x r ∧ OpA X r (bltD b) := by
  unfold bltOf at h
  rcases ite_or h with ⟨hb, h⟩ | ⟨_, h⟩
  · refine ⟨hb, ?_⟩
    rcases ite_or h with ⟨e, h⟩ | ⟨_, h⟩
    · cases h; rw [e.1]; exact blt_len
    rcases ite_or h with ⟨e, h⟩ | ⟨_, h⟩
    · cases h; rw [e.1]; exact blt_int
    rcases ite_or h with ⟨e, h⟩ | ⟨_, h⟩
    · cases h; rw [e.1]; exact blt_abs
    rcases ite_or h with ⟨e, h⟩ | ⟨_, h⟩
    · cases h; rw [e.1]; exact blt_max2 hc
    rcases ite_or h with ⟨e, h⟩ | ⟨_, h⟩
    · cases h; rw [e.1]; exact blt_min2 hc
    rcases ite_or h with ⟨e, h⟩ | ⟨_, h⟩
    · cases h; rw [e.1]; exact blt_sum hc
    rcases ite_or h with ⟨e, h⟩ | ⟨_, h⟩
    · cases h; rw [e.1]; exact blt_all hc
    rcases ite_or h with ⟨e, h⟩ | ⟨_, h⟩
    · cases h; rw [e.1]; exact blt_any hc
    rcases ite_or h with ⟨e, h⟩ | ⟨_, h⟩
    · cases h; rw [e.1]; exact blt_sorted
    rcases ite_or h with ⟨e, h⟩ | ⟨_, h⟩
    · cases h; rw [e.1]; exact blt_list
    rcases ite_or h with ⟨e, h⟩ | ⟨_, h⟩
    · cases h; rw [e.1]; exact blt_tuple
    rcases ite_or h with ⟨e, h⟩ | ⟨_, h⟩
    · cases h; rw [e.1]; exact blt_repr hgd hu sm
    · cases h
  · cases h
end
end HB

set_option Elab.async false
set_option linter.all false
set_option maxRecDepth 100000
set_option maxHeartbeats 2000000
/-! HBSnd4: owned things written; blocks; methods. -/
namespace HB
open PySem PySem.Spec PyProof.Rows L2

section
variable {K : Fg} {B : Bs} {env : Evn} {σ : L2.St} {Hb H : Hp}
theorem get_set_ne {env : Evn} {i j : Nat} {s : Sl} (h : i ≠ j) : (env.set i s)[j]? = env[j]? := List.getElem?_set_ne h
theorem get_set_eq {env : Evn} {i : Nat} {s : Sl} (h : i < env.length) : (env.set i s)[i]? = some s := List.getElem?_set_self h
theorem lt_of_get {α : Type} {l : List α} {i : Nat} {s : α} (h : l[i]? = some s) : i < l.length := (List.getElem?_eq_some_iff.mp h).1
/-- an owned thing is written -/
theorem Stt.write (S : Stt K B env σ Hb H) {i : Nat} {o o' : OB} {a : Addr} {u : HO} (h : env[i]? = some (.ow o)) (ha : σ[i]? = some (some (.ref a))) (hu : OBat K Hb (upd H a u) a o') : Stt K B (env.set i (.ow o')) σ Hb (upd H a u) := by
  obtain ⟨a', h1, h2, h3, h4⟩ := S.ow i o h
  rw [ha] at h1; cases h1
  obtain ⟨w, hw⟩ := h3.there
  have hl := lt_of_get h
  refine ⟨by rw [List.length_set]; exact S.len, fun b x e => ?_, fun j d e => ?_, fun j o1 e => ?_, fun j k o1 o2 b e1 e2 => ?_, S.exb, fun b x e n => ?_, S.frs, fun b z => ?_⟩
  · rw [upd_ne (fun z => by rw [z, h2] at e; cases e)]; exact S.sub b x e
  · by_cases hij : i = j
    · subst hij; rw [get_set_eq hl] at e; cases e
    · rw [get_set_ne hij] at e; exact S.im j d e
  · by_cases hij : i = j
    · subst hij
      rw [get_set_eq hl] at e; cases e
      exact ⟨a, ha, h2, hu, h4⟩
    · rw [get_set_ne hij] at e
      obtain ⟨b, k1, k2, k3, k4⟩ := S.ow j o1 e
      have nb : b ≠ a := fun z => hij (S.inj i j o o1 a h e ha (by rw [k1, z]))
      exact ⟨b, k1, k2, k3.mono (Le.refl _) (upd_ne nb), k4⟩
  · have g : ∀ (m : Nat) (o3 : OB), (env.set i (.ow o'))[m]? = some (.ow o3) → ∃ o4, env[m]? = some (.ow o4) := fun m o3 e => by
      by_cases him : i = m
      · subst him; exact ⟨o, h⟩
      · rw [get_set_ne him] at e; exact ⟨o3, e⟩
    obtain ⟨o4, g1⟩ := g _ _ e1
    obtain ⟨o5, g2⟩ := g _ _ e2
    exact S.inj j k o4 o5 b g1 g2
  · have nb : b ≠ a := fun z => by
      subst z
      split at h4
      · exact n h4
      · rw [h4.1] at e; cases e
    rw [upd_ne nb]; exact S.keep b x e n
  · by_cases hb : b = a
    · exact ⟨u, by rw [hb, upd_same]⟩
    · obtain ⟨x, e⟩ := S.iot b z
      exact ⟨x, by rw [upd_ne hb]; exact e⟩
theorem Shp.set_ow {i : Nat} {o o' : OB} (h : env[i]? = some (.ow o)) : Shp env (env.set i (.ow o')) := fun j o1 e => by
  by_cases hij : i = j
  · subst hij; exact ⟨o, h⟩
  · rw [get_set_ne hij] at e; exact ⟨o1, e⟩

/-! ### the same state, seen from here -/
def reb (env : Evn) (σ : L2.St) (Hb H : Hp) : Bs where
  Hb := Hb
  H := H
  io := fun a => ∃ (i : Nat) (o : OB), env[i]? = some (.ow o) ∧ σ[i]? = some (some (.ref a))
  ios := fun i => match env[i]? with
    | some (.ow _) => true
    | _ => false
theorem Stt.re (S : Stt K B env σ Hb H) : Stt K (reb env σ Hb H) env σ Hb H where
  len := S.len
  sub := S.sub
  im := S.im
  ow := fun i o e => by
    obtain ⟨a, h1, h2, h3, h4⟩ := S.ow i o e
    exact ⟨a, h1, h2, h3, by simp only [reb, e, if_true]; exact ⟨i, o, e, h1⟩⟩
  inj := S.inj
  exb := Le.refl _
  keep := fun b o e _ => e
  frs := fun b o e n => by
    have e' : Hb b = some o := e
    have n' : Hb b = none := n
    rw [e'] at n'; cases n'
  iot := fun b z => by
    obtain ⟨i, o, e, h⟩ := z
    obtain ⟨a, h1, h2, h3, h4⟩ := S.ow i o e
    rw [h] at h1; cases h1
    exact h3.there
/-- back from there -/
theorem Stt.un {env' : Evn} {Hb' H' : Hp} (S : Stt K B env σ Hb H) (T : Stt K (reb env σ Hb H) env' σ Hb' H') (sh : Shp env env') : Stt K B env' σ Hb' H' where
  len := T.len
  sub := T.sub
  im := T.im
  ow := fun i o e => by
    obtain ⟨a, h1, h2, h3, _⟩ := T.ow i o e
    obtain ⟨o1, e1⟩ := sh i o e
    obtain ⟨a', k1, k2, k3, k4⟩ := S.ow i o1 e1
    rw [h1] at k1; cases k1
    exact ⟨a, h1, h2, h3, k4⟩
  inj := T.inj
  exb := S.exb.trans T.exb
  keep := fun b o e n => by
    refine T.keep b o (S.keep b o e n) fun z => ?_
    obtain ⟨i, o1, e1, h1⟩ := z
    obtain ⟨a', k1, k2, k3, k4⟩ := S.ow i o1 e1
    rw [h1] at k1; cases k1
    split at k4
    · exact n k4
    · rw [k4.1] at e; cases e
  frs := fun b o e n => by
    cases hb : Hb b with
    | some x => exact S.frs b x hb n
    | none =>
      rcases T.frs b o e hb with z | z
      · have z' : H b = none := z
        exact .inl (S.fresh z').1
      · obtain ⟨i, o1, e1, h1⟩ := z
        obtain ⟨a', k1, k2, k3, k4⟩ := S.ow i o1 e1
        rw [h1] at k1; cases k1
        split at k4
        · exact .inr k4
        · exact .inl k4.1
  iot := fun b z => by
    obtain ⟨o, e⟩ := S.iot b z
    by_cases q : ∃ (i : Nat) (o : OB), env[i]? = some (.ow o) ∧ σ[i]? = some (some (.ref b))
    · exact T.iot b q
    · exact ⟨o, T.keep b o e q⟩
/-- an untracked thing stands through what is seen from here -/
theorem Stt.stands {env' : Evn} {Hb' H' : Hp} (T : Stt K (reb env σ Hb H) env' σ Hb' H') {p : Addr} {u : HO} (hp : H p = some u) (hn : Hb p = none) (nf : ∀ (i : Nat) (o : OB), env[i]? = some (.ow o) → σ[i]? ≠ some (some (.ref p))) : H' p = some u ∧ Hb' p = none := by
  have ni : ¬ (reb env σ Hb H).io p := fun ⟨i, o, e, h⟩ => nf i o e h
  refine ⟨T.keep p u hp ni, ?_⟩
  cases e : Hb' p with
  | none => rfl
  | some x =>
    rcases T.frs p x e hn with z | z
    · have z' : H p = none := z
      rw [hp] at z'; cases z'
    · exact (ni z).elim
/-- a value just made stays so -/
theorem RVOk.stands {env' : Evn} {Hb' H' : Hp} {v : V} {r : RV} (S : Stt K B env σ Hb H) (h : RVOk K B env σ Hb H v r) (T : Stt K (reb env σ Hb H) env' σ Hb' H') (sh : Shp env env') : RVOk K B env' σ Hb' H' v r := by
  cases r with
  | val d => exact Rp.mono T.exb _ _ h
  | bo i => exact h
  | fr o =>
    obtain ⟨p, e, h1, h2, h3, h4, h5⟩ := h
    obtain ⟨u, hu⟩ := h2.there
    obtain ⟨k1, k2⟩ := T.stands hu h1 h5
    refine ⟨p, e, k2, h2.mono T.exb (by rw [k1, hu]), h3, h4, fun i o' e' z => ?_⟩
    obtain ⟨o1, e1⟩ := sh i o' e'
    exact h5 i o1 e1 z
/-- an untracked thing is written -/
theorem Stt.updH (S : Stt K B env σ Hb H) {p : Addr} {u w : HO} (hp : H p = some w) (hn : Hb p = none) (hB : B.H p = none) (nf : ∀ (i : Nat) (o : OB), env[i]? = some (.ow o) → σ[i]? ≠ some (some (.ref p))) : Stt K B env σ Hb (upd H p u) where
  len := S.len
  sub := fun b x e => by rw [upd_ne (fun z => by rw [z, hn] at e; cases e)]; exact S.sub b x e
  im := S.im
  ow := fun i o e => by
    obtain ⟨a, h1, h2, h3, h4⟩ := S.ow i o e
    have ne : a ≠ p := fun z => nf i o e (by rw [h1, z])
    exact ⟨a, h1, h2, h3.mono (Le.refl _) (upd_ne ne), h4⟩
  inj := S.inj
  exb := S.exb
  keep := fun b x e n => by
    have ne : b ≠ p := fun z => by rw [z, hB] at e; cases e
    rw [upd_ne ne]; exact S.keep b x e n
  frs := S.frs
  iot := fun b z => by
    by_cases hb : b = p
    · exact ⟨u, by rw [hb, upd_same]⟩
    · obtain ⟨x, e⟩ := S.iot b z
      exact ⟨x, by rw [upd_ne hb]; exact e⟩

/-! ### the block of a comprehension -/
theorem unown_length (env : Evn) : ∀ own : List Nat, (unown own env).length = env.length
  | [] => rfl
  | i :: is => by unfold unown; rw [List.length_set, unown_length env is]
theorem unown_get {i : Nat} {s : Sl} : ∀ {own : List Nat}, (unown own env)[i]? = some s → (s = .un ∧ i ∈ own) ∨ (i ∉ own ∧ env[i]? = some s)
  | [], h => .inr ⟨by simp, h⟩
  | j :: js, h => by
    unfold unown at h
    by_cases hj : j = i
    · subst hj
      by_cases hl : j < (unown js env).length
      · rw [List.getElem?_set_self hl] at h; cases h; exact .inl ⟨rfl, List.mem_cons_self⟩
      · rw [List.getElem?_eq_none (by simpa using hl)] at h; cases h
    · rw [List.getElem?_set_ne hj] at h
      rcases unown_get h with ⟨e, m⟩ | ⟨m, e⟩
      · exact .inl ⟨e, List.mem_cons_of_mem _ m⟩
      · exact .inr ⟨by simp only [List.mem_cons, not_or]; exact ⟨fun z => hj z.symm, m⟩, e⟩
theorem wipe_get {i : Nat} : ∀ {own : List Nat}, i ∉ own → (wipe σ own)[i]? = σ[i]?
  | [], _ => rfl
  | j :: js, h => by
    simp only [List.mem_cons, not_or] at h
    unfold wipe
    rw [List.getElem?_set_ne (Ne.symm h.1)]
    exact wipe_get h.2
theorem Stt.wipe (S : Stt K B env σ Hb H) (own : List Nat) : Stt K B (unown own env) (wipe σ own) Hb H where
  len := by rw [wipe_length, unown_length]; exact S.len
  sub := S.sub
  im := fun i d e => by
    rcases unown_get e with ⟨z, _⟩ | ⟨m, e⟩
    · cases z
    · rw [wipe_get m]; exact S.im i d e
  ow := fun i o e => by
    rcases unown_get e with ⟨z, _⟩ | ⟨m, e⟩
    · cases z
    · rw [wipe_get m]; exact S.ow i o e
  inj := fun i j o o' a e e' => by
    rcases unown_get e with ⟨z, _⟩ | ⟨m, e⟩
    · cases z
    · rcases unown_get e' with ⟨z, _⟩ | ⟨m', e'⟩
      · cases z
      · rw [wipe_get m, wipe_get m']; exact S.inj i j o o' a e e'
  exb := S.exb
  keep := S.keep
  frs := S.frs
  iot := S.iot
theorem back_length (env : Evn) : ∀ (own : List Nat) (e : Evn), (back env own e).length = e.length
  | [], _ => rfl
  | i :: is, e => by
    unfold back
    split
    · rw [List.length_set, back_length env is e]
    · exact back_length env is e
theorem back_get {e : Evn} {i : Nat} {s : Sl} : ∀ {own : List Nat}, (back env own e)[i]? = some s → (i ∈ own ∧ env[i]? = some s) ∨ e[i]? = some s ∧ (i ∉ own ∨ env[i]? = none)
  | [], h => .inr ⟨h, .inl (by simp)⟩
  | j :: js, h => by
    unfold back at h
    cases hj : env[j]? with
    | none =>
      rw [hj] at h
      rcases back_get h with ⟨m, e'⟩ | ⟨e', m⟩
      · exact .inl ⟨List.mem_cons_of_mem _ m, e'⟩
      · refine .inr ⟨e', ?_⟩
        by_cases hij : i = j
        · subst hij; exact .inr hj
        · rcases m with m | m
          · exact .inl (by simp only [List.mem_cons, not_or]; exact ⟨hij, m⟩)
          · exact .inr m
    | some t =>
      rw [hj] at h
      by_cases hij : j = i
      · subst hij
        by_cases hl : j < (back env js e).length
        · rw [List.getElem?_set_self hl] at h; cases h; exact .inl ⟨List.mem_cons_self, hj⟩
        · rw [List.getElem?_eq_none (by simpa using hl)] at h; cases h
      · rw [List.getElem?_set_ne hij] at h
        rcases back_get h with ⟨m, e'⟩ | ⟨e', m⟩
        · exact .inl ⟨List.mem_cons_of_mem _ m, e'⟩
        · refine .inr ⟨e', ?_⟩
          rcases m with m | m
          · exact .inl (by simp only [List.mem_cons, not_or]; exact ⟨fun z => hij z.symm, m⟩)
          · exact .inr m
/-- behind the block -/
theorem Stt.unblk {own : List Nat} {env' : Evn} {Hb' H' : Hp} (S : Stt K B env σ Hb H) (T : Stt K (reb (unown own env) (L2.wipe σ own) Hb H) env' (L2.wipe σ own) Hb' H') (sh : Shp (unown own env) env') :
    Stt K B (back env own env') σ Hb' H' ∧ Shp env (back env own env') := by
  have SW := S.wipe own
  have TB := SW.un T sh
  have le : Le Hb Hb' := T.exb
  have lenE : env'.length = env.length := by rw [← T.len, wipe_length, S.len]
  -- an owned thing at an own slot stands
  have stay : ∀ (i : Nat) (o : OB), i ∈ own → env[i]? = some (.ow o) → ∃ a, σ[i]? = some (some (.ref a)) ∧ Hb' a = none ∧ OBat K Hb' H' a o ∧ (if B.ios i = true then B.io a else B.H a = none ∧ ¬ B.io a) := fun i o hi e => by
    obtain ⟨a, h1, h2, h3, h4⟩ := S.ow i o e
    obtain ⟨u, hu⟩ := h3.there
    obtain ⟨k1, k2⟩ := T.stands hu h2 fun j o' e' z => by
      rcases unown_get e' with ⟨q, _⟩ | ⟨m, e''⟩
      · cases q
      · rw [wipe_get m] at z
        have := S.inj i j o o' a e e'' h1 z
        exact m (this ▸ hi)
    exact ⟨a, h1, k2, h3.mono le (by rw [k1, hu]), h4⟩
  have out : ∀ (i : Nat), env[i]? = none → env'[i]? = none := fun i h => by
    rw [List.getElem?_eq_none_iff] at h ⊢; omega
  have owk : ∀ (i : Nat) (o : OB), (back env own env')[i]? = some (.ow o) → (i ∈ own ∧ env[i]? = some (.ow o)) ∨ (i ∉ own ∧ env'[i]? = some (.ow o) ∧ ∃ o', env[i]? = some (.ow o')) := fun i o e => by
    rcases back_get e with ⟨m, e1⟩ | ⟨e1, m⟩
    · exact .inl ⟨m, e1⟩
    · have m' : i ∉ own := by
        rcases m with m | m
        · exact m
        · rw [out i m] at e1; cases e1
      obtain ⟨o1, e2⟩ := sh i o e1
      rcases unown_get e2 with ⟨q, _⟩ | ⟨_, e3⟩
      · cases q
      · exact .inr ⟨m', e1, o1, e3⟩
  refine ⟨⟨by rw [back_length, lenE]; exact S.len, T.sub, fun i d e => ?_, fun i o e => ?_, fun i j o o' a e e' z z' => ?_, TB.exb, TB.keep, TB.frs, TB.iot⟩, fun i o e => ?_⟩
  · rcases back_get e with ⟨m, e1⟩ | ⟨e1, m⟩
    · obtain ⟨v, h1, h2⟩ := S.im i d e1
      exact ⟨v, h1, Rp.mono le _ _ h2⟩
    · have m' : i ∉ own := by
        rcases m with m | m
        · exact m
        · rw [out i m] at e1; cases e1
      obtain ⟨v, h1, h2⟩ := T.im i d e1
      rw [wipe_get m'] at h1
      exact ⟨v, h1, h2⟩
  · rcases owk i o e with ⟨m, e1⟩ | ⟨m, e1, _⟩
    · exact stay i o m e1
    · obtain ⟨a, h1, h2, h3, h4⟩ := TB.ow i o e1
      rw [wipe_get m] at h1
      exact ⟨a, h1, h2, h3, h4⟩
  · have g : ∀ (k : Nat) (o1 : OB), (back env own env')[k]? = some (.ow o1) → ∃ o2, env[k]? = some (.ow o2) := fun k o1 q => by
      rcases owk k o1 q with ⟨_, e1⟩ | ⟨_, _, e1⟩
      · exact ⟨o1, e1⟩
      · exact e1
    obtain ⟨o2, g1⟩ := g _ _ e
    obtain ⟨o3, g2⟩ := g _ _ e'
    exact S.inj i j o2 o3 a g1 g2 z z'
  · rcases owk i o e with ⟨_, e1⟩ | ⟨_, _, e1⟩
    · exact ⟨o, e1⟩
    · exact e1
end
end HB

set_option Elab.async false
set_option linter.all false
set_option maxRecDepth 100000
set_option maxHeartbeats 2000000
/-! HBSnd5: expressions, form by form. -/
namespace HB
open PySem PySem.Spec PyProof.Rows L2

def Rd (X : Cx) (W : WX) (ct : Nat → Addr) (te : TE) (f : Mo RV) : Prop := ∀ (B : Bs) (σ : L2.St) (Hb H : Hp) (env : Evn) (Q : VK), Stt X.K B env σ Hb H →
  GotE (f env) (fun r env' => ∀ v Hb' H', Stt X.K B env' σ Hb' H' → Le Hb Hb' → Shp env env' → RVOk X.K B env' σ Hb' H' v r → Q v H') (Xw X W ct B σ Hb) → te σ H Q
def Rds (X : Cx) (W : WX) (ct : Nat → Addr) (te : TE) (f : Mo RV) : Prop := ∀ (B : Bs) (σ : L2.St) (Hb H : Hp) (env : Evn) (Q : VK), Stt X.K B env σ Hb H →
  GotE (f env) (fun r env' => ∀ v Hb' H', Stt X.K B env' σ Hb' H' → Le Hb Hb' → Shp env env' → NoFr r → RVOk X.K B env' σ Hb' H' v r → Q v H') (Xw X W ct B σ Hb) → te σ H Q
theorem GotE.same {α : Type} {o : Option (Out α)} {P P' : α → Evn → Prop} {R : Nat → Evn → Prop} (h : GotE o P R) (hP : ∀ a e, P a e → P' a e) : GotE o P' R := h.imp hP fun _ _ q => q
section
variable {X : Cx} {W : WX} {ct : Nat → Addr} {a b c : Expr} {fa fb fc f : Mo RV} {pos : Pos} {ta tb tc : TE}
theorem two (ka : Rds X W ct ta fa) (kb : Rds X W ct tb fb) {B : Bs} {σ : L2.St} {Hb H : Hp} {env : Evn} {Q : V → V → Hp → Prop} (S : Stt X.K B env σ Hb H)
    (g : GotE (fa env) (fun x e1 => GotE (fb e1) (fun y e2 => ∀ v u Hb' H', Stt X.K B e2 σ Hb' H' → Le Hb Hb' → Shp env e2 → NoFr x → NoFr y → RVOk X.K B e2 σ Hb' H' v x → RVOk X.K B e2 σ Hb' H' u y → Q v u H') (Xw X W ct B σ Hb)) (Xw X W ct B σ Hb)) :
    ta σ H fun v H1 => tb σ H1 fun u H2 => Q v u H2 := by
  refine ka B σ Hb H env _ S (g.same fun x e1 g1 v Hb1 H1 S1 le1 sh1 nx rx => kb B σ Hb1 H1 e1 _ S1 (g1.imp (fun y e2 g2 u Hb2 H2 S2 le2 sh2 ny ry => ?_) fun c e h => Xw.mono (X := X) le1 h))
  exact g2 v u Hb2 H2 S2 (le1.trans le2) (sh1.trans sh2) nx ny (rx.keep nx le2) ry
theorem SE.bin {op : Operator} {r : R2} {g : D → D → Option RV} (ho : OpR X (binaryOp op) r) (hg : OpB X r g) (ha : SEs X W ct a fa) (hb : SEs X W ct b fb) :
    SE X W ct (.BinOp a op b pos) (fa.bnd fun x => fb.bnd fun y => (Mo.opd x).bnd fun d => (Mo.opd y).bnd fun e => Mo.lift (g d e)) := by
  obtain ⟨ta, pa, ka⟩ := ha
  obtain ⟨tb, pb, kb⟩ := hb
  refine ⟨_, pe_op ho pa pb, fun B σ Hb H env Q S q => two ka kb S (q.bnd.same fun x e1 g1 => g1.bnd.same fun y e2 g2 v u Hb' H' S2 le sh nx ny rx ry => ?_)⟩
  obtain ⟨d, hd, g3⟩ := g2.bnd.opd
  obtain ⟨e, he, g4⟩ := g3.bnd.opd
  obtain ⟨rv, hrv, g5⟩ := g4.lift
  exact hg B e2 σ Hb' H' S2 d e v u rv hrv (S2.view rx hd) (S2.view ry he) Q fun w Hb2 H2 S3 le2 rw => g5 w Hb2 H2 S3 (le.trans le2) sh rw
theorem SE.ix (ha : SEs X W ct a fa) (hb : SEs X W ct b fb) (hs : PlainIx b) :
    SE X W ct (.Subscript a b pos) (fa.bnd fun x => fb.bnd fun y => (Mo.opd x).bnd fun d => (Mo.opd y).bnd fun e => Mo.lift ((atD d e).map .val)) := by
  obtain ⟨ta, pa, ka⟩ := ha
  obtain ⟨tb, pb, kb⟩ := hb
  refine ⟨_, pe_ix (ix_list.or ix_tup) pa pb hs, fun B σ Hb H env Q S q => two ka kb S (q.bnd.same fun x e1 g1 => g1.bnd.same fun y e2 g2 v u Hb' H' S2 le sh nx ny rx ry => ?_)⟩
  obtain ⟨d, hd, g3⟩ := g2.bnd.opd
  obtain ⟨e, he, g4⟩ := g3.bnd.opd
  obtain ⟨rv, hrv, g5⟩ := g4.lift
  obtain ⟨z, hz, rfl⟩ := Option.map_eq_some_iff.mp hrv
  have hv := S2.view rx hd
  have hu := S2.view ry he
  have key : ∀ (ds : List D) (i : Int) (xs : List V), atI ds i = some z → RpAll X.K Hb' ds xs → ∃ w, atI xs i = some w ∧ Rp X.K Hb' z w := fun ds i xs h r => by
    unfold L2.atI at h ⊢
    rw [← r.length]
    obtain ⟨j, hj, h⟩ := Option.bind_eq_some_iff.mp h
    obtain ⟨w, hw, rw'⟩ := r.get h
    exact ⟨w, by rw [hj]; exact hw, rw'⟩
  cases d <;> cases e <;> simp only [atD] at hz <;> try cases hz
  · obtain ⟨p, xs, rfl, h1, h2⟩ := hv
    cases hu
    obtain ⟨w, hw, rw⟩ := key _ _ xs hz h2
    exact .inl ⟨p, xs, _, w, rfl, rfl, SqL.of h1, hw, g5 w Hb' H' S2 le sh rw⟩
  · obtain ⟨p, xs, rfl, h1, h2⟩ := hv
    cases hu
    obtain ⟨w, hw, rw⟩ := key _ _ xs hz h2
    exact .inr ⟨p, xs, _, w, rfl, rfl, S2.sub.sqt h1, hw, g5 w Hb' H' S2 le sh rw⟩
  · obtain ⟨p, xs, rfl, h1, h2⟩ := hv
    cases hu
    obtain ⟨w, hw, rw⟩ := key _ _ xs hz h2
    exact .inl ⟨p, xs, _, w, rfl, rfl, S2.sub.sql h1, hw, g5 w Hb' H' S2 le sh rw⟩
theorem SE.cmp {op : CmpOp} {r : R2} {g : D → D → Option Bool} (ho : OpR X (compareOp op) r) (hg : OpC X r g) (ha : SEs X W ct a fa) (hb : SEs X W ct b fb) (hm : behindInMarks op b = false) :
    SE X W ct (.Compare a [op] [b] pos) (fa.bnd fun x => fb.bnd fun y => (Mo.opd x).bnd fun d => (Mo.opd y).bnd fun e => Mo.lift ((g d e).map fun b => .val (.bl b))) := by
  obtain ⟨ta, pa, ka⟩ := ha
  obtain ⟨tb, pb, kb⟩ := hb
  refine ⟨_, pe_cmpR ho pa pb hm, fun B σ Hb H env Q S q => two ka kb S (q.bnd.same fun x e1 g1 => g1.bnd.same fun y e2 g2 v u Hb' H' S2 le sh nx ny rx ry => ?_)⟩
  obtain ⟨d, hd, g3⟩ := g2.bnd.opd
  obtain ⟨e, he, g4⟩ := g3.bnd.opd
  obtain ⟨rv, hrv, g5⟩ := g4.lift
  obtain ⟨z, hz, rfl⟩ := Option.map_eq_some_iff.mp hrv
  exact hg Hb' H' S2.sub d e v u z hz (S2.view rx hd) (S2.view ry he) Q (g5 _ Hb' H' S2 le sh rfl)
theorem ST.cmp {op : CmpOp} {r : R2} {g : D → D → Option Bool} (ho : OpR X (compareOp op) r) (hg : OpC X r g) (ha : SEs X W ct a fa) (hb : SEs X W ct b fb) (hm : behindInMarks op b = false) :
    ST X W ct (.Compare a [op] [b] pos) (Mo.tst (fa.bnd fun x => fb.bnd fun y => (Mo.opd x).bnd fun d => (Mo.opd y).bnd fun e => Mo.lift ((g d e).map fun b => .val (.bl b)))) := by
  obtain ⟨ta, pa, ka⟩ := ha
  obtain ⟨tb, pb, kb⟩ := hb
  refine ⟨_, pt_cmpR ho pa pb hm, fun B σ Hb H env Q S q => two ka kb S ((GotE.bnd (GotE.bnd q)).same fun x e1 g1 => g1.bnd.same fun y e2 g2 v u Hb' H' S2 le sh nx ny rx ry => ?_)⟩
  obtain ⟨d, hd, g3⟩ := g2.bnd.opd
  obtain ⟨e, he, g4⟩ := g3.bnd.opd
  obtain ⟨rv, hrv, g5⟩ := g4.lift
  obtain ⟨z, hz, rfl⟩ := Option.map_eq_some_iff.mp hrv
  exact hg Hb' H' S2.sub d e v u z hz (S2.view rx hd) (S2.view ry he) _ ⟨z, rfl, g5 Hb' H' S2 le sh⟩
/-- a value taken as a bool -/
theorem Rd.tst (ka : Rd X W ct ta fa) {B : Bs} {σ : L2.St} {Hb H : Hp} {env : Evn} {Q : Bool → Hp → Prop} (S : Stt X.K B env σ Hb H)
    (g : GotE (fa.tst env) (fun t e1 => ∀ Hb' H', Stt X.K B e1 σ Hb' H' → Le Hb Hb' → Shp env e1 → Q t H') (Xw X W ct B σ Hb)) : ta σ H fun x H1 => ∃ t, x = .bl t ∧ Q t H1 := by
  refine ka B σ Hb H env _ S ((GotE.bnd g).same fun x e1 g1 v Hb1 H1 S1 le1 sh1 rx => ?_)
  cases x with
  | val d =>
    cases d with
    | bl t => exact ⟨t, rx, g1 Hb1 H1 S1 le1 sh1⟩
    | _ => exact g1.elim
  | bo i => exact g1.elim
  | fr o => exact g1.elim
theorem ST.val (ha : SE X W ct a fa) (he : ∀ whole, isTrue a X.env whole = (do let v ← whole; standAt a.pos; holding [v] (truthy v))) : ST X W ct a fa.tst := by
  obtain ⟨ta, pa, ka⟩ := ha
  exact ⟨_, pt_val pa he, fun B σ Hb H env Q S q => Rd.tst ka S q⟩
theorem SE.neg (ha : SEs X W ct a fa) : SE X W ct (.UnaryOp .USub a pos) (fa.bnd fun x => (Mo.opd x).bnd fun d => Mo.lift ((intD d).map fun i => .val (.int (-i)))) := by
  obtain ⟨ta, pa, ka⟩ := ha
  refine ⟨_, pe_un un_neg pa, fun B σ Hb H env Q S q => ka B σ Hb H env _ S (q.bnd.same fun x e1 g1 v Hb' H' S2 le sh nx rx => ?_)⟩
  obtain ⟨d, hd, g3⟩ := g1.bnd.opd
  obtain ⟨rv, hrv, g5⟩ := g3.lift
  obtain ⟨z, hz, rfl⟩ := Option.map_eq_some_iff.mp hrv
  cases d <;> simp only [intD] at hz <;> cases hz
  exact ⟨_, S2.view rx hd, g5 _ Hb' H' S2 le sh rfl⟩
theorem SE.not (ha : SE X W ct a fa) : SE X W ct (.UnaryOp .Not a pos) (fa.tst.bnd fun b => Mo.ret (.val (.bl (!b)))) := by
  obtain ⟨ta, pa, ka⟩ := ha
  exact ⟨_, pe_not pa, fun B σ Hb H env Q S q => Rd.tst (Q := fun t H1 => Q (.bl (!t)) H1) ka S (q.bnd.same fun t e1 g1 Hb' H' S2 le sh => g1 _ Hb' H' S2 le sh rfl)⟩
theorem ST.not (ha : ST X W ct a fa.tst) : ST X W ct (.UnaryOp .Not a pos) (Mo.tst (fa.tst.bnd fun b => Mo.ret (.val (.bl (!b))))) := by
  obtain ⟨ta, pa, ka⟩ := ha
  exact ⟨_, pt_not pa, fun B σ Hb H env Q S q => ka B σ Hb H env _ S ((GotE.bnd (GotE.bnd q)).same fun t e1 g1 Hb' H' S2 le sh => g1 Hb' H' S2 le sh)⟩
theorem tst_bnd {f : Mo RV} {t : Bool → Mo RV} (env : Evn) : (Mo.tst (f.tst.bnd t)) env = (f.tst.bnd fun b => (t b).tst) env := by
  unfold Mo.tst Mo.bnd
  cases f env with
  | none => rfl
  | some o => cases o with
    | ex c e => rfl
    | ok r e =>
      simp only
      cases r with
      | bo i => rfl
      | fr o => rfl
      | val d => cases d <;> rfl
theorem Rd.ite (ka : Rd X W ct ta fa) {g : Bool → Mo RV} {B : Bs} {σ : L2.St} {Hb H : Hp} {env : Evn} {Q : VK} {Z : Bool → Hp → Prop} (S : Stt X.K B env σ Hb H)
    (q : GotE ((fa.tst.bnd g) env) (fun r env' => ∀ v Hb' H', Stt X.K B env' σ Hb' H' → Le Hb Hb' → Shp env env' → RVOk X.K B env' σ Hb' H' v r → Q v H') (Xw X W ct B σ Hb))
    (z : ∀ t e1 Hb1 H1, Stt X.K B e1 σ Hb1 H1 → GotE (g t e1) (fun r env' => ∀ v Hb' H', Stt X.K B env' σ Hb' H' → Le Hb1 Hb' → Shp e1 env' → RVOk X.K B env' σ Hb' H' v r → Q v H') (Xw X W ct B σ Hb1) → Z t H1) :
    ta σ H fun x H1 => ∃ t, x = .bl t ∧ Z t H1 :=
  Rd.tst ka S (q.bnd.same fun t e1 g1 Hb1 H1 S1 le1 sh1 => z t e1 Hb1 H1 S1 (g1.imp (fun r e2 g2 v Hb2 H2 S2 le2 sh2 rv => g2 v Hb2 H2 S2 (le1.trans le2) (sh1.trans sh2) rv) fun c e h => Xw.mono (X := X) le1 h))
theorem SE.and {es : List Expr} {d : Expr} (ha : SE X W ct a fa) (hb : SE X W ct (.BoolOp .And (d :: es) pos) fb) : SE X W ct (.BoolOp .And (a :: d :: es) pos) (fa.tst.bnd fun t => if t = true then fb else Mo.ret (.val (.bl false))) := by
  obtain ⟨ta, pa, ka⟩ := ha
  obtain ⟨tb, pb, kb⟩ := hb
  refine ⟨_, pe_and pa pb, fun B σ Hb H env Q S q => Rd.ite ka S q fun t e1 Hb1 H1 S1 g => ?_⟩
  cases t with
  | true => exact kb B σ Hb1 H1 e1 _ S1 g
  | false => exact g _ Hb1 H1 S1 (Le.refl _) (Shp.refl _) rfl
theorem SE.or {es : List Expr} {d : Expr} (ha : SE X W ct a fa) (hb : SE X W ct (.BoolOp .Or (d :: es) pos) fb) : SE X W ct (.BoolOp .Or (a :: d :: es) pos) (fa.tst.bnd fun t => if t = true then Mo.ret (.val (.bl true)) else fb) := by
  obtain ⟨ta, pa, ka⟩ := ha
  obtain ⟨tb, pb, kb⟩ := hb
  refine ⟨_, pe_or pa pb, fun B σ Hb H env Q S q => Rd.ite ka S q fun t e1 Hb1 H1 S1 g => ?_⟩
  cases t with
  | true => exact g _ Hb1 H1 S1 (Le.refl _) (Shp.refl _) rfl
  | false => exact kb B σ Hb1 H1 e1 _ S1 g
theorem SE.one {op : BoolOp} (ha : SE X W ct a fa) : SE X W ct (.BoolOp op [a] pos) fa := by
  obtain ⟨ta, pa, ka⟩ := ha
  exact ⟨_, pe_one pa, ka⟩
/-- tests: and, or -/
def SW (X : Cx) (W : WX) (ct : Nat → Addr) (e : Expr) (f : Mo Bool) : Prop := ∃ tt : TT, PW X e tt ∧ ∀ (B : Bs) (σ : L2.St) (Hb H : Hp) (env : Evn) (Q : Bool → Hp → Prop), Stt X.K B env σ Hb H →
  GotE (f env) (fun b env' => ∀ Hb' H', Stt X.K B env' σ Hb' H' → Le Hb Hb' → Shp env env' → Q b H') (Xw X W ct B σ Hb) → tt σ H Q
theorem SW.st {f : Mo Bool} (h : SW X W ct a f) : ST X W ct a f := by
  obtain ⟨t, p, k⟩ := h
  exact ⟨t, p.pt, k⟩
theorem ST.go {f : Mo Bool} {g : Bool → Mo Bool} {tt : TT} (k : ∀ (B : Bs) (σ : L2.St) (Hb H : Hp) (env : Evn) (Q : Bool → Hp → Prop), Stt X.K B env σ Hb H →
      GotE (f env) (fun b env' => ∀ Hb' H', Stt X.K B env' σ Hb' H' → Le Hb Hb' → Shp env env' → Q b H') (Xw X W ct B σ Hb) → tt σ H Q)
    {B : Bs} {σ : L2.St} {Hb H : Hp} {env : Evn} {Q : Bool → Hp → Prop} {Z : Bool → Hp → Prop} (S : Stt X.K B env σ Hb H)
    (q : GotE ((f.bnd g) env) (fun b env' => ∀ Hb' H', Stt X.K B env' σ Hb' H' → Le Hb Hb' → Shp env env' → Q b H') (Xw X W ct B σ Hb))
    (z : ∀ t e1 Hb1 H1, Stt X.K B e1 σ Hb1 H1 → GotE (g t e1) (fun b env' => ∀ Hb' H', Stt X.K B env' σ Hb' H' → Le Hb1 Hb' → Shp e1 env' → Q b H') (Xw X W ct B σ Hb1) → Z t H1) : tt σ H Z :=
  k B σ Hb H env _ S (q.bnd.same fun t e1 g1 Hb1 H1 S1 le1 sh1 => z t e1 Hb1 H1 S1 (g1.imp (fun b e2 g2 Hb2 H2 S2 le2 sh2 => g2 Hb2 H2 S2 (le1.trans le2) (sh1.trans sh2)) fun c e h => Xw.mono (X := X) le1 h))
theorem SW.and1 {f : Mo Bool} (ha : ST X W ct a f) : SW X W ct (.BoolOp .And [a] pos) f := by
  obtain ⟨ta, pa, ka⟩ := ha
  exact ⟨_, pw_and1 pa, ka⟩
theorem SW.or1 {f : Mo Bool} (ha : ST X W ct a f) : SW X W ct (.BoolOp .Or [a] pos) f := by
  obtain ⟨ta, pa, ka⟩ := ha
  exact ⟨_, pw_or1 pa, ka⟩
theorem SW.and {es : List Expr} {d : Expr} (ha : ST X W ct a fa.tst) (hb : SW X W ct (.BoolOp .And (d :: es) pos) fb.tst) : SW X W ct (.BoolOp .And (a :: d :: es) pos) (Mo.tst (fa.tst.bnd fun t => if t = true then fb else Mo.ret (.val (.bl false)))) := by
  obtain ⟨ta, pa, ka⟩ := ha
  obtain ⟨tb, pb, kb⟩ := hb
  refine ⟨_, pw_and pa pb, fun B σ Hb H env Q S q => ?_⟩
  rw [tst_bnd] at q
  refine ST.go ka S q fun t e1 Hb1 H1 S1 g => ?_
  cases t with
  | true => exact kb B σ Hb1 H1 e1 _ S1 g
  | false => exact g Hb1 H1 S1 (Le.refl _) (Shp.refl _)
theorem SW.or {es : List Expr} {d : Expr} (ha : ST X W ct a fa.tst) (hb : SW X W ct (.BoolOp .Or (d :: es) pos) fb.tst) : SW X W ct (.BoolOp .Or (a :: d :: es) pos) (Mo.tst (fa.tst.bnd fun t => if t = true then Mo.ret (.val (.bl true)) else fb)) := by
  obtain ⟨ta, pa, ka⟩ := ha
  obtain ⟨tb, pb, kb⟩ := hb
  refine ⟨_, pw_or pa pb, fun B σ Hb H env Q S q => ?_⟩
  rw [tst_bnd] at q
  refine ST.go ka S q fun t e1 Hb1 H1 S1 g => ?_
  cases t with
  | true => exact g Hb1 H1 S1 (Le.refl _) (Shp.refl _)
  | false => exact kb B σ Hb1 H1 e1 _ S1 g
theorem SE.ite (hc : ST X W ct c fc.tst) (ha : SE X W ct a fa) (hb : SE X W ct b fb) : SE X W ct (.IfExp c a b pos) (fc.tst.bnd fun t => if t = true then fa else fb) := by
  obtain ⟨tc, pc, kc⟩ := hc
  obtain ⟨ta, pa, ka⟩ := ha
  obtain ⟨tb, pb, kb⟩ := hb
  refine ⟨_, pe_ifExp pc pa pb, fun B σ Hb H env Q S q => kc B σ Hb H env _ S (q.bnd.same fun t e1 g1 Hb1 H1 S1 le1 sh1 => ?_)⟩
  have g2 : GotE ((if t = true then fa else fb) e1) (fun r env' => ∀ v Hb' H', Stt X.K B env' σ Hb' H' → Le Hb1 Hb' → Shp e1 env' → RVOk X.K B env' σ Hb' H' v r → Q v H') (Xw X W ct B σ Hb1) :=
    g1.imp (fun r e2 g2 v Hb2 H2 S2 le2 sh2 rv => g2 v Hb2 H2 S2 (le1.trans le2) (sh1.trans sh2) rv) fun c e h => Xw.mono (X := X) le1 h
  cases t with
  | true => exact ka B σ Hb1 H1 e1 _ S1 g2
  | false => exact kb B σ Hb1 H1 e1 _ S1 g2
/-- a op b op c -/
theorem chain_rd {r r' : R2} {g g' : D → D → Option Bool} (hg : OpC X r g) (hg' : OpC X r' g') (ka : Rds X W ct ta fa) (kb : Rds X W ct tb fb) (kc : Rds X W ct tc fc) {B : Bs} {σ : L2.St} {Hb H : Hp} {env : Evn} {Q : VK} (S : Stt X.K B env σ Hb H)
    (q : GotE ((fa.bnd fun x => fb.bnd fun y => (Mo.opd x).bnd fun d => (Mo.opd y).bnd fun e => (Mo.lift (g d e)).bnd fun t =>
      if t = true then fc.bnd fun z => (Mo.opd y).bnd fun e => (Mo.opd z).bnd fun h => Mo.lift ((g' e h).map fun b => .val (.bl b)) else Mo.ret (.val (.bl false))) env)
      (fun r env' => ∀ v Hb' H', Stt X.K B env' σ Hb' H' → Le Hb Hb' → Shp env env' → RVOk X.K B env' σ Hb' H' v r → Q v H') (Xw X W ct B σ Hb)) : tChain r r' ta tb tc σ H Q := by
  refine two ka kb S (q.bnd.same fun x e1 g1 => g1.bnd.same fun y e2 g2 v u Hb' H' S2 le sh nx ny rx ry => ?_)
  obtain ⟨d, hd, g3⟩ := g2.bnd.opd
  obtain ⟨e, he, g4⟩ := g3.bnd.opd
  obtain ⟨t, ht, g5⟩ := g4.bnd.lift
  refine hg Hb' H' S2.sub d e v u t ht (S2.view rx hd) (S2.view ry he) _ ⟨t, rfl, ?_⟩
  cases t with
  | false => exact g5 _ Hb' H' S2 le sh rfl
  | true =>
    refine kc B σ Hb' H' e2 _ S2 (GotE.imp (GotE.bnd g5) (fun z e3 g6 w Hb3 H3 S3 le3 sh3 nz rz => ?_) fun c e h => Xw.mono (X := X) le h)
    obtain ⟨d6, hd6, g7⟩ := g6.bnd.opd
    obtain ⟨d7, hd7, g8⟩ := g7.bnd.opd
    obtain ⟨rv, hrv, g9⟩ := g8.lift
    obtain ⟨z', hz, rfl⟩ := Option.map_eq_some_iff.mp hrv
    exact hg' Hb3 H3 S3.sub d6 d7 u w z' hz (S3.view (ry.keep ny le3) hd6) (S3.view rz hd7) Q (g9 _ Hb3 H3 S3 (le.trans le3) (sh.trans sh3) rfl)
theorem SE.chain {op op' : CmpOp} {r r' : R2} {g g' : D → D → Option Bool} (ho : OpR X (compareOp op) r) (ho' : OpR X (compareOp op') r') (hg : OpC X r g) (hg' : OpC X r' g') (ha : SEs X W ct a fa) (hb : SEs X W ct b fb) (hc : SEs X W ct c fc) (hm : lastMarks [op, op'] [b, c] = false) :
    SE X W ct (.Compare a [op, op'] [b, c] pos) (fa.bnd fun x => fb.bnd fun y => (Mo.opd x).bnd fun d => (Mo.opd y).bnd fun e => (Mo.lift (g d e)).bnd fun t =>
      if t = true then fc.bnd fun z => (Mo.opd y).bnd fun e => (Mo.opd z).bnd fun h => Mo.lift ((g' e h).map fun b => .val (.bl b)) else Mo.ret (.val (.bl false))) := by
  obtain ⟨ta, pa, ka⟩ := ha
  obtain ⟨tb, pb, kb⟩ := hb
  obtain ⟨tc, pc, kc⟩ := hc
  exact ⟨_, pe_chain ho ho' pa pb pc hm, fun B σ Hb H env Q S q => chain_rd hg hg' ka kb kc S q⟩
theorem ST.chain {op op' : CmpOp} {r r' : R2} {g g' : D → D → Option Bool} (ho : OpR X (compareOp op) r) (ho' : OpR X (compareOp op') r') (hg : OpC X r g) (hg' : OpC X r' g') (ha : SEs X W ct a fa) (hb : SEs X W ct b fb) (hc : SEs X W ct c fc) (hm : lastMarks [op, op'] [b, c] = false) :
    ST X W ct (.Compare a [op, op'] [b, c] pos) (Mo.tst (fa.bnd fun x => fb.bnd fun y => (Mo.opd x).bnd fun d => (Mo.opd y).bnd fun e => (Mo.lift (g d e)).bnd fun t =>
      if t = true then fc.bnd fun z => (Mo.opd y).bnd fun e => (Mo.opd z).bnd fun h => Mo.lift ((g' e h).map fun b => .val (.bl b)) else Mo.ret (.val (.bl false)))) := by
  obtain ⟨ta, pa, ka⟩ := ha
  obtain ⟨tb, pb, kb⟩ := hb
  obtain ⟨tc, pc, kc⟩ := hc
  refine ⟨_, pt_chain ho ho' pa pb pc hm, fun B σ Hb H env Q S q => chain_rd (Q := fun x H' => ∃ k, x = .bl k ∧ Q k H') hg hg' ka kb kc S ((GotE.bnd q).same fun r e1 g1 v Hb' H' S2 le sh rx => ?_)⟩
  cases r with
  | val d =>
    cases d with
    | bl t => exact ⟨t, rx, g1 Hb' H' S2 le sh⟩
    | _ => exact g1.elim
  | bo i => exact g1.elim
  | fr o => exact g1.elim
theorem SE.var {i : Nat} {x : Str} {Φ : Fn} (hN : X.N[i]? = some x) (hv : Vis X.env.scope x) (hd : (x == ("__debug__" : Str)) = false) (hcd : (x == ("__classdict__" : Str)) = false) : SE X W ct (.Name x pos) (ev Φ (.var i)) := by
  refine ⟨_, pe_var hN hv hd hcd, fun B σ Hb H env Q S q => ?_⟩
  have q' : GotE (match env[i]? with
    | some (.im d) => some (.ok (.val d) env)
    | some (.ow _) => some (.ok (.bo i) env)
    | _ => none) (fun r env' => ∀ v Hb' H', Stt X.K B env' σ Hb' H' → Le Hb Hb' → Shp env env' → RVOk X.K B env' σ Hb' H' v r → Q v H') (Xw X W ct B σ Hb) := by rw [ev] at q; exact q
  cases ho : env[i]? with
  | none => rw [ho] at q'; exact False.elim q'
  | some t =>
    cases t with
    | un => rw [ho] at q'; exact False.elim q'
    | im d =>
      rw [ho] at q'
      obtain ⟨v, h1, h2⟩ := S.im i d ho
      exact ⟨v, h1, q' v Hb H S (Le.refl _) (Shp.refl _) h2⟩
    | ow o =>
      rw [ho] at q'
      obtain ⟨p, h1, h2⟩ := S.ow i o ho
      exact ⟨_, h1, q' _ Hb H S (Le.refl _) (Shp.refl _) h1⟩
theorem SE.cst {d : D} {v : V} (hp : PE X a (tC v)) (h : ∀ H, Rp X.K H d v) : SE X W ct a (Mo.ret (.val d)) :=
  ⟨_, hp, fun B σ Hb H env Q S q => q v Hb H S (Le.refl _) (Shp.refl _) (h Hb)⟩
theorem SE.dct0 : SE X W ct (.Dict [] [] pos) (Mo.ret (.fr (.dK [] []))) :=
  ⟨_, pe_dnewK, fun B σ Hb H env Q S q p hp => q _ Hb _ (S.newH hp) (Le.refl _) (Shp.refl _) ⟨p, rfl, S.hbn hp, ⟨[], upd_same, rfl, rfl⟩, (S.fresh hp).1, (S.fresh hp).2, S.nofr hp⟩⟩
end
/-! ### arguments -/
section
variable {X : Cx} {W : WX} {ct : Nat → Addr} {e : Expr} {es : List Expr} {fe : Mo RV} {fs : Mo (List RV)} {pos : Pos}
theorem SA.nil : SA X W ct [] (Mo.ret []) := ⟨_, pa_nil, fun B σ Hb H env Q S q => q [] Hb H S (Le.refl _) (Shp.refl _) rfl⟩
theorem SA.cons (h : SEs X W ct e fe) (k : SA X W ct es fs) (hn : notStar e = true) : SA X W ct (e :: es) (fe.bnd fun x => fs.bnd fun xs => Mo.ret (x :: xs)) := by
  obtain ⟨te, pe, ke⟩ := h
  obtain ⟨ts, ps, ks⟩ := k
  refine ⟨_, pa_cons pe ps (starEach_plain hn), fun B σ Hb H env Q S q => ke B σ Hb H env _ S (q.bnd.same fun x e1 g1 v Hb1 H1 S1 le1 sh1 nx rx => ks B σ Hb1 H1 e1 _ S1 (g1.bnd.imp (fun xs e2 g2 vs Hb2 H2 S2 le2 sh2 rs => ?_) fun c e h => Xw.mono (X := X) le1 h))⟩
  exact g2 _ Hb2 H2 S2 (le1.trans le2) (sh1.trans sh2) ⟨v, vs, rfl, rx.keep nx le2, nx, rs⟩
end
end HB

set_option Elab.async false
set_option linter.all false
set_option maxRecDepth 100000
set_option maxHeartbeats 2000000
/-! HBSnd6: displays, slices, calls, methods, isinstance. -/
namespace HB
open PySem PySem.Spec PyProof.Rows L2

section
variable {X : Cx} {W : WX} {ct : Nat → Addr} {a b c e : Expr} {es : List Expr} {fa fb fe f : Mo RV} {fs : Mo (List RV)} {pos : Pos} {ta tb tc te : TE} {ts : TA}
def RdA (X : Cx) (W : WX) (ct : Nat → Addr) (ts : TA) (fs : Mo (List RV)) : Prop := ∀ (B : Bs) (σ : L2.St) (Hb H : Hp) (env : Evn) (Q : List V → Hp → Prop), Stt X.K B env σ Hb H →
  GotE (fs env) (fun rs env' => ∀ vs Hb' H', Stt X.K B env' σ Hb' H' → Le Hb Hb' → Shp env env' → RVsOk X.K B env' σ Hb' H' rs vs → Q vs H') (Xw X W ct B σ Hb) → ts σ H Q
theorem SA.star {p : Pos} (h : SEs X W ct e fe) (k : SA X W ct es fs) : SA X W ct (.Starred e p :: es) (fe.bnd fun x => (Mo.opd x).bnd fun d => match seqD d with
    | some ds => fs.bnd fun xs => Mo.ret (ds.map RV.val ++ xs)
    | none => fun _ => none) := by
  obtain ⟨te, pe, ke⟩ := h
  obtain ⟨ts, ps, ks⟩ := k
  refine ⟨_, StX.pa_star pe ps rfl, fun B σ Hb H env Q S q => ke B σ Hb H env _ S (q.bnd.same fun x e1 g1 v Hb1 H1 S1 le1 sh1 nx rx => ?_)⟩
  obtain ⟨d, hd, g2⟩ := g1.bnd.opd
  have hv := S1.view rx hd
  have key : ∃ p xs ds, v = V.ref p ∧ (SqT X.K H1 p xs ∨ SqL X.K H1 p xs) ∧ seqD d = some ds ∧ RpAll X.K Hb1 ds xs := by
    cases d with
    | lst ds => obtain ⟨p, xs, h1, h2, h3⟩ := hv; exact ⟨p, xs, ds, h1, .inr (SqL.of h2), rfl, h3⟩
    | tup ds => obtain ⟨p, xs, h1, h2, h3⟩ := hv; exact ⟨p, xs, ds, h1, .inl (S1.sub.sqt h2), rfl, h3⟩
    | frz ds => obtain ⟨p, xs, h1, h2, h3⟩ := hv; exact ⟨p, xs, ds, h1, .inr (S1.sub.sql h2), rfl, h3⟩
    | _ => exact False.elim g2
  obtain ⟨p, xs, ds, h1, h2, h3, h4⟩ := key
  refine ⟨p, xs, h1, h2, ?_⟩
  rw [h3] at g2
  refine ks B σ Hb1 H1 e1 _ S1 (GotE.imp (GotE.bnd g2) (fun ys e2 g3 vs Hb2 H2 S2 le2 sh2 rs => ?_) fun c e h => Xw.mono (X := X) le1 h)
  exact g3 _ Hb2 H2 S2 (le1.trans le2) (sh1.trans sh2) ((RVsOk.vals h4 : RVsOk X.K B e1 σ Hb1 H1 _ _).keep le2 |>.app rs)
theorem SE.lst (h : SA X W ct es fs) : SE X W ct (.List es pos) (fs.bnd fun rs => (Mo.imms rs).bnd fun ds => if ds.length ≤ LIM then Mo.ret (.fr (.lst ds)) else fun _ => none) := by
  obtain ⟨ts, ps, ks⟩ := h
  refine ⟨_, pe_lst ps, fun B σ Hb H env Q S q => ks B σ Hb H env _ S (q.bnd.same fun rs e1 g1 vs Hb1 H1 S1 le1 sh1 rv => ?_)⟩
  obtain ⟨ds, e2, Hb2, g2, le2, sh2, S2, rp⟩ := S1.imms rv g1.bnd
  by_cases hl : ds.length ≤ LIM
  · rw [if_pos hl] at g2
    refine ⟨by rw [← rp.length]; exact lim_le hl, fun p hp => ?_⟩
    obtain ⟨S3, r3⟩ := S2.madeL hp rp
    exact g2 _ Hb2 _ S3 (le1.trans le2) (sh1.trans sh2) r3
  · rw [if_neg hl] at g2; exact False.elim g2
theorem SE.tup {k : Nat} (h : SA X W ct es fs) : SE X W ct (.Tuple es k pos) (fs.bnd fun rs => (Mo.imms rs).bnd fun ds => if ds.length ≤ LIM then Mo.ret (.val (.tup ds)) else fun _ => none) := by
  obtain ⟨ts, ps, ks⟩ := h
  refine ⟨_, pe_tup ps, fun B σ Hb H env Q S q => ks B σ Hb H env _ S (q.bnd.same fun rs e1 g1 vs Hb1 H1 S1 le1 sh1 rv => ?_)⟩
  obtain ⟨ds, e2, Hb2, g2, le2, sh2, S2, rp⟩ := S1.imms rv g1.bnd
  by_cases hl : ds.length ≤ LIM
  · rw [if_pos hl] at g2
    refine ⟨by rw [← rp.length]; exact lim_le hl, fun p hp => ?_⟩
    obtain ⟨Hb3, le3, S3, r3⟩ := S2.madeT hp rp
    exact g2 _ Hb3 _ S3 ((le1.trans le2).trans le3) (sh1.trans sh2) r3
  · rw [if_neg hl] at g2; exact False.elim g2
/-! slices -/
def SO (X : Cx) (W : WX) (ct : Nat → Addr) (e : Option Expr) (f : Mo (Option Int)) : Prop := ∃ t : TO, PO X e t ∧ ∀ (B : Bs) (σ : L2.St) (Hb H : Hp) (env : Evn) (Q : Option Int → Hp → Prop), Stt X.K B env σ Hb H →
  GotE (f env) (fun i env' => ∀ Hb' H', Stt X.K B env' σ Hb' H' → Le Hb Hb' → Shp env env' → Q i H') (Xw X W ct B σ Hb) → t σ H Q
theorem SO.no : SO X W ct none (Mo.ret none) := ⟨_, po_none, fun B σ Hb H env Q S q => q Hb H S (Le.refl _) (Shp.refl _)⟩
theorem SO.yes (h : SE X W ct e fe) : SO X W ct (some e) (fe.bnd fun r => match r with
    | .val (.int i) => Mo.ret (some i)
    | _ => fun _ => none) := by
  obtain ⟨te, pe, ke⟩ := h
  refine ⟨_, po_some pe, fun B σ Hb H env Q S q => ke B σ Hb H env _ S (q.bnd.same fun r e1 g1 v Hb1 H1 S1 le1 sh1 rv => ?_)⟩
  cases r with
  | val d =>
    cases d with
    | int i => exact ⟨i, rv, g1 Hb1 H1 S1 le1 sh1⟩
    | _ => exact g1.elim
  | bo i => exact g1.elim
  | fr o => exact g1.elim
theorem rp_cut {K : Fg} {H : Hp} {ds : List D} {xs : List V} (lo hi : Option Int) (h : RpAll K H ds xs) : RpAll K H (cutD ds lo hi) (cutV xs lo hi) := by
  unfold cutD cutV
  rw [← h.length]
  exact (h.drop _).take _
theorem SE.slc {lo hi : Option Expr} {fl fh : Mo (Option Int)} {p2 : Pos} (ha : SEs X W ct a fa) (hl : SO X W ct lo fl) (hh : SO X W ct hi fh) :
    SE X W ct (.Subscript a (.Slice lo hi none p2) pos) (fa.bnd fun x => fl.bnd fun l => fh.bnd fun h => (Mo.opd x).bnd fun d => Mo.lift (slcD d l h)) := by
  obtain ⟨ta, pa, ka⟩ := ha
  obtain ⟨tl, pl, kl⟩ := hl
  obtain ⟨th, ph, kh⟩ := hh
  refine ⟨_, pe_slice (sl_list.or sl_tupA) pa pl ph, fun B σ Hb H env Q S q => ka B σ Hb H env _ S (q.bnd.same fun x e1 g1 v Hb1 H1 S1 le1 sh1 nx rx =>
    kl B σ Hb1 H1 e1 _ S1 (g1.bnd.imp (fun l e2 g2 Hb2 H2 S2 le2 sh2 => kh B σ Hb2 H2 e2 _ S2 (g2.bnd.imp (fun h e3 g3 Hb3 H3 S3 le3 sh3 => ?_) fun c e h => Xw.mono (X := X) (le1.trans le2) h)) fun c e h => Xw.mono (X := X) le1 h))⟩
  obtain ⟨d, hd, g4⟩ := g3.bnd.opd
  obtain ⟨rv, hrv, g5⟩ := g4.lift
  have le := (le1.trans le2).trans le3
  have sh := (sh1.trans sh2).trans sh3
  have hv := S3.view (rx.keep nx (le2.trans le3)) hd
  cases d <;> simp only [slcD] at hrv <;> try cases hrv
  · obtain ⟨p, xs, rfl, h1, h2⟩ := hv
    refine .inl ⟨p, xs, rfl, SqL.of h1, fun q hq => ?_⟩
    obtain ⟨S4, r4⟩ := S3.madeL hq (rp_cut l h h2)
    exact g5 _ Hb3 _ S4 le sh r4
  · obtain ⟨p, xs, rfl, h1, h2⟩ := hv
    refine .inr ⟨p, xs, rfl, S3.sub.sqt h1, fun w => ?_, fun _ q hq => ?_⟩
    · have e : cutV xs l h = xs := by
        unfold cutV
        rw [w.1, w.2]
        simp
      have z := rp_cut l h h2
      rw [e] at z
      exact g5 _ Hb3 H3 S3 le sh ⟨p, xs, rfl, h1, z⟩
    · obtain ⟨Hb4, le4, S4, r4⟩ := S3.madeT hq (rp_cut l h h2)
      exact g5 _ Hb4 _ S4 (le.trans le4) sh r4
theorem SE.rev {k : Nat} {p1 p2 p3 : Pos} (ha : SEs X W ct a fa) : SE X W ct (.Subscript a (.Slice none none (some (.UnaryOp .USub (.Constant (.int 1) k p1) p2)) p3) pos) (fa.bnd fun x => (Mo.opd x).bnd fun d => match d with
    | .lst ds => Mo.ret (.fr (.lst ds.reverse))
    | _ => fun _ => none) := by
  obtain ⟨ta, pa, ka⟩ := ha
  refine ⟨_, pe_revL pa, fun B σ Hb H env Q S q => ka B σ Hb H env _ S (q.bnd.same fun x e1 g1 v Hb1 H1 S1 le1 sh1 nx rx => ?_)⟩
  obtain ⟨d, hd, g2⟩ := g1.bnd.opd
  have hv := S1.view rx hd
  cases d with
  | lst ds =>
    obtain ⟨p, xs, rfl, h1, h2⟩ := hv
    refine ⟨p, xs, rfl, SqL.of h1, fun q hq => ?_⟩
    obtain ⟨S4, r4⟩ := S1.madeL hq h2.rev
    exact g2 _ Hb1 _ S4 le1 sh1 r4
  | _ => exact False.elim g2
/-! the machine's functions -/
theorem SE.blt {x : Str} {p : Pos} {r : List V → Hp → VK → Prop} {g : List D → Option RV} (hb : BltOk X x r) (ho : OpA X r g) (hg : Gl X x) (hm : X.mg x = none) (hp : allPlain (e :: es) = true) (h : SA X W ct (e :: es) fs) :
    SE X W ct (.Call (.Name x p) (e :: es) [] pos) (fs.bnd fun rs env => match opds env rs with
      | some ds => Mo.lift (g ds) env
      | none => none) := by
  obtain ⟨ts, ps, ks⟩ := h
  refine ⟨_, hb.pe e es ts p pos hg hm hp ps, fun B σ Hb H env Q S q => ks B σ Hb H env _ S (q.bnd.same fun rs e1 g1 vs Hb1 H1 S1 le1 sh1 rv => ?_)⟩
  have g1 : GotE (match opds e1 rs with
      | some ds => Mo.lift (g ds) e1
      | none => none) (fun r env' => ∀ v Hb' H', Stt X.K B env' σ Hb' H' → Le Hb Hb' → Shp env env' → RVOk X.K B env' σ Hb' H' v r → Q v H') (Xw X W ct B σ Hb) := g1
  cases hd : opds e1 rs with
  | none => rw [hd] at g1; exact False.elim g1
  | some ds =>
    rw [hd] at g1
    obtain ⟨w, hw, g2⟩ := g1.lift
    exact ho B e1 σ Hb1 H1 S1 ds vs w hw (S1.views rv hd) Q fun v Hb' H' S' le' rv' => g2 v Hb' H' S' (le1.trans le') sh1 rv'
theorem SE.listRng {p p2 q : Pos} (hc : X.calm = true) (hg : Gl X "list") (hm : X.mg "list" = none) (hg2 : Gl X "range") (hm2 : X.mg "range" = none) (hn : notStar e = true) (h : SEs X W ct e fe) :
    SE X W ct (.Call (.Name "list" p) [.Call (.Name "range" p2) [e] [] q] [] pos) ((fe.bnd fun x => Mo.ret [x]).bnd fun rs env => match opds env rs with
      | some ds => Mo.lift (bltD .listRng ds) env
      | none => none) := by
  obtain ⟨te, pe, ke⟩ := h
  refine ⟨_, pe_listRg hc hg hm (prg_1 hg2 hm2 pe (starEach_plain hn)), fun B σ Hb H env Q S q => ke B σ Hb H env _ S ((GotE.bnd (GotE.bnd q)).same fun r e1 g1 v Hb1 H1 S1 le1 sh1 nr rv => ?_)⟩
  have g1 : GotE (match opds e1 [r] with
      | some ds => Mo.lift (bltD .listRng ds) e1
      | none => none) (fun r env' => ∀ v Hb' H', Stt X.K B env' σ Hb' H' → Le Hb Hb' → Shp env env' → RVOk X.K B env' σ Hb' H' v r → Q v H') (Xw X W ct B σ Hb) := g1
  cases hd : opds e1 [r] with
  | none => rw [hd] at g1; exact False.elim g1
  | some ds =>
    rw [hd] at g1
    obtain ⟨w, hw, g2⟩ := g1.lift
    unfold opds at hd
    split at hd
    · rename_i d ds' h1 h2
      cases h2
      cases hd
      have hv := S1.view rv h1
      cases d <;> simp only [bltD] at hw <;> try cases hw
      rename_i n
      split at hw
      · rename_i hn
        cases hw
        refine ⟨n, hv, ⟨by omega, by omega, by omega, by omega, by omega⟩, fun q hq => ?_⟩
        have rp : RpAll X.K Hb1 ((List.range n.toNat).map fun (k : Nat) => D.int (k : Int)) (rgV 0 n) := by
          unfold rgV
          have e : (n - 0).toNat = n.toNat := by omega
          rw [e]
          have z := rp_ints (K := X.K) (Hb := Hb1) ((List.range n.toNat).map fun (k : Nat) => (k : Int))
          rw [List.map_map, List.map_map] at z
          simpa [Function.comp_def] using z
        obtain ⟨S4, r4⟩ := S1.madeL hq rp
        exact g2 _ Hb1 _ S4 le1 sh1 r4
      · cases hw
    · cases hd
end
/-! ### calls of defs -/
section
variable {K : Fg} {B : Bs} {env : Evn} {σ : L2.St} {Hb Hc Hb' H' : Hp}
/-- behind a call that changes nothing handed in -/
theorem Stt.aft0 (S : Stt K B env σ Hb Hc) (A : Aft Hb Hc Hb' H' (fun _ => False)) : Stt K B env σ Hb' H' where
  len := S.len
  sub := A.sub
  im := fun i d e => by obtain ⟨v, h1, h2⟩ := S.im i d e; exact ⟨v, h1, Rp.mono A.le _ _ h2⟩
  ow := fun i o e => by
    obtain ⟨a, h1, h2, h3, h4⟩ := S.ow i o e
    obtain ⟨u, hu⟩ := h3.there
    have hn : Hb' a = none := by
      cases q : Hb' a with
      | none => rfl
      | some x => rw [A.frs a x q h2] at hu; cases hu
    exact ⟨a, h1, hn, h3.mono A.le (by rw [A.keep a u hu (fun z => z), hu]), h4⟩
  inj := S.inj
  exb := S.exb.trans A.le
  keep := fun b o e n => A.keep b o (S.keep b o e n) fun z => z
  frs := fun b o e n => by
    cases q : Hb b with
    | some x => exact S.frs b x q n
    | none => exact .inl (S.fresh (A.frs b o e q)).1
  iot := fun b z => by obtain ⟨o, e⟩ := S.iot b z; exact ⟨o, A.keep b o e fun z => z⟩
/-- behind a call that changes the thing owned by slot i -/
theorem Stt.aft1 (S : Stt K B env σ Hb Hc) {i : Nat} {o o' : OB} {a : Addr} (h : env[i]? = some (.ow o)) (ha : σ[i]? = some (some (.ref a))) (A : Aft Hb Hc Hb' H' (fun b => a = b)) (k1 : Hb' a = none) (k2 : OBat K Hb' H' a o') : Stt K B (env.set i (.ow o')) σ Hb' H' := by
  obtain ⟨a', h1, h2, h3, h4⟩ := S.ow i o h
  rw [ha] at h1; cases h1
  have hl := lt_of_get h
  refine ⟨by rw [List.length_set]; exact S.len, A.sub, fun j d e => ?_, fun j o1 e => ?_, fun j k o1 o2 b e1 e2 => ?_, S.exb.trans A.le, fun b x e n => ?_, fun b x e n => ?_, fun b z => ?_⟩
  · by_cases hij : i = j
    · subst hij; rw [get_set_eq hl] at e; cases e
    · rw [get_set_ne hij] at e
      obtain ⟨v, q1, q2⟩ := S.im j d e
      exact ⟨v, q1, Rp.mono A.le _ _ q2⟩
  · by_cases hij : i = j
    · subst hij
      rw [get_set_eq hl] at e; cases e
      exact ⟨a, ha, k1, k2, h4⟩
    · rw [get_set_ne hij] at e
      obtain ⟨b, q1, q2, q3, q4⟩ := S.ow j o1 e
      have nb : a ≠ b := fun z => hij (S.inj i j o o1 a h e ha (by rw [q1, z]))
      obtain ⟨u, hu⟩ := q3.there
      have hn : Hb' b = none := by
        cases q : Hb' b with
        | none => rfl
        | some x => rw [A.frs b x q q2] at hu; cases hu
      exact ⟨b, q1, hn, q3.mono A.le (by rw [A.keep b u hu nb, hu]), q4⟩
  · have g : ∀ (m : Nat) (o3 : OB), (env.set i (.ow o'))[m]? = some (.ow o3) → ∃ o4, env[m]? = some (.ow o4) := fun m o3 e => by
      by_cases him : i = m
      · subst him; exact ⟨o, h⟩
      · rw [get_set_ne him] at e; exact ⟨o3, e⟩
    obtain ⟨o4, g1⟩ := g _ _ e1
    obtain ⟨o5, g2⟩ := g _ _ e2
    exact S.inj j k o4 o5 b g1 g2
  · have nb : a ≠ b := fun z => by
      subst z
      split at h4
      · exact n h4
      · rw [h4.1] at e; cases e
    exact A.keep b x (S.keep b x e n) nb
  · cases q : Hb b with
    | some y => exact S.frs b y q n
    | none => exact .inl (S.fresh (A.frs b x e q)).1
  · obtain ⟨y, e⟩ := S.iot b z
    by_cases hb : a = b
    · subst hb; exact k2.there
    · exact ⟨y, A.keep b y e hb⟩
theorem RetOk.rv (S : Stt K B env σ Hb Hc) {env' : Evn} {v : V} {r : RV} (h : RetOk K Hc Hb' H' v r) (sh : Shp env env') : RVOk K B env' σ Hb' H' v r := by
  cases r with
  | val d => exact h
  | bo i => exact False.elim h
  | fr o =>
    obtain ⟨p, e, h1, h2, h3⟩ := h
    refine ⟨p, e, h1, h2, (S.fresh h3).1, (S.fresh h3).2, fun i o' e1 z => ?_⟩
    obtain ⟨o1, e2⟩ := sh i o' e1
    exact S.nofr h3 i o1 e2 z
end
section
variable {X : Cx} {W : WX} {ct : Nat → Addr} {a b c e : Expr} {es : List Expr} {fa fb fe f : Mo RV} {fs : Mo (List RV)} {pos p : Pos} {k n : Nat} {x : Str} {ps : List Str} {io : Bool} {Φ : Fn}
theorem SE.call {kl : List (List Str × List Nat)} (F : FnAt X.prog X.w X.K X.mg X.base ct k x ps kl (fun o ds => if o.isSome = io then Φ n o ds else none)) (hr : Room k X.A) (hgd : X.A.guards = some []) (hg : Gl X x) (tk : Takes X W) (hdb : (x == ("__debug__" : Str)) = false) (hp : allPlain (e :: es) = true) (hl : (e :: es).length = ps.length)
    (ht : ∀ env rs, (∃ e', fs env = some (.ok rs e')) → rs.length = ps.length) (h : SA X W ct (e :: es) fs) : SE X W ct (.Call (.Name x p) (e :: es) [] pos) (fs.bnd fun rs => callD Φ n io rs) := by
  obtain ⟨ts, pa, ks⟩ := h
  obtain ⟨fa, fd, hm, hk, hb, _, F⟩ := F
  refine ⟨_, pe_callF F hr hgd hg hm hk hb tk pa hdb hp, fun B σ Hb H env Q S q => ks B σ Hb H env _ S ?_⟩
  have q1 := q.bnd
  cases hf : fs env with
  | none => rw [hf] at q1; exact False.elim q1
  | some t =>
  cases t with
  | ex c e1 => rw [hf] at q1; exact q1
  | ok rs e1 =>
  rw [hf] at q1
  have hlen := ht env rs ⟨e1, hf⟩
  intro vs Hb1 H1 S1 le1 sh1 rv
  have lv : ∀ {rs : List RV} {vs : List V}, RVsOk X.K B e1 σ Hb1 H1 rs vs → rs.length = vs.length := by
    intro rs
    induction rs with
    | nil => intro vs h; cases h; rfl
    | cons r rs ih => intro vs ⟨v, vs', e, _, _, h⟩; subst e; simp [ih h]
  refine ⟨by rw [← lv rv]; exact hlen, ?_⟩
  have q1 : GotE (callD Φ n io rs e1) (fun r env' => ∀ v Hb' H', Stt X.K B env' σ Hb' H' → Le Hb Hb' → Shp env env' → RVOk X.K B env' σ Hb' H' v r → Q v H') (Xw X W ct B σ Hb) := q1
  cases io with
  | false =>
    unfold callD at q1
    rw [if_neg Bool.false_ne_true] at q1
    obtain ⟨ds, e2, Hb2, g2, le2, sh2, S2, rp⟩ := S1.imms rv (GotE.bnd q1)
    refine ⟨Hb2, none, ds, none, S2.sub, rp, ?_⟩
    simp only [Option.isSome_none, if_true]
    cases hφ : Φ n none ds with
    | none => simp only [hφ] at g2; exact False.elim g2
    | some t =>
      cases t with
      | ok r io' =>
        cases io' with
        | some o => simp only [hφ] at g2; exact False.elim g2
        | none =>
          simp only [hφ] at g2
          intro v Hb' H' A _ rt
          have A' : Aft Hb2 H1 Hb' H' (fun _ => False) := ⟨A.le, A.sub, fun b o e z => A.keep b o e (fun z => nomatch z), A.frs⟩
          exact g2 v Hb' H' (S2.aft0 A') ((le1.trans le2).trans A.le) (sh1.trans sh2) (RetOk.rv S2 rt (Shp.refl _))
      | ex c =>
        simp only [hφ] at g2
        intro Hb' H' A
        have A' : Aft Hb2 H1 Hb' H' (fun _ => False) := ⟨A.le, A.sub, fun b o e z => A.keep b o e (fun z => nomatch z), A.frs⟩
        exact g2 Hb' H' (S2.aft0 A') ((le1.trans le2).trans A.le)
  | true =>
    unfold callD at q1
    rw [if_pos rfl] at q1
    cases rs with
    | nil => exact False.elim q1
    | cons r0 rs' =>
    cases r0 with
    | val d => exact False.elim q1
    | fr o => exact False.elim q1
    | bo i =>
    obtain ⟨v0, vs', ev, h0, _, rv'⟩ := rv
    subst ev
    obtain ⟨ds, e2, Hb2, g2, le2, sh2, S2, rp⟩ := S1.imms rv' (GotE.bnd q1)
    cases ho : e2[i]? with
    | none => simp only [ho] at g2; exact False.elim g2
    | some t =>
    cases t with
    | un => simp only [ho] at g2; exact False.elim g2
    | im d => simp only [ho] at g2; exact False.elim g2
    | ow o =>
    simp only [ho] at g2
    obtain ⟨a, h1, h2, h3, h4⟩ := S2.ow i o ho
    have h0' : σ[i]? = some (some v0) := h0
    rw [h0'] at h1; cases h1
    refine ⟨Hb2, some o, ds, some a, S2.sub, ⟨vs', rfl, h2, h3, rp⟩, ?_⟩
    simp only [Option.isSome_some, if_true]
    cases hφ : Φ n (some o) ds with
    | none => simp only [hφ] at g2; exact False.elim g2
    | some t =>
      cases t with
      | ex c => simp only [hφ] at g2; exact False.elim g2
      | ok r io' =>
        cases io' with
        | none => simp only [hφ] at g2; exact False.elim g2
        | some o' =>
          simp only [hφ] at g2
          intro v Hb' H' A ik rt
          have A' : Aft Hb2 H1 Hb' H' (fun b => a = b) := ⟨A.le, A.sub, fun b o e z => A.keep b o e (fun y => z (Option.some.inj y)), A.frs⟩
          exact g2 v Hb' H' (S2.aft1 ho h0' A' ik.1 ik.2) ((le1.trans le2).trans A.le) ((sh1.trans sh2).trans (Shp.set_ow ho)) (RetOk.rv S2 rt (Shp.set_ow ho))
/-- the values of keywords -/
def SK (X : Cx) (W : WX) (ct : Nat → Addr) (kws : List Keyword) (f : Mo (List RV)) : Prop := ∃ ta : TA, PK X kws ta ∧ ∀ (B : Bs) (σ : L2.St) (Hb H : Hp) (env : Evn) (Q : List V → Hp → Prop), Stt X.K B env σ Hb H →
  GotE (f env) (fun rs env' => ∀ vs Hb' H', Stt X.K B env' σ Hb' H' → Le Hb Hb' → Shp env env' → RVsOk X.K B env' σ Hb' H' rs vs → Q vs H') (Xw X W ct B σ Hb) → ta σ H Q
theorem SK.nil : SK X W ct [] (Mo.ret []) := ⟨_, pk_nil, fun B σ Hb H env Q S q => q [] Hb H S (Le.refl _) (Shp.refl _) rfl⟩
theorem SK.cons {nm : Option Str} {kp : Pos} {kws : List Keyword} (h : SEs X W ct e fe) (k : SK X W ct kws fs) : SK X W ct (⟨nm, e, kp⟩ :: kws) (fe.bnd fun x => fs.bnd fun xs => Mo.ret (x :: xs)) := by
  obtain ⟨te, pe, ke⟩ := h
  obtain ⟨ts, ps, ks⟩ := k
  refine ⟨_, pk_cons pe ps, fun B σ Hb H env Q S q => ke B σ Hb H env _ S (q.bnd.same fun x e1 g1 v Hb1 H1 S1 le1 sh1 nx rx => ks B σ Hb1 H1 e1 _ S1 (g1.bnd.imp (fun xs e2 g2 vs Hb2 H2 S2 le2 sh2 rs => ?_) fun c e h => Xw.mono (X := X) le1 h))⟩
  exact g2 _ Hb2 H2 S2 (le1.trans le2) (sh1.trans sh2) ⟨v, vs, rfl, rx.keep nx le2, nx, rs⟩
theorem RVsOk.len {K : Fg} {B : Bs} {env : Evn} {σ : L2.St} {Hb H : Hp} : ∀ {rs : List RV} {vs : List V}, RVsOk K B env σ Hb H rs vs → rs.length = vs.length
  | [], _, h => by cases h; rfl
  | r :: rs, _, ⟨v, vs', e, _, _, h⟩ => by subst e; simp [RVsOk.len h]
theorem RVsOk.get {K : Fg} {B : Bs} {env : Evn} {σ : L2.St} {Hb H : Hp} : ∀ {rs : List RV} {vs : List V} {i : Nat} {r : RV}, RVsOk K B env σ Hb H rs vs → rs[i]? = some r → ∃ v, vs[i]? = some v ∧ RVOk K B env σ Hb H v r ∧ NoFr r
  | [], _, _, _, _, h => by simp at h
  | r :: rs, _, 0, _, ⟨v, vs', e, h1, h2, h⟩, q => by subst e; cases q; exact ⟨v, rfl, h1, h2⟩
  | r :: rs, _, i + 1, _, ⟨v, vs', e, h1, h2, h⟩, q => by subst e; exact RVsOk.get (i := i) h (by simpa using q)
theorem RVsOk.perm {K : Fg} {B : Bs} {env : Evn} {σ : L2.St} {Hb H : Hp} {perm : List Nat} : ∀ {rs rs' : List RV} {vs : List V}, RVsOk K B env σ Hb H rs vs → permL perm rs = some rs' → ∃ vs', permL perm vs = some vs' ∧ RVsOk K B env σ Hb H rs' vs' := by
  induction perm with
  | nil => intro rs rs' vs r h; cases h; exact ⟨[], rfl, rfl⟩
  | cons i perm ih =>
    intro rs rs' vs r h
    unfold permL at h ⊢
    rw [List.mapM_cons] at h ⊢
    cases hz : rs[i]? with
    | none => rw [hz] at h; cases h
    | some z =>
      cases hr : permL perm rs with
      | none =>
        unfold permL at hr
        rw [hz, hr] at h; cases h
      | some vr =>
        obtain ⟨ws, hw, rw'⟩ := ih r hr
        unfold permL at hr hw
        rw [hz, hr] at h
        cases h
        obtain ⟨u, hu, ru, nr⟩ := r.get hz
        exact ⟨u :: ws, by rw [hu, hw]; rfl, ⟨u, ws, rfl, ru, nr, rw'⟩⟩
theorem permL_len {α : Type} {l l' : List α} : ∀ {perm : List Nat}, permL perm l = some l' → l'.length = perm.length := by
  intro perm
  induction perm generalizing l' with
  | nil => intro h; cases h; rfl
  | cons i perm ih =>
    intro h
    unfold permL at h
    rw [List.mapM_cons] at h
    cases hz : l[i]? with
    | none => rw [hz] at h; cases h
    | some z =>
      cases hr : permL perm l with
      | none =>
        unfold permL at hr
        rw [hz, hr] at h; cases h
      | some vr =>
        have := ih hr
        unfold permL at hr
        rw [hz, hr] at h
        cases h
        simp [this]
theorem SE.callK {kl : List (List Str × List Nat)} {ks : List Str} {perm : List Nat} {kws : List Keyword} (F : FnAt X.prog X.w X.K X.mg X.base ct k x ps kl (fun o ds => if o.isSome = false then Φ n o ds else none)) (hr : Room k X.A) (hgd : X.A.guards = some []) (hg : Gl X x) (tk : Takes X W) (hdb : (x == ("__debug__" : Str)) = false)
    (hn : kwNames kws = some ks) (hq : (ks, perm) ∈ kl) (hl : kws.length = ps.length) (hpl : perm.length = ps.length) (ht : ∀ env rs, (∃ e', fs env = some (.ok rs e')) → rs.length = kws.length) (h : SK X W ct kws fs) :
    SE X W ct (.Call (.Name x p) [] kws pos) (fs.bnd fun rs => match permL perm rs with
      | some rs' => callD Φ n false rs'
      | none => fun _ => none) := by
  obtain ⟨ts, pa, ks'⟩ := h
  obtain ⟨fa, fd, hm, hk, _, hb, F⟩ := F
  refine ⟨_, pe_callKF F hr hgd hg hm hk hb hq tk pa hn hdb, fun B σ Hb H env Q S q => ks' B σ Hb H env _ S ?_⟩
  have q1 := q.bnd
  cases hf : fs env with
  | none => rw [hf] at q1; exact False.elim q1
  | some t =>
  cases t with
  | ex c e1 => rw [hf] at q1; exact q1
  | ok rs0 e1 =>
  rw [hf] at q1
  have hlen := ht env rs0 ⟨e1, hf⟩
  intro zs Hb1 H1 S1 le1 sh1 rv0
  refine ⟨by rw [← rv0.len, hlen, hl], ?_⟩
  have q1 : GotE ((match permL perm rs0 with
      | some rs' => callD Φ n false rs'
      | none => fun _ => none) e1) (fun r env' => ∀ v Hb' H', Stt X.K B env' σ Hb' H' → Le Hb Hb' → Shp env env' → RVOk X.K B env' σ Hb' H' v r → Q v H') (Xw X W ct B σ Hb) := q1
  cases hp : permL perm rs0 with
  | none => rw [hp] at q1; exact False.elim q1
  | some rs =>
  obtain ⟨vs, hv, rv⟩ := rv0.perm hp
  refine ⟨vs, hv, by rw [permL_len hv, hpl], ?_⟩
  rw [hp] at q1
  have q1 : GotE (callD Φ n false rs e1) (fun r env' => ∀ v Hb' H', Stt X.K B env' σ Hb' H' → Le Hb Hb' → Shp env env' → RVOk X.K B env' σ Hb' H' v r → Q v H') (Xw X W ct B σ Hb) := q1
  unfold callD at q1
  rw [if_neg Bool.false_ne_true] at q1
  obtain ⟨ds, e2, Hb2, g2, le2, sh2, S2, rp⟩ := S1.imms rv (GotE.bnd q1)
  refine ⟨Hb2, none, ds, none, S2.sub, rp, ?_⟩
  simp only [Option.isSome_none, if_true]
  cases hφ : Φ n none ds with
  | none => simp only [hφ] at g2; exact False.elim g2
  | some t =>
    cases t with
    | ok r io' =>
      cases io' with
      | some o => simp only [hφ] at g2; exact False.elim g2
      | none =>
        simp only [hφ] at g2
        intro v Hb' H' A _ rt
        have A' : Aft Hb2 H1 Hb' H' (fun _ => False) := ⟨A.le, A.sub, fun b o e z => A.keep b o e (fun z => nomatch z), A.frs⟩
        exact g2 v Hb' H' (S2.aft0 A') ((le1.trans le2).trans A.le) (sh1.trans sh2) (RetOk.rv S2 rt (Shp.refl _))
    | ex c =>
      simp only [hφ] at g2
      intro Hb' H' A
      have A' : Aft Hb2 H1 Hb' H' (fun _ => False) := ⟨A.le, A.sub, fun b o e z => A.keep b o e (fun z => nomatch z), A.frs⟩
      exact g2 Hb' H' (S2.aft0 A') ((le1.trans le2).trans A.le)
end
end HB

set_option Elab.async false
set_option linter.all false
set_option maxRecDepth 100000
set_option maxHeartbeats 2000000
/-! HBSnd7: methods, isinstance, what is walked. -/
namespace HB
open PySem PySem.Spec PyProof.Rows L2

section
variable {X : Cx} {W : WX} {ct : Nat → Addr} {a b c e o : Expr} {es : List Expr} {fa fb fe f fo : Mo RV} {fs : Mo (List RV)} {pos p : Pos}
/-! ### methods that change a list -/
/-- what a method's rule asks is what mutD says -/
def MutOk (X : Cx) (m : Mth) (r : V → List V → Hp → VK → Prop) : Prop := ∀ (Hb H : Hp) (a : Addr) (ob o' : OB) (ds : List D) (d : D) (vs : List V) (Q : VK), Le Hb H → OBat X.K Hb H a ob → RpAll X.K Hb ds vs → mutD m ob ds = some (d, o') →
  (∀ v u, Rp X.K Hb d v → OBat X.K Hb (upd H a u) a o' → Q v (upd H a u)) → r (.ref a) vs H Q
theorem mut_append : MutOk X .append rAppend := by
  intro Hb H a ob o' ds d vs Q le h rp hm q
  cases ob <;> simp only [mutD] at hm <;> try cases hm
  rename_i xs
  match ds, hm with
  | [d1], hm =>
    simp only at hm
    split at hm
    · rename_i hl
      cases hm
      obtain ⟨ys, h1, h2⟩ := h
      obtain ⟨y, vs', rfl, r1, r2⟩ := rp
      cases r2
      exact ⟨a, ys, y, rfl, rfl, h1, by rw [← h2.length]; exact lim_lt hl, q .non _ rfl ⟨_, upd_same, h2.app (RpAll.one r1)⟩⟩
    · cases hm
theorem mut_pop : MutOk X .pop rPop := by
  intro Hb H a ob o' ds d vs Q le h rp hm q
  cases ob <;> simp only [mutD] at hm <;> try cases hm
  rename_i xs
  match ds, hm with
  | [], hm =>
    obtain ⟨d1, hd, e⟩ := Option.map_eq_some_iff.mp hm
    cases e
    obtain ⟨ys, h1, h2⟩ := h
    cases rp
    obtain ⟨y, hy, r1⟩ := h2.get hd
    have dl : ∀ {ds : List D} {xs : List V}, RpAll X.K Hb ds xs → RpAll X.K Hb ds.dropLast xs.dropLast := fun {ds xs} h => by
      rw [List.dropLast_eq_take, List.dropLast_eq_take, ← h.length]; exact h.take _
    exact ⟨a, ys, y, rfl, rfl, h1, by rw [← h2.length]; exact hy, q y _ r1 ⟨_, upd_same, dl h2⟩⟩
theorem mut_popAt : MutOk X .popAt rPopAt := by
  intro Hb H a ob o' ds d vs Q le h rp hm q
  cases ob <;> simp only [mutD] at hm <;> try cases hm
  rename_i xs
  match ds, hm with
  | [.int i], hm =>
    simp only at hm
    split at hm
    · rename_i hl
      obtain ⟨d1, hd, e⟩ := Option.map_eq_some_iff.mp hm
      cases e
      obtain ⟨ys, h1, h2⟩ := h
      obtain ⟨y, vs', rfl, r1, r2⟩ := rp
      cases r1
      cases r2
      obtain ⟨y, hy, r1⟩ := h2.get hd
      have hlt : i.toNat < ys.length := lt_of_get hy
      exact ⟨a, ys, i, i.toNat, y, rfl, rfl, h1, by omega, by omega, by rw [seqIndex_of hl.1 (by omega)], hy, q y _ r1 ⟨_, upd_same, h2.erase _⟩⟩
    · cases hm
theorem mut_extend : MutOk X .extend rExtend := by
  intro Hb H a ob o' ds d vs Q le h rp hm q
  cases ob <;> simp only [mutD] at hm <;> try cases hm
  rename_i xs
  match ds, hm with
  | [.lst ys], hm =>
    simp only at hm
    split at hm
    · rename_i hl
      cases hm
      obtain ⟨zs, h1, h2⟩ := h
      obtain ⟨y, vs', rfl, ⟨b, ws, rfl, r1, r3⟩, r2⟩ := rp
      cases r2
      exact ⟨a, b, zs, ws, rfl, rfl, h1, le b _ r1, by rw [← h2.length, ← r3.length]; exact lim_le hl, q .non _ rfl ⟨_, upd_same, h2.app r3⟩⟩
    · cases hm
theorem mth_rd {m : Mth} {r : V → List V → Hp → VK → Prop} (hi : isMut m = true) (mo : MutOk X m r) {B : Bs} {σ : L2.St} {Hb H : Hp} {env : Evn} {Q : VK} {v : V} {vs : List V} {rv : RV} {rs : List RV} (S : Stt X.K B env σ Hb H) (hn : NoFr rv) (hv : RVOk X.K B env σ Hb H v rv)
    (hs : RVsOk X.K B env σ Hb H rs vs) {R : Nat → Evn → Prop} (q : GotE (methD m rv rs env) (fun r env' => ∀ v Hb' H', Stt X.K B env' σ Hb' H' → Le Hb Hb' → Shp env env' → RVOk X.K B env' σ Hb' H' v r → Q v H') R) : r v vs H Q := by
  unfold methD at q
  rw [if_pos hi] at q
  cases rv with
  | val d => exact False.elim q
  | fr o => exact hn.elim
  | bo i =>
  obtain ⟨ds, e2, Hb2, g2, le2, sh2, S2, rp⟩ := S.imms hs (GotE.bnd q)
  cases ho : e2[i]? with
  | none => simp only [ho] at g2; exact False.elim g2
  | some t =>
  cases t with
  | un => simp only [ho] at g2; exact False.elim g2
  | im d => simp only [ho] at g2; exact False.elim g2
  | ow o =>
  simp only [ho] at g2
  cases hm : mutD m o ds with
  | none => simp only [hm] at g2; exact False.elim g2
  | some t =>
  obtain ⟨d, o'⟩ := t
  simp only [hm] at g2
  obtain ⟨a, h1, h2, h3, h4⟩ := S2.ow i o ho
  have hv' : σ[i]? = some (some v) := hv
  rw [hv'] at h1; cases h1
  refine mo Hb2 H a o o' ds d vs Q S2.sub h3 rp hm fun w u rw' ob => ?_
  exact g2 w Hb2 _ (S2.write ho hv' ob) le2 (sh2.trans (Shp.set_ow ho)) rw'
theorem SE.meth {m : Mth} {name : Str} {id : String} {r : V → List V → Hp → VK → Prop} {apos : Pos} (slot : Slot "list" name id) (hty : typeOf (.builtin id) = pure (.type "method_descriptor")) (hm : MtR X id r) (hi : isMut m = true) (mo : MutOk X m r)
    (hbase : attributeBase o name X.env (eval o X.env) = eval o X.env) (hline : (apos.endLine == pos.line) = true) (hp : allPlain (e :: es) = true) (hf : (e :: es).length < 20) (ho : SEs X W ct o fo) (h : SA X W ct (e :: es) fs) :
    SE X W ct (.Call (.Attribute o name apos) (e :: es) [] pos) (fo.bnd fun r => (Mo.opd r).bnd fun d => match d with
      | .lst _ => fs.bnd fun rs => methD m r rs
      | _ => fun _ => none) := by
  obtain ⟨to, po, ko⟩ := ho
  obtain ⟨ts, ps, ks⟩ := h
  have h' : notStar e = true ∧ allPlain es = true := by simpa [allPlain] using hp
  have all : ∀ (es : List Expr), allPlain es = true → (backTo pos (starEach es X.env)).all (fun x => !x.1) = true := by
    intro es
    induction es with
    | nil => intro _; rfl
    | cons e es ih =>
      intro h
      have h' : notStar e = true ∧ allPlain es = true := by simpa [allPlain] using h
      rw [starEach_plain h'.1]
      show (!false && (backTo pos (starEach es X.env)).all (fun x => !x.1)) = true
      rw [ih h'.2]
      rfl
  have few : ((backTo pos (starEach (e :: es) X.env)).all (fun x => !x.1) && (backToKw pos (keywordEach [] X.env)).all (fun x => x.1.isSome) && decide ((e :: es).length + ([] : List Keyword).length + (if ([] : List Keyword).isEmpty then 0 else 1) < 30)) = true := by
    rw [all _ hp]
    have k : (backToKw pos (keywordEach [] X.env)).all (fun x => x.1.isSome) = true := rfl
    rw [k]
    have d : decide ((e :: es).length + ([] : List Keyword).length + (if ([] : List Keyword).isEmpty then 0 else 1) < 30) = true := by
      simp only [List.isEmpty_nil, if_true, decide_eq_true_eq, List.length_nil]; omega
    rw [d]
    rfl
  refine ⟨_, pe_bm PySem.F.plainAttrs_list slot hty hm po ps hbase few hline (starEach_plain h'.1) (backTo_plain h'.2), fun B σ Hb H env Q S q => ko B σ Hb H env _ S (q.bnd.same fun rv e1 g1 v Hb1 H1 S1 le1 sh1 nx rx => ?_)⟩
  obtain ⟨d, hd, g2⟩ := g1.bnd.opd
  have hv := S1.view rx hd
  cases d with
  | lst ds =>
    obtain ⟨a, xs, e0, h1, h2⟩ := hv
    refine ⟨by rw [e0]; exact .inl ⟨rfl, xs, SqL.of h1⟩, ?_⟩
    refine ks B σ Hb1 H1 e1 _ S1 (GotE.imp (GotE.bnd g2) (fun rs e2 g3 vs Hb2 H2 S2 le2 sh2 rs' => ?_) fun c e h => Xw.mono (X := X) le1 h)
    exact mth_rd hi mo S2 nx (rx.keep nx le2) rs' (g3.same fun r e3 g4 v Hb3 H3 S3 le3 sh3 rv => g4 v Hb3 H3 S3 ((le1.trans le2).trans le3) ((sh1.trans sh2).trans sh3) rv)
  | _ => exact False.elim g2
theorem SE.meth0 {m : Mth} {name : Str} {id : String} {r : V → List V → Hp → VK → Prop} {apos : Pos} (slot : Slot "list" name id) (hty : typeOf (.builtin id) = pure (.type "method_descriptor")) (hm : MtR X id r) (hi : isMut m = true) (mo : MutOk X m r)
    (hbase : attributeBase o name X.env (eval o X.env) = eval o X.env) (hline : (apos.endLine == pos.line) = true) (ho : SEs X W ct o fo) :
    SE X W ct (.Call (.Attribute o name apos) [] [] pos) (fo.bnd fun r => (Mo.opd r).bnd fun d => match d with
      | .lst _ => (Mo.ret []).bnd fun rs => methD m r rs
      | _ => fun _ => none) := by
  obtain ⟨to, po, ko⟩ := ho
  refine ⟨_, pe_bm0 PySem.F.plainAttrs_list slot hty hm po hbase hline, fun B σ Hb H env Q S q => ko B σ Hb H env _ S (q.bnd.same fun rv e1 g1 v Hb1 H1 S1 le1 sh1 nx rx => ?_)⟩
  obtain ⟨d, hd, g2⟩ := g1.bnd.opd
  have hv := S1.view rx hd
  cases d with
  | lst ds =>
    obtain ⟨a, xs, e0, h1, h2⟩ := hv
    refine ⟨by rw [e0]; exact .inl ⟨rfl, xs, SqL.of h1⟩, ?_⟩
    have g3 := GotE.bnd g2
    exact mth_rd hi mo S1 nx rx (rs := []) (vs := []) rfl (GotE.same g3 fun r e3 g4 v Hb3 H3 S3 le3 sh3 rv => g4 v Hb3 H3 S3 (le1.trans le3) (sh1.trans sh3) rv)
  | _ => exact False.elim g2
/-! ### isinstance -/
def tyN : D → String
  | .non => "NoneType"
  | .bl _ => "bool"
  | .int _ => "int"
  | .str _ => "str"
  | .lst _ => "list"
  | .tup _ => "tuple"
  | .frz _ => "list"
  | .dK _ _ => "dict"
  | .dT _ _ => "dict"
def tycN : Tyc → String
  | .int => "int"
  | .bool => "bool"
  | .str => "str"
  | .list => "list"
  | .tuple => "tuple"
  | .dict => "dict"
  | .cls _ => ""
theorem kit_of_ty {K : Fg} {d : D} {t : Tyc} {b : Bool} (h : tyD d t = some b) : PySem.W.kitOne K (.type (tyN d)) (.type (tycN t)) = some b := by
  cases d <;> cases t <;> simp only [tyD] at h <;> cases h <;> rfl
theorem kits_of_ty {K : Fg} {d : D} : ∀ {ts : List Tyc} {b : Bool}, tysD d ts = some b → PySem.W.kitAny K (.type (tyN d)) (ts.map fun t => Value.type (tycN t)) = some b
  | [], _, h => by cases h; rfl
  | t :: ts, b, h => by
    unfold tysD at h
    split at h
    · rename_i x y h1 h2
      cases h
      show (match PySem.W.kitOne K (.type (tyN d)) (.type (tycN t)) with
        | some true => some true
        | some false => PySem.W.kitAny K (.type (tyN d)) (ts.map fun t => Value.type (tycN t))
        | none => none) = _
      rw [kit_of_ty h1]
      cases x with
      | true => rfl
      | false => simpa using kits_of_ty h2
    · cases h
theorem ty_of_vw {K : Fg} {Hb H : Hp} {d : D} {v : V} (le : Le Hb H) (hf : ∀ ds, d ≠ .frz ds) (h : Vw K Hb H d v) : TyX K H v (.type (tyN d)) := by
  cases d with
  | non => cases h; exact .base .non
  | bl b => cases h; exact .base (.bl b)
  | int b => cases h; exact .base (.int b)
  | str b => cases h; exact .base (.str b)
  | lst ds => obtain ⟨a, xs, rfl, h1, _⟩ := h; exact .base (.lst h1)
  | tup ds =>
    obtain ⟨a, xs, rfl, h1, _⟩ := h
    rcases le.sqt h1 with (h1 | ⟨o, h1⟩) | ⟨o, its, n, h1, h2, _⟩
    · exact .base (.tup h1)
    · exact .fTuple h1
    · exact .kTuple h1 h2
  | frz ds => exact (hf ds rfl).elim
  | dK ks ds => obtain ⟨a, xs, rfl, h1, _⟩ := h; exact .base (.dK h1)
  | dT ks ds => obtain ⟨a, xs, rfl, h1, _⟩ := h; exact .base (.dT h1)
/-- a class's name -/
theorem tyc_pe {S : Sc} {t : Tyc} (hg : ∀ x, S.bl x = true → Gl X x ∧ X.mg x = none) (h : tycOf S e = some t) : PE X e (tC (.ty (tycN t))) ∧ notStar e = true ∧ isTup e = false := by
  cases e <;> simp only [tycOf] at h <;> try cases h
  rename_i x p
  rcases ite_or h with ⟨hb, h⟩ | ⟨_, h⟩
  · obtain ⟨g, m⟩ := hg x hb
    refine ⟨?_, rfl, rfl⟩
    rcases ite_or h with ⟨e, h⟩ | ⟨_, h⟩
    · cases h; subst e; exact pe_bltn g m boot_int rfl
    rcases ite_or h with ⟨e, h⟩ | ⟨_, h⟩
    · cases h; subst e; exact pe_bltn g m boot_bool rfl
    rcases ite_or h with ⟨e, h⟩ | ⟨_, h⟩
    · cases h; subst e; exact pe_bltn g m boot_str rfl
    rcases ite_or h with ⟨e, h⟩ | ⟨_, h⟩
    · cases h; subst e; exact pe_bltn g m boot_list rfl
    rcases ite_or h with ⟨e, h⟩ | ⟨_, h⟩
    · cases h; subst e; exact pe_bltn g m boot_tuple rfl
    rcases ite_or h with ⟨e, h⟩ | ⟨_, h⟩
    · cases h; subst e; exact pe_bltn g m boot_dict rfl
    · cases h
  · cases h
theorem tycs_pa {S : Sc} (hg : ∀ x, S.bl x = true → Gl X x ∧ X.mg x = none) : ∀ {es : List Expr} {ts : List Tyc}, tycsOf S es = some ts → PA X es (fun _ H Q => Q (ts.map fun t => V.ty (tycN t)) H) ∧ ts.length = es.length
  | [], ts, h => by cases h; exact ⟨pa_nil, rfl⟩
  | e :: es, ts, h => by
    unfold tycsOf at h
    split at h
    · rename_i t ts' h1 h2
      cases h
      obtain ⟨p1, p2, _⟩ := tyc_pe hg h1
      obtain ⟨p3, p4⟩ := tycs_pa hg h2
      exact ⟨pa_cons p1 p3 (starEach_plain p2), by simp [p4]⟩
    · cases h
theorem clsv_all : ∀ ts : List Tyc, Paired ClsV (ts.map fun t => V.ty (tycN t)) (ts.map fun t => Value.type (tycN t))
  | [] => .nil
  | t :: ts => .cons (.ty _) (clsv_all ts)
theorem tys_nofrz {d : D} {ts : List Tyc} {b : Bool} (h : tysD d ts = some b) (ht : ts ≠ []) : ∀ ds, d ≠ .frz ds := by
  intro ds z
  subst z
  cases ts with
  | nil => exact ht rfl
  | cons t ts =>
    unfold tysD at h
    split at h
    · rename_i x y h1 h2
      cases t <;> simp [tyD] at h1
    · cases h
theorem SE.isi {S : Sc} {t : Expr} {ts : List Tyc} (hg : ∀ x, S.bl x = true → Gl X x ∧ X.mg x = none) (hb : S.bl "isinstance" = true) (ht : tysArg S t = some ts) (hne : ts ≠ []) (hlen : ts.length ≤ 1000) (hn : notStar e = true) (h : SEs X W ct e fe) :
    SE X W ct (.Call (.Name "isinstance" p) [e, t] [] pos) (fe.bnd fun x => (Mo.opd x).bnd fun d => Mo.lift ((tysD d ts).map fun b => .val (.bl b))) := by
  obtain ⟨te, pe, ke⟩ := h
  obtain ⟨g0, m0⟩ := hg _ hb
  have one : ∀ {t1 : Tyc}, ts = [t1] → PE X t (tC (.ty (tycN t1))) → notStar t = true → SE X W ct (.Call (.Name "isinstance" p) [e, t] [] pos) (fe.bnd fun x => (Mo.opd x).bnd fun d => Mo.lift ((tysD d ts).map fun b => .val (.bl b))) := fun {t1} ets pt nt => by
    refine ⟨_, pe_callB call_isi g0 m0 PyProof.Rows.boot_isinstance (pa_cons pe (pa_cons pt pa_nil (starEach_plain nt)) (starEach_plain hn)) (by decide) (by decide) (starEach_plain hn) (backTo_plain (by simp [allPlain, nt])),
      fun B σ Hb H env Q S q => ke B σ Hb H env _ S (q.bnd.same fun x e1 g1 v Hb1 H1 S1 le1 sh1 nx rx => ?_)⟩
    obtain ⟨d, hd, g2⟩ := g1.bnd.opd
    obtain ⟨w, hw, g3⟩ := g2.lift
    obtain ⟨b', hb', rfl⟩ := Option.map_eq_some_iff.mp hw
    have k := kits_of_ty (K := X.K) hb'
    have z : tyD d t1 = some b' := by
      subst ets
      unfold tysD at hb'
      split at hb'
      · rename_i x y h1 h2
        cases hb'
        cases h2
        simpa using h1
      · cases hb'
    exact ⟨v, _, _, _, b', rfl, .ty _, ty_of_vw S1.sub (tys_nofrz hb' hne) (S1.view rx hd), kit_of_ty z, g3 _ Hb1 H1 S1 le1 sh1 rfl⟩
  have name : (tycOf S t).map ([·]) = some ts → SE X W ct (.Call (.Name "isinstance" p) [e, t] [] pos) (fe.bnd fun x => (Mo.opd x).bnd fun d => Mo.lift ((tysD d ts).map fun b => .val (.bl b))) := fun h => by
    obtain ⟨t1, h1, rfl⟩ := Option.map_eq_some_iff.mp h
    obtain ⟨p1, p2, _⟩ := tyc_pe hg h1
    exact one rfl p1 p2
  cases t with
  | Tuple cs k p3 =>
    obtain ⟨pa, pl⟩ := tycs_pa hg (show tycsOf S cs = some ts from ht)
    refine ⟨_, pe_callB call_isiT g0 m0 PyProof.Rows.boot_isinstance (pa_cons pe (pa_cons (pe_tup (x1 := k) pa) pa_nil rfl) (starEach_plain hn)) (by decide) (by decide) (starEach_plain hn) (backTo_plain rfl),
      fun B σ Hb H env Q S q => ke B σ Hb H env _ S (q.bnd.same fun x e1 g1 v Hb1 H1 S1 le1 sh1 nx rx => ?_)⟩
    obtain ⟨d, hd, g2⟩ := g1.bnd.opd
    obtain ⟨w, hw, g3⟩ := g2.lift
    obtain ⟨b', hb', rfl⟩ := Option.map_eq_some_iff.mp hw
    refine ⟨by rw [List.length_map]; exact Nat.le_trans hlen (by decide), fun q0 hq => ?_⟩
    have S2 := S1.newH (u := .tup (ts.map fun t => V.ty (tycN t))) hq
    exact ⟨v, q0, _, _, _, b', rfl, upd_same, clsv_all ts, ty_of_vw S2.sub (tys_nofrz hb' hne) (S2.view (rx.keep nx (Le.refl _)) hd), kits_of_ty hb', g3 _ Hb1 _ S2 le1 sh1 rfl⟩
  | _ => exact name ht
end
end HB

set_option Elab.async false
set_option linter.all false
set_option maxRecDepth 100000
set_option maxHeartbeats 2000000
/-! HBSnd8: targets, what is walked, comprehensions. -/
namespace HB
open PySem PySem.Spec PyProof.Rows L2

/-! ### targets -/
def gAll : List Nat → TGs
  | [] => gNil
  | i :: is => gCons (gName i) (gAll is)
def tgG (K : Fg) : List Nat → TG
  | [i] => gName i
  | is => gTup K is.length (gAll is)
section
variable {K : Fg} {B : Bs} {env : Evn} {σ : L2.St} {Hb H : Hp}
theorem Stt.store (S : Stt K B env σ Hb H) {i : Nat} {d : D} {v : V} (hl : i < env.length) (h : Rp K Hb d v) : Stt K B (env.set i (.im d)) (σ.set i (some v)) Hb H where
  len := by rw [List.length_set, List.length_set]; exact S.len
  sub := S.sub
  im := fun j e q => by
    by_cases hij : i = j
    · subst hij
      rw [get_set_eq hl] at q; cases q
      exact ⟨v, List.getElem?_set_self (by rw [S.len]; exact hl), h⟩
    · rw [get_set_ne hij] at q
      rw [List.getElem?_set_ne hij]
      exact S.im j e q
  ow := fun j o q => by
    by_cases hij : i = j
    · subst hij; rw [get_set_eq hl] at q; cases q
    · rw [get_set_ne hij] at q
      rw [List.getElem?_set_ne hij]
      exact S.ow j o q
  inj := fun j k o o' a q q' z z' => by
    by_cases hij : i = j
    · subst hij; rw [get_set_eq hl] at q; cases q
    · by_cases hik : i = k
      · subst hik; rw [get_set_eq hl] at q'; cases q'
      · rw [get_set_ne hij] at q; rw [get_set_ne hik] at q'
        rw [List.getElem?_set_ne hij] at z; rw [List.getElem?_set_ne hik] at z'
        exact S.inj j k o o' a q q' z z'
  exb := S.exb
  keep := S.keep
  frs := S.frs
  iot := S.iot
theorem wipe_set {i : Nat} {v : Option V} : ∀ {own : List Nat}, i ∈ own → wipe (σ.set i v) own = wipe σ own
  | j :: js, h => by
    unfold wipe
    by_cases hj : j = i
    · subst hj
      apply List.ext_getElem?
      intro m
      by_cases hm : j = m
      · subst hm
        by_cases hl : j < σ.length
        · rw [List.getElem?_set_self (by rw [wipe_length, List.length_set]; exact hl), List.getElem?_set_self (by rw [wipe_length]; exact hl)]
        · rw [List.getElem?_eq_none (by rw [List.length_set, wipe_length, List.length_set]; omega), List.getElem?_eq_none (by rw [List.length_set, wipe_length]; omega)]
      · rw [List.getElem?_set_ne hm, List.getElem?_set_ne hm]
        by_cases hin : j ∈ js
        · rw [wipe_set hin]
        · have : ∀ (σ : L2.St) (js : List Nat), wipe (σ.set j v) js = (wipe σ js) ∨ (wipe (σ.set j v) js)[m]? = (wipe σ js)[m]? := fun σ js => .inr (by
            induction js with
            | nil => exact List.getElem?_set_ne hm
            | cons k ks ih =>
              unfold wipe
              by_cases hk : k = m
              · subst hk
                by_cases hl : k < σ.length
                · rw [List.getElem?_set_self (by rw [wipe_length, List.length_set]; exact hl), List.getElem?_set_self (by rw [wipe_length]; exact hl)]
                · rw [List.getElem?_eq_none (by rw [List.length_set, wipe_length, List.length_set]; omega), List.getElem?_eq_none (by rw [List.length_set, wipe_length]; omega)]
              · rw [List.getElem?_set_ne hk, List.getElem?_set_ne hk]; exact ih)
          rcases this σ js with e | e
          · rw [e]
          · exact e
    · have hin : i ∈ js := by
        rcases List.mem_cons.mp h with e | h
        · exact absurd e.symm hj
        · exact h
      rw [wipe_set hin]
theorem wipe_get_in {i : Nat} : ∀ {own : List Nat}, i ∈ own → (wipe σ own)[i]? = if i < σ.length then some none else none
  | j :: js, h => by
    unfold wipe
    by_cases hj : j = i
    · subst hj
      by_cases hl : j < σ.length
      · rw [List.getElem?_set_self (by rw [wipe_length]; exact hl), if_pos hl]
      · rw [List.getElem?_eq_none (by rw [List.length_set, wipe_length]; omega), if_neg hl]
    · rw [List.getElem?_set_ne hj]
      rcases List.mem_cons.mp h with e | h
      · exact absurd e.symm hj
      · exact wipe_get_in h
theorem wipe_wipe (own : List Nat) : wipe (wipe σ own) own = wipe σ own := by
  apply List.ext_getElem?
  intro i
  by_cases h : i ∈ own
  · rw [wipe_get_in h, wipe_get_in h, wipe_length]
  · rw [wipe_get h]
theorem Shp.unown (own : List Nat) : Shp env (unown own env) := fun i o e => by
  rcases unown_get e with ⟨z, _⟩ | ⟨_, e⟩
  · cases z
  · exact ⟨o, e⟩
theorem gAll_rd {B : Bs} {Q : L2.St → Hp → Prop} : ∀ {is : List Nat} {ds : List D} {vs : List V} {env : Evn} {σ : L2.St}, Stt K B env σ Hb H → RpAll K Hb ds vs → ds.length = is.length → (∀ i ∈ is, i < env.length) →
    (∀ σ', Stt K B ((is.zip ds).foldl (fun e p => e.set p.1 (.im p.2)) env) σ' Hb H → Shp env ((is.zip ds).foldl (fun e p => e.set p.1 (.im p.2)) env) → (∀ own, (∀ i ∈ is, i ∈ own) → wipe σ' own = wipe σ own) → Q σ' H) → gAll is vs σ H Q
  | [], ds, vs, env, σ, S, rp, hl, _, q => by
    have e : ds = [] := List.length_eq_zero_iff.mp hl
    subst e
    cases rp
    exact ⟨rfl, q σ S (Shp.refl _) fun _ _ => rfl⟩
  | i :: is, [], _, _, _, _, _, hl, _, _ => by simp at hl
  | i :: is, d :: ds, vs, env, σ, S, ⟨v, vs', e, r1, r2⟩, hl, hi, q => by
    subst e
    have h0 := hi i List.mem_cons_self
    refine ⟨v, vs', rfl, ?_⟩
    refine gAll_rd (S.store h0 r1) r2 (by simpa using hl) (fun j hj => by rw [List.length_set]; exact hi j (List.mem_cons_of_mem _ hj)) fun σ' S' sh w => ?_
    refine q σ' S' ((Shp.set_im i d).trans sh) fun own ho => ?_
    rw [w own fun j hj => ho j (List.mem_cons_of_mem _ hj), wipe_set (ho i List.mem_cons_self)]
theorem bindT_tup {t : List Nat} {d : D} {env env' : Evn} (hn : ¬ ∃ i, t = [i]) (hb : bindT t d env = some env') : ∃ ds, d = .tup ds ∧ ds.length = t.length ∧ (∀ i ∈ t, i < env.length) ∧ env' = (t.zip ds).foldl (fun e p => e.set p.1 (.im p.2)) env := by
  unfold bindT at hb
  split at hb
  · rename_i i; exact (hn ⟨i, rfl⟩).elim
  · split at hb
    · rename_i ds
      split at hb
      · rename_i hc
        cases hb
        exact ⟨ds, rfl, hc.1, fun i hi => by simpa using List.all_eq_true.mp hc.2 i hi, rfl⟩
      · cases hb
    · cases hb
theorem tg_rd {t : List Nat} {d : D} {v : V} {env' : Evn} {Q : L2.St → Hp → Prop} (S : Stt K B env σ Hb H) (h : Rp K Hb d v) (hb : bindT t d env = some env')
    (q : ∀ σ', Stt K B env' σ' Hb H → Shp env env' → (∀ own, (∀ i ∈ t, i ∈ own) → wipe σ' own = wipe σ own) → Q σ' H) : tgG K t v σ H Q := by
  have tupc : (¬ ∃ i, t = [i]) → gTup K t.length (gAll t) v σ H Q := fun hn => by
    obtain ⟨ds, rfl, c1, c2, rfl⟩ := bindT_tup hn hb
    obtain ⟨a, xs, rfl, h1, h2⟩ := h
    exact ⟨a, xs, rfl, S.sub.sqt h1, by rw [← h2.length]; exact c1, gAll_rd S h2 c1 c2 q⟩
  match t, hb, q, tupc with
  | [i], hb, q, _ =>
    simp only [bindT] at hb
    split at hb
    · rename_i hl
      cases hb
      exact q _ (S.store hl h) (Shp.set_im i d) fun own ho => wipe_set (ho i (by simp))
    · cases hb
  | [], hb, q, c => exact c (by rintro ⟨i, e⟩; cases e)
  | i :: j :: r, hb, q, c => exact c (by rintro ⟨i, e⟩; cases e)
end
theorem ixOf_get {x : Str} : ∀ {N : List Str} {i : Nat}, ixOf x N = some i → N[i]? = some x
  | [], _, h => by cases h
  | y :: r, i, h => by
    unfold ixOf at h
    by_cases e : y = x
    · rw [if_pos e] at h; cases h; subst e; rfl
    · rw [if_neg e] at h
      obtain ⟨j, hj, rfl⟩ := Option.map_eq_some_iff.mp h
      simpa using ixOf_get hj
section
variable {S : Sc} {Φ : Fn} {ct : Nat → Addr} {k : Nat} {X : Cx} {W : WX}
theorem wr_ok (C : CkE S Φ ct k X W) {x : Str} {i : Nat} (h : S.wr x = some i) : X.N[i]? = some x ∧ L2.Loc X.env.scope x ∧ (X.fn x = true ∨ X.env.scope.names.lookup x = some .local) := by
  unfold Sc.wr at h
  rcases ite_or h with ⟨hc, h⟩ | ⟨_, h⟩
  · rw [Bool.and_eq_true] at hc
    obtain ⟨h1, h2⟩ := hc
    refine ⟨by rw [C.N]; exact ixOf_get h, ?_, ?_⟩
    · unfold locB at h1
      unfold L2.Loc
      rw [C.sc]
      split at h1
      · rename_i e; exact .inl e
      · rename_i e; exact .inr e
      · cases h1
    · cases hf : S.fnb with
      | none => exact .inl (C.fnb x (by rw [hf]))
      | some s =>
        rw [hf] at h2
        simp only [Bool.or_eq_true] at h2
        rcases h2 with h2 | h2
        · unfold isLoc at h2
          rw [C.sc]
          split at h2
          · rename_i e; exact .inr e
          · cases h2
        · exact .inl (C.fnb x (by rw [hf]; exact h2))
  · cases h
theorem rd_ok (C : CkE S Φ ct k X W) {x : Str} {i : Nat} (h : S.rd x = some i) : X.N[i]? = some x ∧ Vis X.env.scope x ∧ (x == ("__debug__" : Str)) = false ∧ (x == ("__classdict__" : Str)) = false := by
  unfold Sc.rd at h
  split at h
  · rename_i hc
    simp only [Bool.and_eq_true, Bool.not_eq_true'] at hc
    obtain ⟨⟨h1, h2⟩, h3⟩ := hc
    refine ⟨by rw [C.N]; exact ixOf_get h, ?_, h2, h3⟩
    unfold visB at h1
    unfold Vis
    rw [C.sc]
    split at h1
    · rename_i e; exact .inl e
    · rename_i e; exact .inr (.inl e)
    · rename_i e; exact .inr (.inr e)
    · cases h1
  · cases h
theorem gl_ok (C : CkE S Φ ct k X W) {x : Str} (h : glOk S x = true) : Gl X x ∧ (x == ("__debug__" : Str)) = false := by
  unfold glOk at h
  simp only [Bool.and_eq_true, Bool.not_eq_true'] at h
  obtain ⟨⟨h1, h2⟩, h3⟩ := h
  refine ⟨?_, h2⟩
  unfold glbB at h1
  unfold Gl Env.kindOf
  rw [C.sc]
  split at h1
  · assumption
  · cases h1
theorem bl_ok (C : CkE S Φ ct k X W) {x : Str} (h : S.bl x = true) : Gl X x ∧ X.mg x = none := by
  unfold Sc.bl at h
  simp only [Bool.and_eq_true, decide_eq_true_eq] at h
  exact ⟨(gl_ok C h.1).1, C.bl x h.2⟩
theorem names_ok (C : CkE S Φ ct k X W) : ∀ {es : List Expr} {is : List Nat}, namesOf S es = some is → PGs X es (gAll is) ∧ (assignEach es X.env).length = is.length ∧ (assignEach es X.env).findIdx? (·.1) = none ∧ (assignEach es X.env).map (·.2) = es.map fun e => assign e X.env
  | [], is, h => by cases h; exact ⟨pgs_nil, rfl, rfl, rfl⟩
  | e :: es, is, h => by
    cases e <;> simp only [namesOf] at h <;> try cases h
    rename_i x p
    split at h
    · rename_i i is' h1 h2
      cases h
      obtain ⟨q1, q2, q3⟩ := wr_ok C h1
      obtain ⟨k1, k2, k3, k4⟩ := names_ok C h2
      refine ⟨pgs_cons (pg_name C.nd q1 q2 q3) k1 rfl, ?_, ?_, ?_⟩
      · show (assignEach es X.env).length + 1 = is'.length + 1
        rw [k2]
      · show List.findIdx? (·.1) ((false, assign (.Name x p) X.env) :: assignEach es X.env) = none
        rw [List.findIdx?_cons, k3]
        rfl
      · show assign (.Name x p) X.env :: (assignEach es X.env).map (·.2) = _
        rw [k4]
        rfl
    · cases h
theorem tgt_ok (C : CkE S Φ ct k X W) {e : Expr} {t : List Nat} (h : tgtOf S e = some t) : PG X e (tgG X.K t) := by
  cases e <;> simp only [tgtOf] at h <;> try cases h
  · rename_i x p
    obtain ⟨i, hi, rfl⟩ := Option.map_eq_some_iff.mp h
    obtain ⟨q1, q2, q3⟩ := wr_ok C hi
    exact pg_name C.nd q1 q2 q3
  · rename_i es kk p
    split at h
    · rename_i is hi
      split at h
      · rename_i hl
        cases h
        obtain ⟨k1, k2, k3, k4⟩ := names_ok C hi
        have z := pg_tup (X := X) (pos := p) (k := kk) C.calm k1 k2 k3
        match t, hl with
        | i :: j :: r, _ => exact z
      · cases h
    · cases h
end

/-! ### what is walked -/
def Wk (K : Fg) (J : It) (Hb : Hp) (ds : List D) : Prop :=
  (∀ i Hb2 H, Le Hb Hb2 → Le Hb2 H → i < ds.length → J.go i H) ∧ (∀ i Hb2 H, Le Hb Hb2 → Le Hb2 H → ds.length ≤ i → J.stop i H) ∧
  ∀ (i : Nat) (d : D) (Hb2 H : Hp) (x : V) (H' : Hp), Le Hb Hb2 → Le Hb2 H → ds[i]? = some d → J.yld i H x H' → (H' = H ∧ Rp K Hb2 d x) ∨ ∃ T u, H T = none ∧ H' = upd H T u ∧ Rp K (upd Hb2 T u) d x
theorem Wk.mono {K : Fg} {J : It} {Hb Hb' : Hp} {ds : List D} (h : Wk K J Hb ds) (e : Le Hb Hb') : Wk K J Hb' ds :=
  ⟨fun i Hb2 H l1 l2 => h.1 i Hb2 H (e.trans l1) l2, fun i Hb2 H l1 l2 => h.2.1 i Hb2 H (e.trans l1) l2, fun i d Hb2 H x H' l1 l2 => h.2.2 i d Hb2 H x H' (e.trans l1) l2⟩
def SI (X : Cx) (W : WX) (ct : Nat → Addr) (tg iter : Expr) (f : Mo (List D)) : Prop := ∃ wi : TI, PI X tg iter wi ∧ ∀ (B : Bs) (σ : L2.St) (Hb H : Hp) (env : Evn) (R : It → Hp → Prop), Stt X.K B env σ Hb H →
  GotE (f env) (fun ds env' => ∀ J Hb' H', Stt X.K B env' σ Hb' H' → Le Hb Hb' → Shp env env' → Wk X.K J Hb' ds → R J H') (Xw X W ct B σ Hb) → wi σ H R
theorem wk_lst {K : Fg} {Hb : Hp} {a : Addr} {xs : List V} {ds : List D} (h : SqL K Hb a xs) (r : RpAll K Hb ds xs) : Wk K (Itl K a) Hb ds := by
  refine ⟨fun i Hb2 H l1 l2 hi => ?_, fun i Hb2 H l1 l2 hi => ⟨xs, (l1.trans l2).sql h, by rw [← r.length]; exact hi⟩, fun i d Hb2 H x H' l1 l2 hd y => ?_⟩
  · obtain ⟨x, hx, _⟩ := r.get (List.getElem?_eq_getElem hi)
    exact ⟨xs, x, (l1.trans l2).sql h, hx⟩
  · obtain ⟨e, y⟩ := y
    have hx := y xs ((l1.trans l2).sql h)
    obtain ⟨x', hx', rx⟩ := r.get hd
    rw [hx] at hx'; cases hx'
    exact .inl ⟨e, Rp.mono l1 _ _ rx⟩
theorem wk_tup {K : Fg} {Hb : Hp} {a : Addr} {xs : List V} {ds : List D} (h : SqT K Hb a xs) (r : RpAll K Hb ds xs) : Wk K (Itt K a) Hb ds := by
  refine ⟨fun i Hb2 H l1 l2 hi => ?_, fun i Hb2 H l1 l2 hi => ⟨xs, (l1.trans l2).sqt h, by rw [← r.length]; exact hi⟩, fun i d Hb2 H x H' l1 l2 hd y => ?_⟩
  · obtain ⟨x, hx, _⟩ := r.get (List.getElem?_eq_getElem hi)
    exact ⟨xs, x, (l1.trans l2).sqt h, hx⟩
  · obtain ⟨e, y⟩ := y
    have hx := y xs ((l1.trans l2).sqt h)
    obtain ⟨x', hx', rx⟩ := r.get hd
    rw [hx] at hx'; cases hx'
    exact .inl ⟨e, Rp.mono l1 _ _ rx⟩
theorem wk_rng {K : Fg} {Hb : Hp} (lo : Int) (n : Nat) : Wk K (Itr lo n) Hb ((List.range n).map fun (k : Nat) => D.int (lo + (k : Int))) := by
  refine ⟨fun i Hb2 H l1 l2 hi => ?_, fun i Hb2 H l1 l2 hi => ?_, fun i d Hb2 H x H' l1 l2 hd y => ?_⟩
  · exact show i < n by simpa using hi
  · exact show n ≤ i by simpa using hi
  · obtain ⟨e, ex⟩ := y
    rw [List.getElem?_map] at hd
    obtain ⟨k, hk, rfl⟩ := Option.map_eq_some_iff.mp hd
    have : k = i := by
      rw [List.getElem?_range] at hk
      · exact (Option.some.inj hk).symm
      · have := lt_of_get hk; simpa using this
    subst this
    exact .inl ⟨e, ex⟩
theorem wk_enum {K : Fg} {Hb : Hp} {a : Addr} {xs : List V} {ds : List D} (h : SqL K Hb a xs) (r : RpAll K Hb ds xs) : Wk K (Ite K a) Hb ((List.range ds.length).zip ds |>.map fun p => D.tup [.int (p.1 : Int), p.2]) := by
  have hlen : ((List.range ds.length).zip ds |>.map fun p => D.tup [.int (p.1 : Int), p.2]).length = ds.length := by simp
  refine ⟨fun i Hb2 H l1 l2 hi => ?_, fun i Hb2 H l1 l2 hi => ⟨xs, (l1.trans l2).sql h, by rw [← r.length]; rw [hlen] at hi; exact hi⟩, fun i d Hb2 H x H' l1 l2 hd y => ?_⟩
  · rw [hlen] at hi
    obtain ⟨x, hx, _⟩ := r.get (List.getElem?_eq_getElem hi)
    exact ⟨xs, x, (l1.trans l2).sql h, hx⟩
  · obtain ⟨T, x', e1, e2, e3, y⟩ := y
    rw [List.getElem?_map] at hd
    obtain ⟨⟨k, d'⟩, hk, rfl⟩ := Option.map_eq_some_iff.mp hd
    have hk' := List.getElem?_zip_eq_some.mp hk
    obtain ⟨k1, k2⟩ := hk'
    have : k = i := by
      rw [List.getElem?_range] at k1
      · exact (Option.some.inj k1).symm
      · have := lt_of_get k1; simpa using this
    subst this
    have hx := y xs ((l1.trans l2).sql h)
    obtain ⟨x2, hx2, rx⟩ := r.get k2
    rw [hx] at hx2; cases hx2
    have hn : Hb2 T = none := l2.none e2
    refine .inr ⟨T, _, e2, e3, ?_⟩
    subst e1
    exact ⟨T, _, rfl, SqT.of upd_same, _, _, rfl, rfl, _, _, rfl, Rp.mono (l1.trans (Le.new hn)) _ _ rx, rfl⟩
section
variable {X : Cx} {W : WX} {ct : Nat → Addr} {a b c e tg : Expr} {fa fb : Mo RV} {pos p : Pos}
def tiOr (wi wi' : TI) : TI := fun σ H R => wi σ H R ∨ wi' σ H R
theorem pi_or {iter : Expr} {wi wi' : TI} (h : PI X tg iter wi) (h' : PI X tg iter wi') : PI X tg iter (tiOr wi wi') :=
  ⟨fun pins s σ H R I q => q.elim (h.run pins s σ H R I) (h'.run pins s σ H R I)⟩
theorem SI.seq (h : SEs X W ct a fa) : SI X W ct tg a (fa.bnd fun r => (Mo.imm r).bnd fun d => Mo.lift (seqD d)) := by
  obtain ⟨ta, pa, ka⟩ := h
  refine ⟨_, pi_or (pi_list pa) (pi_tup pa), fun B σ Hb H env R S q => ?_⟩
  have q1 := q.bnd
  have main : ∀ (T : Bool), (∀ r e1, fa env = some (.ok r e1) → ∃ d e2, Mo.imm r e1 = some (.ok d e2) ∧ (∃ ds, d = .tup ds) = (T = true)) →
      (if T = true then iTup X.K ta σ H R else iList X.K ta σ H R) := fun T hT => by
    have step : ∀ (Z : V → Hp → Prop), (∀ v Hb2 H2 d ds e2, Stt X.K B e2 σ Hb2 H2 → Le Hb Hb2 → Rp X.K Hb2 d v → seqD d = some ds → (∃ ds, d = .tup ds) = (T = true) → (∀ J Hb' H', Stt X.K B e2 σ Hb' H' → Le Hb Hb' → Wk X.K J Hb' ds → R J H') → Z v H2) → ta σ H Z := fun Z hz => by
      refine ka B σ Hb H env Z S ?_
      cases hf : fa env with
      | none => rw [hf] at q1; exact False.elim q1
      | some t =>
      cases t with
      | ex c e1 => rw [hf] at q1; exact q1
      | ok r e1 =>
      rw [hf] at q1
      intro v Hb1 H1 S1 le1 sh1 nr rv
      obtain ⟨d, e2, hd, ht⟩ := hT r e1 hf
      have g0 : GotE (Mo.imm r e1) (fun d' e' => d' = d ∧ e' = e2) (fun _ _ => False) := by rw [hd]; exact ⟨rfl, rfl⟩
      obtain ⟨d', e', Hb2, ⟨z1, z2⟩, le2, sh2, S2, rp⟩ := S1.imm rv g0
      subst z1 z2
      have g2 : GotE (((Mo.imm r).bnd fun d => Mo.lift (seqD d)) e1) (fun ds env' => ∀ J Hb' H', Stt X.K B env' σ Hb' H' → Le Hb Hb' → Shp env env' → Wk X.K J Hb' ds → R J H') (Xw X W ct B σ Hb) := q1
      have g3 := GotE.bnd g2
      rw [hd] at g3
      obtain ⟨ds, hds, g4⟩ := GotE.lift g3
      exact hz v Hb2 H1 d' ds e' S2 (le1.trans le2) rp hds ht fun J Hb' H' S' le' w => g4 J Hb' H' S' le' (sh1.trans sh2) w
    cases T with
    | true =>
      refine step _ fun v Hb2 H2 d ds e2 S2 le rp hds ht k => ?_
      have : ∃ ds, d = .tup ds := by rw [ht]
      obtain ⟨ds', rfl⟩ := this
      cases hds
      obtain ⟨p, xs, rfl, h1, h2⟩ := rp
      exact ⟨p, rfl, ⟨xs, S2.sub.sqt h1⟩, k _ Hb2 H2 S2 le (wk_tup h1 h2)⟩
    | false =>
      refine step _ fun v Hb2 H2 d ds e2 S2 le rp hds ht k => ?_
      cases d with
      | tup ds' => exact (Bool.false_ne_true (ht.mp ⟨ds', rfl⟩)).elim
      | lst ds' =>
        cases hds
        obtain ⟨p, xs, rfl, h1, h2⟩ := rp
        exact ⟨p, rfl, ⟨xs, S2.sub.sql (SqL.of h1)⟩, k _ Hb2 H2 S2 le (wk_lst (SqL.of h1) h2)⟩
      | frz ds' =>
        cases hds
        obtain ⟨p, xs, rfl, h1, h2⟩ := rp
        exact ⟨p, rfl, ⟨xs, S2.sub.sql h1⟩, k _ Hb2 H2 S2 le (wk_lst h1 h2)⟩
      | _ => cases hds
  cases hf : fa env with
  | none => rw [hf] at q1; exact False.elim q1
  | some t =>
  cases t with
  | ex c e1 =>
    have := main true (fun r e1 h => by rw [hf] at h; cases h)
    exact .inr (by simpa using this)
  | ok r e1 =>
    rw [hf] at q1
    have g2 : GotE (((Mo.imm r).bnd fun d => Mo.lift (seqD d)) e1) (fun ds env' => ∀ J Hb' H', Stt X.K B env' σ Hb' H' → Le Hb Hb' → Shp env env' → Wk X.K J Hb' ds → R J H') (Xw X W ct B σ Hb) := q1
    have g3 := GotE.bnd g2
    cases hi : Mo.imm r e1 with
    | none => rw [hi] at g3; exact False.elim g3
    | some t =>
    cases t with
    | ex c e2 =>
      cases r <;> simp [Mo.imm, Mo.ret] at hi
      split at hi <;> cases hi
    | ok d e2 =>
      by_cases hd : ∃ ds, d = .tup ds
      · have := main true (fun r' e' h => by rw [hf] at h; cases h; exact ⟨d, e2, hi, by simp [hd]⟩)
        exact .inr (by simpa using this)
      · have := main false (fun r' e' h => by rw [hf] at h; cases h; exact ⟨d, e2, hi, by simp [hd]⟩)
        exact .inl (by simpa using this)
theorem SI.rng1 (hg : Gl X "range") (hm : X.mg "range" = none) (hn : notStar a = true) (h : SE X W ct a fa) : SI X W ct tg (.Call (.Name "range" p) [a] [] pos) (fa.bnd fun r => match r with
    | .val (.int i) => if -100000 ≤ i ∧ i ≤ 100000 then Mo.ret ((List.range i.toNat).map fun (k : Nat) => D.int (0 + (k : Int))) else fun _ => none
    | _ => fun _ => none) := by
  obtain ⟨ta, pa, ka⟩ := h
  refine ⟨_, pi_range1 hg hm (pa_cons pa pa_nil (starEach_plain hn)) (starEach_plain hn), fun B σ Hb H env R S q => ka B σ Hb H env _ S (q.bnd.same fun r e1 g1 v Hb1 H1 S1 le1 sh1 rv => ?_)⟩
  cases r with
  | val d =>
    cases d with
    | int i =>
      simp only at g1
      split at g1
      · rename_i hi
        cases rv
        exact ⟨i, rfl, by omega, by omega, g1 _ Hb1 H1 S1 le1 sh1 (wk_rng 0 _)⟩
      · exact False.elim g1
    | _ => exact g1.elim
  | bo i => exact g1.elim
  | fr o => exact g1.elim
theorem SI.rng2 (hg : Gl X "range") (hm : X.mg "range" = none) (hn : notStar a = true) (hn2 : notStar b = true) (ha : SEs X W ct a fa) (hb : SEs X W ct b fb) : SI X W ct tg (.Call (.Name "range" p) [a, b] [] pos) (fa.bnd fun r => fb.bnd fun r' => match r, r' with
    | .val (.int i), .val (.int j) => if -100000 ≤ i ∧ i ≤ 100000 ∧ -100000 ≤ j ∧ j ≤ 100000 then Mo.ret ((List.range (j - i).toNat).map fun (k : Nat) => D.int (i + (k : Int))) else fun _ => none
    | _, _ => fun _ => none) := by
  obtain ⟨ta, pa, ka⟩ := ha
  obtain ⟨tb, pb, kb⟩ := hb
  refine ⟨_, pi_range2 hg hm (pa_cons pa (pa_cons pb pa_nil (starEach_plain hn2)) (starEach_plain hn)) (by rw [starEach_plain hn, starEach_plain hn2]; rfl) (starEach_plain hn2), fun B σ Hb H env R S q => ?_⟩
  refine two ka kb S (q.bnd.same fun x e1 g1 => g1.bnd.same fun y e2 g2 v u Hb' H' S2 le sh nx ny rx ry => ?_)
  cases x with
  | val d =>
    cases d with
    | int i =>
      cases y with
      | val d2 =>
        cases d2 with
        | int j =>
          simp only at g2
          split at g2
          · rename_i hi
            cases rx
            cases ry
            exact ⟨i, j, rfl, by omega, g2 _ Hb' H' S2 le sh (wk_rng i _)⟩
          · exact False.elim g2
        | _ => exact g2.elim
      | bo i => exact g2.elim
      | fr o => exact g2.elim
    | _ => exact g2.elim
  | bo i => exact g2.elim
  | fr o => exact g2.elim
theorem SI.enum (hg : Gl X "enumerate") (hm : X.mg "enumerate" = none) (hn : notStar a = true) (ht : isTup tg = true) (h : SEs X W ct a fa) : SI X W ct tg (.Call (.Name "enumerate" p) [a] [] pos) (fa.bnd fun r => (Mo.imm r).bnd fun d => (Mo.lift (lstD d)).bnd fun ds => Mo.ret ((List.range ds.length).zip ds |>.map fun p => D.tup [.int (p.1 : Int), p.2])) := by
  obtain ⟨ta, pa, ka⟩ := h
  cases tg <;> simp only [isTup] at ht <;> try cases ht
  refine ⟨_, pi_enum hg hm (pa_cons pa pa_nil (starEach_plain hn)) (starEach_plain hn), fun B σ Hb H env R S q => ka B σ Hb H env _ S (q.bnd.same fun r e1 g1 v Hb1 H1 S1 le1 sh1 nr rv => ?_)⟩
  obtain ⟨d, e2, Hb2, g2, le2, sh2, S2, rp⟩ := S1.imm rv g1.bnd
  obtain ⟨ds, hds, g3⟩ := GotE.lift (GotE.bnd g2)
  have g4 := g3
  cases d with
  | lst ds' =>
    cases hds
    obtain ⟨p, xs, rfl, h1, h2⟩ := rp
    exact ⟨p, xs, rfl, S2.sub.sql (SqL.of h1), g4 _ Hb2 H1 S2 (le1.trans le2) (sh1.trans sh2) (wk_enum (SqL.of h1) h2)⟩
  | frz ds' =>
    cases hds
    obtain ⟨p, xs, rfl, h1, h2⟩ := rp
    exact ⟨p, xs, rfl, S2.sub.sql h1, g4 _ Hb2 H1 S2 (le1.trans le2) (sh1.trans sh2) (wk_enum h1 h2)⟩
  | _ => cases hds
end
end HB

set_option Elab.async false
set_option linter.all false
set_option maxRecDepth 100000
set_option maxHeartbeats 2000000
/-! HBSnd9: comprehensions. -/
namespace HB
open PySem PySem.Spec PyProof.Rows L2

/-- the exception's wish, by the fragment -/
def tMs (K : Fg) (f : Mo RV) : TE := fun σ H Q => ∃ B Hb env, Stt K B env σ Hb H ∧ ∃ r env', f env = some (.ok r env') ∧ ∀ v Hb' H', Stt K B env' σ Hb' H' → Le Hb Hb' → Shp env env' → NoFr r → RVOk K B env' σ Hb' H' v r → Q v H'
def tMt (K : Fg) (f : Mo Bool) : TT := fun σ H Q => ∃ B Hb env, Stt K B env σ Hb H ∧ ∃ b env', f env = some (.ok b env') ∧ ∀ Hb' H', Stt K B env' σ Hb' H' → Le Hb Hb' → Shp env env' → Q b H'
section
variable {X : Cx} {W : WX} {ct : Nat → Addr} {e : Expr}
theorem SEs.canon {f : Mo RV} (h : SEs X W ct e f) : PE X e (tMs X.K f) := by
  obtain ⟨te, pe, k⟩ := h
  refine ⟨fun pins s σ H Q I ⟨B, Hb, env, S, r, env', hf, q⟩ => pe.run pins s σ H Q I (k B σ Hb H env Q S ?_)⟩
  rw [hf]
  exact q
theorem ST.canon {f : Mo Bool} (h : ST X W ct e f) : PT X e (tMt X.K f) := by
  obtain ⟨te, pe, k⟩ := h
  refine ⟨fun pins s σ H Q I ⟨B, Hb, env, S, r, env', hf, q⟩ => pe.run pins s σ H Q I (k B σ Hb H env Q S ?_)⟩
  rw [hf]
  exact q
theorem pts_no : PTs X [] (tMt X.K (Mo.ret true)) :=
  ⟨fun pins s σ H Q I ⟨B, Hb, env, S, r, env', hf, q⟩ => by
    cases hf
    exact pts_nil.run pins s σ H Q I (q Hb H S (Le.refl _) (Shp.refl _))⟩
theorem PTs.canon {f : Mo Bool} (h : ST X W ct e f) : PTs X [e] (tMt X.K f) := pts_one h.canon
end
theorem RVOk.reB {K : Fg} {B B' : Bs} {env env' : Evn} {σ : L2.St} {Hb H H' : Hp} {v : V} {r : RV} (n : NoFr r) (h : RVOk K B env σ Hb H v r) : RVOk K B' env' σ Hb H' v r := by
  cases r with
  | val d => exact h
  | bo i => exact h
  | fr o => exact n.elim
theorem bnd_ok {α β : Type} {x : Mo α} {f : α → Mo β} {env e2 : Evn} {b : β} (h : x.bnd f env = some (.ok b e2)) : ∃ a e1, x env = some (.ok a e1) ∧ f a e1 = some (.ok b e2) := by
  unfold Mo.bnd at h
  cases hx : x env with
  | none => rw [hx] at h; cases h
  | some t =>
    cases t with
    | ok a e1 => rw [hx] at h; exact ⟨a, e1, rfl, h⟩
    | ex c e => rw [hx] at h; cases h
/-- the turn of a comprehension -/
def cStep (own t : List Nat) (fc : Mo Bool) (fe : Mo RV) (d : D) : Mo (Option D) := fun env => match bindT t d (unown own env) with
  | some env' => fc.bnd (fun b => if b = true then fe.bnd fun r => (Mo.imm r).bnd fun y => Mo.ret (some y) else Mo.ret none) env'
  | none => none
theorem compGo_cons {step : D → Mo (Option D)} {d : D} {ds acc ys : List D} {env e2 : Evn} (h : compGo step (d :: ds) acc env = some (.ok ys e2)) : ∃ o e1, step d env = some (.ok o e1) ∧
    ((∃ y, o = some y ∧ acc.length < LIM ∧ compGo step ds (acc ++ [y]) e1 = some (.ok ys e2)) ∨ (o = none ∧ compGo step ds acc e1 = some (.ok ys e2))) := by
  unfold compGo at h
  obtain ⟨o, e1, h1, h2⟩ := bnd_ok h
  refine ⟨o, e1, h1, ?_⟩
  cases o with
  | none => exact .inr ⟨rfl, h2⟩
  | some y =>
    simp only at h2
    split at h2
    · rename_i hl; exact .inl ⟨y, rfl, hl, h2⟩
    · cases h2
/-- the state at a turn of a comprehension -/
structure CSt (K : Fg) (B1 : Bs) (own : List Nat) (env0 env : Evn) (σ' : L2.St) (Hb1 : Hp) (D0 : Addr) (acc : List D) (H : Hp) : Prop where
  ex : ∃ Hb xs, Stt K B1 (unown own env) σ' Hb H ∧ Le Hb1 Hb ∧ Shp env0 (unown own env) ∧ H D0 = some (.lst xs) ∧ Hb D0 = none ∧ RpAll K Hb acc xs
theorem comp_loop {K : Fg} {B : Bs} {env : Evn} {σ : L2.St} {Hb1 H1 : Hp} {J : It} {ds ys : List D} {e2 : Evn} {own t : List Nat} {fc : Mo Bool} {fe : Mo RV} {Q : VK} {D0 : Addr} (S : Stt K B env σ Hb1 H1) (wk : Wk K J Hb1 ds) (ht : ∀ i ∈ t, i ∈ own)
    (cg : compGo (cStep own t fc fe) ds [] env = some (.ok ys e2)) (hD : H1 D0 = none)
    (q : ∀ v Hb' H', Stt K B (back env own (unown own e2)) σ Hb' H' → Le Hb1 Hb' → Shp env (back env own (unown own e2)) → RVOk K B (back env own (unown own e2)) σ Hb' H' v (.fr (.lst ys)) → Q v H') :
    ∃ Wv : Nat → Nat → Hp → Prop, (∃ m, Wv 0 m (upd H1 D0 (.lst []))) ∧ ∀ i m H, Wv i m H →
      (J.stop i H ∧ Q (.ref D0) H) ∨ (J.go i H ∧ ∃ Nx : Hp → Prop, (∀ H', Nx H' → ∃ m', m' < m ∧ Wv (i + 1) m' H') ∧ ∀ x H', J.yld i H x H' → tgG K t x (wipe σ own) H' fun σ2 H2 => wipe σ2 own = wipe σ own ∧ tMt K fc σ2 H2 fun b H3 =>
        if b = true then tMs K fe σ2 H3 fun y H4 => ∃ acc, H4 D0 = some (.lst acc) ∧ acc.length < sizeLine ∧ Nx (upd H4 D0 (.lst (acc ++ [y]))) else Nx H3) := by
  generalize hs : wipe σ own = σ'
  have SW := S.wipe own
  rw [hs] at SW
  have SR := SW.re
  -- nothing owns the new list
  have nf : ∀ {env' : Evn}, Shp (unown own env) env' → ∀ (j : Nat) (o : OB), env'[j]? = some (.ow o) → σ'[j]? ≠ some (some (.ref D0)) := fun {env'} sh j o e z => by
    obtain ⟨o', e'⟩ := sh j o e
    exact SW.nofr hD j o' e' z
  have BD : (reb (unown own env) σ' Hb1 H1).H D0 = none := hD
  refine ⟨fun i m H => m = ds.length - i ∧ i ≤ ds.length ∧ ∃ env_i acc, compGo (cStep own t fc fe) (ds.drop i) acc env_i = some (.ok ys e2) ∧ CSt K (reb (unown own env) σ' Hb1 H1) own (unown own env) env_i σ' Hb1 D0 acc H, ⟨ds.length, rfl, Nat.zero_le _, env, [], cg, ⟨Hb1, [], SR.newH hD, Le.refl _, Shp.refl _, upd_same, SW.hbn hD, rfl⟩⟩, ?_⟩
  rintro i m H ⟨rfl, hi, env_i, acc, cgi, ⟨Hbi, xs, Si, lei, shi, hDi, hbi, rpi⟩⟩
  by_cases hlt : i < ds.length
  · right
    refine ⟨wk.1 i Hbi H lei Si.sub hlt, fun H' => (i + 1 ≤ ds.length ∧ ∃ env_i acc, compGo (cStep own t fc fe) (ds.drop (i + 1)) acc env_i = some (.ok ys e2) ∧ CSt K (reb (unown own env) σ' Hb1 H1) own (unown own env) env_i σ' Hb1 D0 acc H'), fun H' ⟨h1, h2⟩ => ⟨ds.length - (i + 1), by omega, rfl, h1, h2⟩, fun x H' y => ?_⟩
    have hd : ds[i]? = some ds[i] := List.getElem?_eq_getElem hlt
    generalize ds[i] = d at hd
    have dr : ds.drop i = d :: ds.drop (i + 1) := by
      rw [List.drop_eq_getElem_cons hlt]
      congr 1
      rw [List.getElem?_eq_getElem hlt] at hd
      exact Option.some.inj hd
    rw [dr] at cgi
    obtain ⟨o, e1, st, rest⟩ := compGo_cons cgi
    -- what the turn yields
    have yy : ∃ Hb', Stt K (reb (unown own env) σ' Hb1 H1) (unown own env_i) σ' Hb' H' ∧ Le Hbi Hb' ∧ H' D0 = some (.lst xs) ∧ Hb' D0 = none ∧ Rp K Hb' d x := by
      rcases wk.2.2 i d Hbi H x H' lei Si.sub hd y with ⟨e, rp⟩ | ⟨T, u, hT, e, rp⟩
      · subst e; exact ⟨Hbi, Si, Le.refl _, hDi, hbi, rp⟩
      · subst e
        have ne : D0 ≠ T := fun z => by rw [← z, hDi] at hT; cases hT
        exact ⟨upd Hbi T u, Si.new hT, Le.new (Si.hbn hT), by rw [upd_ne ne]; exact hDi, by rw [upd_ne ne]; exact hbi, rp⟩
    obtain ⟨Hb', S', le', hD', hb', rp⟩ := yy
    unfold cStep at st
    cases hbt : bindT t d (unown own env_i) with
    | none => rw [hbt] at st; cases st
    | some env2 =>
    rw [hbt] at st
    obtain ⟨b, e3, hc, st2⟩ := bnd_ok st
    refine tg_rd S' rp hbt fun σ2 S2 sh2 wp => ?_
    have wp' : wipe σ2 own = σ' := by rw [wp own ht, ← hs, wipe_wipe]
    refine ⟨wp', _, Hb', env2, S2.re, b, e3, hc, fun Hb3 H3 T3 le3 sh3 => ?_⟩
    have S3 := S2.un T3 sh3
    have nf2 : ∀ (j : Nat) (o : OB), env2[j]? = some (.ow o) → σ2[j]? ≠ some (some (.ref D0)) := fun j o e z => by
      obtain ⟨a, h1, h2, h3, h4⟩ := S2.ow j o e
      rw [z] at h1; cases h1
      obtain ⟨o', e'⟩ := sh2 j o e
      obtain ⟨a', k1, k2⟩ := S'.ow j o' e'
      by_cases hj : j ∈ own
      · rcases unown_get e' with ⟨z1, _⟩ | ⟨z1, _⟩
        · cases z1
        · exact z1 hj
      · have : (wipe σ2 own)[j]? = σ2[j]? := wipe_get hj
        rw [wp'] at this
        exact nf (shi.trans (Shp.refl _)) j o' e' (by rw [this]; exact z)
    obtain ⟨hD3, hb3⟩ := T3.stands hD' hb' nf2
    have le3' : Le Hb' Hb3 := le3
    have fin : ∀ {env5 : Evn} {Hb5 H5 : Hp} {acc' : List D} {xs' : List V}, Stt K (reb (unown own env) σ' Hb1 H1) env5 σ2 Hb5 H5 → Le Hbi Hb5 → Shp (unown own env_i) env5 → H5 D0 = some (.lst xs') → Hb5 D0 = none → RpAll K Hb5 acc' xs' → CSt K (reb (unown own env) σ' Hb1 H1) own (unown own env) env5 σ' Hb1 D0 acc' H5 :=
      fun {env5 Hb5 H5 acc' xs'} S5 le5 sh5 h1 h2 h3 => ⟨Hb5, xs', by have z := S5.wipe own; rw [wp'] at z; exact z, lei.trans le5, (shi.trans sh5).trans (Shp.unown own), h1, h2, h3⟩
    cases b with
    | false =>
      simp only [Bool.false_eq_true, if_false] at st2 ⊢
      cases st2
      rcases rest with ⟨y, e, _⟩ | ⟨_, cg'⟩
      · cases e
      · exact ⟨hlt, _, acc, cg', fin S3 (le'.trans le3') (sh2.trans sh3) hD3 hb3 (rpi.mono (le'.trans le3'))⟩
    | true =>
      simp only [if_true] at st2 ⊢
      obtain ⟨r, e4, hr, st3⟩ := bnd_ok st2
      obtain ⟨yv, e5, hy, st4⟩ := bnd_ok st3
      cases st4
      refine ⟨_, Hb3, e3, S3.re, r, e4, hr, fun v Hb4 H4 T4 le4 sh4 nr rv => ?_⟩
      have S4 := S3.un T4 sh4
      have nf3 : ∀ (j : Nat) (o : OB), e3[j]? = some (.ow o) → σ2[j]? ≠ some (some (.ref D0)) := fun j o e => by
        obtain ⟨o', e'⟩ := sh3 j o e
        exact nf2 j o' e'
      obtain ⟨hD4, hb4⟩ := T4.stands hD3 hb3 nf3
      have le4' : Le Hb3 Hb4 := le4
      have nf4 : ∀ (j : Nat) (o : OB), e4[j]? = some (.ow o) → σ2[j]? ≠ some (some (.ref D0)) := fun j o e => by
        obtain ⟨o', e'⟩ := sh4 j o e
        exact nf3 j o' e'
      have g0 : GotE (Mo.imm r e4) (fun d' e' => d' = yv ∧ e' = e1) (fun _ _ => False) := by rw [hy]; exact ⟨rfl, rfl⟩
      obtain ⟨d', e', Hb5, ⟨z1, z2⟩, le5, sh5, T5, rp5⟩ := S4.re.imm (RVOk.reB nr rv) g0
      subst z1 z2
      have S5 := S4.un T5 sh5
      obtain ⟨hD5, hb5⟩ := T5.stands hD4 hb4 nf4
      have nf5 : ∀ (j : Nat) (o : OB), e'[j]? = some (.ow o) → σ2[j]? ≠ some (some (.ref D0)) := fun j o e => by
        obtain ⟨o', e'⟩ := sh5 j o e
        exact nf4 j o' e'
      have leA : Le Hbi Hb5 := ((le'.trans le3').trans le4').trans le5
      rcases rest with ⟨y, e, hl, cg'⟩ | ⟨e, _⟩
      · cases e
        refine ⟨xs, hD4, by rw [← rpi.length]; exact lim_lt hl, hlt, _, acc ++ [d'], cg', ?_⟩
        have S6 := S5.updH (u := .lst (xs ++ [v])) hD5 hb5 BD nf5
        exact fin S6 leA (((sh2.trans sh3).trans sh4).trans sh5) upd_same hb5 ((rpi.mono leA).app (RpAll.one rp5))
      · cases e
  · have e : i = ds.length := by omega
    subst e
    left
    refine ⟨wk.2.1 _ Hbi H lei Si.sub (Nat.le_refl _), ?_⟩
    have dn : ds.drop ds.length = [] := List.drop_length
    rw [dn] at cgi
    have cg2 : (some (Out.ok acc env_i) : Option (Out (List D))) = some (.ok ys e2) := cgi
    cases cg2
    subst hs
    obtain ⟨SB, shB⟩ := S.unblk Si shi
    exact q _ Hbi H SB lei shB ⟨D0, rfl, hbi, ⟨xs, hDi, rpi⟩, (S.fresh hD).1, (S.fresh hD).2, fun j o e z => by
      obtain ⟨o', e'⟩ := shB j o e
      exact S.nofr hD j o' e' z⟩
section
variable {X : Cx} {W : WX} {ct : Nat → Addr} {elt tg iter : Expr} {ifs : List Expr} {scope : Scope} {own : List (Str × Nat)} {t : List Nat} {fi : Mo (List D)} {fc : Mo Bool} {fe : Mo RV} {pos : Pos}
/-- what a comprehension is worth -/
def lcF (own : List (Str × Nat)) (t : List Nat) (fi : Mo (List D)) (fc : Mo Bool) (fe : Mo RV) : Mo RV := fi.bnd fun ds env => match compGo (cStep (own.map (·.2)) t fc fe) ds [] env with
      | some (.ok ys env') => some (.ok (.fr (.lst ys)) (back env (own.map (·.2)) (unown (own.map (·.2)) env')))
      | some (.ex _ _) => none
      | none => none
theorem comp_rd {wi : TI} (ht : ∀ i ∈ t, i ∈ own.map (·.2))
    (ki : ∀ (B : Bs) (σ : L2.St) (Hb H : Hp) (env : Evn) (R : It → Hp → Prop), Stt X.K B env σ Hb H →
      GotE (fi env) (fun ds env' => ∀ J Hb' H', Stt X.K B env' σ Hb' H' → Le Hb Hb' → Shp env env' → Wk X.K J Hb' ds → R J H') (Xw X W ct B σ Hb) → wi σ H R) : Rd X W ct (tLc wi (tgG X.K t) (tMt X.K fc) (tMs X.K fe) (own.map (·.2))) (lcF own t fi fc fe) := by
  intro B σ Hb H env Q S q
  refine ki B σ Hb H env _ S ((GotE.bnd q).same fun ds e1 g1 J Hb1 H1 S1 le1 sh1 wk D0 hD => ?_)
  cases cg : compGo (cStep (own.map (·.2)) t fc fe) ds [] e1 with
  | none => simp only [cg] at g1; exact False.elim g1
  | some z =>
    cases z with
    | ex c e => simp only [cg] at g1; exact False.elim g1
    | ok ys e2 =>
      simp only [cg] at g1
      exact comp_loop S1 wk ht cg hD fun v Hb' H' S' le' sh' rv => g1 v Hb' H' S' (le1.trans le') (sh1.trans sh') rv
def LcOk (X : Cx) (W : WX) (ct : Nat → Addr) (elt tg iter : Expr) (ifs : List Expr) (scope : Scope) (f : Mo RV) : Prop := ∃ (own : List (Str × Nat)) (t : List Nat) (fi : Mo (List D)) (fc : Mo Bool) (fe : Mo RV),
  SI X W ct tg iter fi ∧ BlkOk X.N X.env.scope scope own ∧ (∀ i ∈ t, i ∈ own.map (·.2)) ∧
    (∀ (s : Shared) (H : Hp) (C : Addr) (cl : List (Str × Addr)) (fp : List Addr), PG (X.blk s H scope (compEnvC scope cl C X.env) fp) tg (tgG X.K t)) ∧
    (∀ (s : Shared) (H : Hp) (C : Addr) (cl : List (Str × Addr)) (fp : List Addr), PTs (X.blk s H scope (compEnvC scope cl C X.env) fp) ifs (tMt X.K fc)) ∧
    (∀ (s : Shared) (H : Hp) (C : Addr) (cl : List (Str × Addr)) (fp : List Addr), PE (X.blk s H scope (compEnvC scope cl C X.env) fp) elt (tMs X.K fe)) ∧ (∀ x, foldedSetIterable iter X.env x = pure x) ∧ f = lcF own t fi fc fe
theorem LcOk.se {f : Mo RV} (hc : X.calm = true) (hN : X.N.Nodup) (h : LcOk X W ct elt tg iter ifs scope f) : SE X W ct (.ListComp elt [⟨tg, iter, ifs, 0⟩] scope pos) f := by
  obtain ⟨own, t, fi, fc, fe, ⟨wi, pi, ki⟩, ok, ht, hg, hts, he, hs, rfl⟩ := h
  exact ⟨_, pe_lc hc hN pi ok hg hts he hs, comp_rd ht ki⟩
end
end HB

set_option Elab.async false
set_option linter.all false
set_option maxRecDepth 100000
set_option maxHeartbeats 2000000
/-! HBSnd10: every expression that is compiled is worth what ev says. -/
namespace HB
open PySem PySem.Spec PyProof.Rows L2

section
variable {S : Sc} {Φ : Fn} {ct : Nat → Addr} {k : Nat} {X : Cx} {W : WX}
theorem takes_no {X : Cx} : Takes X (fun _ _ _ _ => False) := fun _ _ x => by
  obtain ⟨_, _, _, _, _, _, _, _, _, _, _, _, _, _, _, _, z⟩ := x
  exact z.elim
theorem CkE.blk (C : CkE S Φ ct k X W) (s : Shared) (H : Hp) (scope : Scope) (Cc : Addr) (cl : List (Str × Addr)) (fp : List Addr) : CkE (S.blk scope) Φ ct k (X.blk s H scope (compEnvC scope cl Cc X.env) fp) (fun _ _ _ _ => False) where
  N := C.N
  sc := by show relS scope X.env.scope = relS scope S.sc; rw [C.sc]
  fnb := fun x h => h
  nd := C.nd
  calm := C.calm
  gd := C.gd
  room := C.room
  tk := takes_no
  fns := C.fns
  bl := C.bl
  sm := C.sm
theorem ST.ite {c a b : Expr} {fc fa fb : Mo RV} {pos : Pos} (hc : ST X W ct c fc.tst) (ha : ST X W ct a fa.tst) (hb : ST X W ct b fb.tst) : ST X W ct (.IfExp c a b pos) (Mo.tst (fc.tst.bnd fun t => if t = true then fa else fb)) := by
  obtain ⟨tc, pc, kc⟩ := hc
  obtain ⟨ta, pa, ka⟩ := ha
  obtain ⟨tb, pb, kb⟩ := hb
  refine ⟨fun σ H Q => tc σ H fun t H1 => if t = true then ta σ H1 Q else tb σ H1 Q, ⟨fun pins s σ H Q I h => ?_⟩, fun B σ Hb H env Q S q => ?_⟩
  · have e : ∀ w, PySem.isTrue (.IfExp c a b pos) X.env w = (PySem.isTrue c X.env (eval c X.env) >>= fun t => if t = true then PySem.isTrue a X.env (eval a X.env) else PySem.isTrue b X.env (eval b X.env)) := fun w => by rw [PySem.isTrue]
    rw [e]
    refine wpAny_bind (thn (pc.run pins s σ H _ I h) fun t s1 ⟨H1, I1, q1⟩ => ?_)
    cases t with
    | true => exact pa.run pins s1 σ H1 Q I1 q1
    | false => exact pb.run pins s1 σ H1 Q I1 q1
  · rw [tst_bnd] at q
    refine ST.go kc S q fun t e1 Hb1 H1 S1 g => ?_
    cases t with
    | true => exact ka B σ Hb1 H1 e1 _ S1 g
    | false => exact kb B σ Hb1 H1 e1 _ S1 g
theorem cSt_plain {e : Expr} (h : notStar e = true) : cSt S e = none := by
  cases e <;> first | rfl | cases h
theorem evA_len : ∀ {es : List Expr} {ia : IA} {env e' : Evn} {rs : List RV}, allPlain es = true → cA S es = some ia → evA Φ ia env = some (.ok rs e') → rs.length = es.length
  | [], ia, env, e', rs, _, h, g => by
    simp only [cA] at h
    cases h
    simp only [evA] at g
    cases g
    rfl
  | e :: es, ia, env, e', rs, hp, h, g => by
    have hp' : notStar e = true ∧ allPlain es = true := by simpa [allPlain] using hp
    simp only [cA, cSt_plain hp'.1] at h
    cases hx : cE S e with
    | none => simp [hx] at h
    | some x =>
      cases hr : cA S es with
      | none => simp [hx, hr] at h
      | some r =>
        simp only [hx, hr] at h
        cases h
        simp only [evA] at g
        obtain ⟨a, e1, g1, g2⟩ := bnd_ok g
        obtain ⟨b, e2, g3, g4⟩ := bnd_ok g2
        cases g4
        simp [evA_len hp'.2 hr g3]
def FE (X : Cx) (W : WX) (ct : Nat → Addr) (Φ : Fn) : List Expr → List IE → Prop
  | [], [] => True
  | e :: es, x :: xs => SE X W ct e (ev Φ x) ∧ FE X W ct Φ es xs
  | _, _ => False
theorem attr_base {o : Expr} {m : Str} {env : Env} (h : notSup o = true) : attributeBase o m env (eval o env) = eval o env := by
  cases o <;> try rfl
  rename_i f args kws p
  cases f <;> try rfl
  cases args <;> try rfl
  cases kws <;> first | rfl | cases h
theorem plain_ix {b : Expr} (h : notSlice b = true) : PlainIx b := by
  intro o i
  cases b <;> first | rfl | cases h
theorem no_marks {op : CmpOp} {b : Expr} (h : notSet b = true) : behindInMarks op b = false := by
  cases b <;> first | rfl | cases h
theorem folded {e : Expr} {env : Env} {x : Value} (h : notSet e = true) : foldedSetIterable e env x = pure x := by
  cases e <;> first | rfl | cases h
theorem isi_inv {S : Sc} {args : List Expr} {h0 : Option IE} {ie : IE} (h : (match args, h0 with
          | [_, t], some x => match tysArg S t with
            | some ts => if ts ≠ [] ∧ ts.length ≤ 1000 then some (IE.isi x ts) else none
            | none => none
          | _, _ => none) = some ie) : ∃ e t x ts, args = [e, t] ∧ h0 = some x ∧ tysArg S t = some ts ∧ ts ≠ [] ∧ ts.length ≤ 1000 ∧ ie = .isi x ts := by
  rcases args with _ | ⟨e, _ | ⟨t, _ | ⟨u, r⟩⟩⟩ <;> rcases h0 with _ | x <;> simp only at h <;> try cases h
  cases hts : tysArg S t with
  | none => rw [hts] at h; cases h
  | some ts =>
    rw [hts] at h
    rcases ite_or h with ⟨hc, h⟩ | ⟨_, h⟩
    · cases h; exact ⟨e, t, x, ts, rfl, rfl, hts, hc.1, hc.2, rfl⟩
    · cases h
theorem rng_inv {c : Bool} {args : List Expr} {h0 : Option (List IE)} {ie : IE} (h : (match args, h0 with
        | [_], some [x] => if c = true then some (IE.blt .listRng (.cons x .nil)) else none
        | _, _ => none) = some ie) : ∃ e x, args = [e] ∧ h0 = some [x] ∧ c = true ∧ ie = .blt .listRng (.cons x .nil) := by
  rcases args with _ | ⟨e, _ | ⟨t, r⟩⟩ <;> rcases h0 with _ | (_ | ⟨x, _ | ⟨y, ys⟩⟩) <;> simp only at h <;> try cases h
  rcases ite_or h with ⟨hc, h⟩ | ⟨_, h⟩
  · cases h; exact ⟨e, x, rfl, rfl, hc, rfl⟩
  · cases h
theorem isR_inv {S : Sc} {e : Expr} (h : isRange S e = true) : ∃ g q1 a q2, e = .Call (.Name g q1) [a] [] q2 ∧ S.bl g = true ∧ g = ("range" : Str) ∧ notStar a = true := by
  unfold isRange at h
  split at h
  · rename_i g q1 a q2
    simp only [Bool.and_eq_true, decide_eq_true_eq] at h
    exact ⟨g, q1, a, q2, rfl, h.1.1, h.1.2, h.2⟩
  · cases h
theorem two_inv {b : Option Blt} {as : Option IA} {ie : IE} (h : (match b, as with
        | some b, some es => some (IE.blt b es)
        | _, _ => none) = some ie) : ∃ b' es, b = some b' ∧ as = some es ∧ ie = .blt b' es := by
  rcases b with _ | b <;> rcases as with _ | es <;> simp only at h <;> cases h
  exact ⟨b, es, rfl, rfl, rfl⟩
theorem rg_inv {args : List Expr} {as : Option (List IE)} {ii : II} (h : (match args, as with
        | [_], some [a] => some (II.rng1 a)
        | [_, _], some [a, b] => some (II.rng2 a b)
        | _, _ => none) = some ii) : (∃ e x, args = [e] ∧ as = some [x] ∧ ii = .rng1 x) ∨ ∃ e f x y, args = [e, f] ∧ as = some [x, y] ∧ ii = .rng2 x y := by
  rcases args with _ | ⟨e, _ | ⟨f, _ | ⟨g, r⟩⟩⟩ <;> rcases as with _ | (_ | ⟨x, _ | ⟨y, _ | ⟨z, ys⟩⟩⟩) <;> simp only at h <;> cases h
  · exact .inl ⟨e, x, rfl, rfl, rfl⟩
  · exact .inr ⟨e, f, x, y, rfl, rfl, rfl⟩
theorem en_inv {args : List Expr} {as : Option (List IE)} {ii : II} (h : (match args, as with
        | [_], some [a] => some (II.enum a)
        | _, _ => none) = some ii) : ∃ e x, args = [e] ∧ as = some [x] ∧ ii = .enum x := by
  rcases args with _ | ⟨e, _ | ⟨f, r⟩⟩ <;> rcases as with _ | (_ | ⟨x, _ | ⟨y, ys⟩⟩) <;> simp only at h <;> cases h
  exact ⟨e, x, rfl, rfl, rfl⟩
theorem call_ok (C : CkE S Φ ct k X W) {f : Str} {fp pos : Pos} {args : List Expr} {ie : IE} (h : cCall S f args (cA S args) (cIh S args) (cH S args) = some ie)
    (hA : ∀ ia, cA S args = some ia → SA X W ct args (evA Φ ia)) (hH : ∀ e es x, args = e :: es → cE S e = some x → SE X W ct e (ev Φ x))
    (hI : ∀ e es as f2 args2 kw p, args = e :: es → e = .Call f2 args2 kw p → cEs S args2 = some as → FE X W ct Φ args2 as) : SE X W ct (.Call (.Name f fp) args [] pos) (ev Φ ie) := by
  unfold cCall at h
  rcases ite_or h with ⟨hp, h⟩ | ⟨_, h⟩
  · split at h
    · -- a def of the module
      rename_i n io ps kl hl
      split at h
      · rename_i hc
        obtain ⟨ia, hia, rfl⟩ := Option.map_eq_some_iff.mp h
        cases args with
        | nil => exact absurd rfl hc.2.2
        | cons e es =>
          obtain ⟨hg, hdb⟩ := gl_ok C hc.1
          rw [ev]
          exact SE.call (C.fns f n io ps kl hl) C.room C.gd hg C.tk hdb hp hc.2.1 (fun env rs ⟨e', he⟩ => by rw [evA_len hp hia he]; exact hc.2.1) (hA ia hia)
      · cases h
    · rcases ite_or h with ⟨hf, h⟩ | ⟨_, h⟩
      · -- isinstance
        subst hf
        rcases ite_or h with ⟨hb, h⟩ | ⟨_, h⟩
        · obtain ⟨e, t, x, ts, rfl, hx, hts, h1, h2, rfl⟩ := isi_inv h
          have hp' : notStar e = true ∧ allPlain [t] = true := by simpa [allPlain] using hp
          rw [ev]
          exact SE.isi (fun x hx => bl_ok C hx) hb hts h1 h2 hp'.1 (SE.set (hH e [t] x rfl (by simpa [cH] using hx)))
        · cases h
      · rcases ite_or h with ⟨hf, h⟩ | ⟨_, h⟩
        · -- list(range(n))
          obtain ⟨hf, hr⟩ := hf
          subst hf
          obtain ⟨e, x, rfl, hx, hb, rfl⟩ := rng_inv h
          obtain ⟨g, q1, a, q2, rfl, h1, rfl, h3⟩ := isR_inv (S := S) (e := e) (by simpa using hr)
          have fe := hI _ [] [x] _ _ _ _ rfl rfl (by simpa [cIh, cArgs] using hx)
          obtain ⟨hl, ml⟩ := bl_ok C hb
          obtain ⟨hr1, mr⟩ := bl_ok C h1
          rw [ev, evA, evA]
          exact SE.listRng C.calm hl ml hr1 mr h3 (SE.set fe.1)
        · obtain ⟨b, es, hb, hes, rfl⟩ := two_inv h
          obtain ⟨hbl, r, hr1, hr2⟩ := blt_ok C.calm C.gd (by have := C.room.un; omega) C.sm hb
          obtain ⟨hg, hm⟩ := bl_ok C hbl
          cases args with
          | nil =>
            unfold bltOf at hb
            rw [if_pos hbl] at hb
            simp at hb
          | cons e es' =>
            rw [ev]
            exact SE.blt hr1 hr2 hg hm hp (hA es hes)
  · cases h
theorem evK_len : ∀ {kws : List Keyword} {ia : IA} {env e' : Evn} {rs : List RV}, cK S kws = some ia → evA Φ ia env = some (.ok rs e') → rs.length = kws.length
  | [], ia, env, e', rs, h, g => by
    simp only [cK] at h
    cases h
    simp only [evA] at g
    cases g
    rfl
  | ⟨nm, e, p⟩ :: es, ia, env, e', rs, h, g => by
    simp only [cK] at h
    cases hx : cE S e with
    | none => simp [hx] at h
    | some x =>
      cases hr : cK S es with
      | none => simp [hx, hr] at h
      | some r =>
        simp only [hx, hr] at h
        cases h
        simp only [evA] at g
        obtain ⟨a, e1, g1, g2⟩ := bnd_ok g
        obtain ⟨b, e2, g3, g4⟩ := bnd_ok g2
        cases g4
        simp [evK_len hr g3]
theorem mem_lk {α β : Type} [BEq α] [LawfulBEq α] : ∀ {l : List (α × β)} {a : α} {b : β}, l.lookup a = some b → (a, b) ∈ l
  | [], _, _, h => by cases h
  | (x, y) :: r, a, b, h => by
    rw [List.lookup_cons] at h
    cases e : a == x with
    | true =>
      simp only [e] at h
      cases h
      rw [eq_of_beq e]
      exact List.mem_cons_self
    | false =>
      simp only [e] at h
      exact List.mem_cons_of_mem _ (mem_lk h)
theorem callK_ok (C : CkE S Φ ct k X W) {f : Str} {fp pos : Pos} {kws : List Keyword} {ie : IE} (h : cCallK S f kws (cK S kws) = some ie) (hK : ∀ ia, cK S kws = some ia → SK X W ct kws (evA Φ ia)) : SE X W ct (.Call (.Name f fp) [] kws pos) (ev Φ ie) := by
  unfold cCallK at h
  cases hl : S.tb.fns.lookup f with
  | none => simp [hl] at h
  | some t =>
  obtain ⟨n, io, ps, kl⟩ := t
  cases hn : kwNames kws with
  | none => cases io <;> simp [hl, hn] at h
  | some ks =>
  cases io with
  | true => simp [hl, hn] at h
  | false =>
  simp only [hl, hn] at h
  cases hk : kl.lookup ks with
  | none => simp [hk] at h
  | some perm =>
  simp only [hk] at h
  rcases ite_or h with ⟨⟨h1, h2, h3⟩, h⟩ | ⟨_, h⟩
  · obtain ⟨ia, hia, rfl⟩ := Option.map_eq_some_iff.mp h
    obtain ⟨hg, hdb⟩ := gl_ok C h1
    rw [ev]
    exact SE.callK (C.fns f n false ps kl hl) C.room C.gd hg C.tk hdb hn (mem_lk hk) h2 h3 (fun env rs ⟨e', he⟩ => evK_len hia he) (hK ia hia)
  · cases h
theorem iter_ok (C : CkE S Φ ct k X W) {tg iter : Expr} {ii : II} (h : cI S iter (cE S iter) (cArgs S iter) = some ii) (htg : tgOk tg ii = true) (hx : ∀ x, cE S iter = some x → SE X W ct iter (ev Φ x))
    (ha : ∀ f args kw p as, iter = .Call f args kw p → cEs S args = some as → FE X W ct Φ args as) : SI X W ct tg iter (evI Φ ii) ∧ notSet iter = true := by
  have seq : ∀ {x : IE}, cE S iter = some x → SI X W ct tg iter (evI Φ (.seq x)) := fun {x} h => by
    rw [evI]
    exact SI.seq (SE.set (hx x h))
  have base : ∀ {ii : II}, (cE S iter).map II.seq = some ii → SI X W ct tg iter (evI Φ ii) := fun {ii} h => by
    obtain ⟨x, h1, rfl⟩ := Option.map_eq_some_iff.mp h
    exact seq h1
  cases iter with
  | Set es k p => simp [cI] at h
  | Call f args kws p =>
    refine ⟨?_, rfl⟩
    cases f with
    | Name f fp =>
      cases kws with
      | cons kw kws => exact base h
      | nil =>
        simp only [cI] at h
        rcases ite_or h with ⟨hf, h⟩ | ⟨_, h⟩
        · obtain ⟨hb, rfl⟩ := hf
          obtain ⟨hg, hm⟩ := bl_ok C hb
          rcases ite_or h with ⟨hp, h⟩ | ⟨_, h⟩
          · simp only [cArgs] at h
            rcases rg_inv h with ⟨a, x, rfl, hx', rfl⟩ | ⟨a, b, x, y, rfl, hx', rfl⟩
            · have fe := ha _ _ _ _ _ rfl hx'
              have hp' : notStar a = true := by simpa [allPlain] using hp
              rw [evI]
              exact SI.rng1 hg hm hp' fe.1
            · have fe := ha _ _ _ _ _ rfl hx'
              have hp' : notStar a = true ∧ notStar b = true := by simpa [allPlain] using hp
              rw [evI]
              exact SI.rng2 hg hm hp'.1 hp'.2 (SE.set fe.1) (SE.set fe.2.1)
          · cases h
        · rcases ite_or h with ⟨hf, h⟩ | ⟨_, h⟩
          · obtain ⟨hb, rfl⟩ := hf
            obtain ⟨hg, hm⟩ := bl_ok C hb
            rcases ite_or h with ⟨hp, h⟩ | ⟨_, h⟩
            · simp only [cArgs] at h
              obtain ⟨a, x, rfl, hx', rfl⟩ := en_inv h
              have fe := ha _ _ _ _ _ rfl hx'
              have hp' : notStar a = true := by simpa [allPlain] using hp
              rw [evI]
              exact SI.enum hg hm hp' htg (SE.set fe.1)
            · cases h
          · exact base h
    | _ => exact base h
  | _ => exact ⟨base h, rfl⟩
theorem comp_ok (C : CkE S Φ ct k X W) {elt tg iter : Expr} {ifs : List Expr} {scope : Scope} {ie : IE}
    (h : cComp S tg scope (cI S iter (cE S iter) (cArgs S iter)) (cIf (S.blk scope) ifs) (cE (S.blk scope) elt) = some ie)
    (hx : ∀ x, cE S iter = some x → SE X W ct iter (ev Φ x)) (ha : ∀ f args kw p as, iter = .Call f args kw p → cEs S args = some as → FE X W ct Φ args as)
    (hif : ∀ (X' : Cx) e x, ifs = [e] → CkE (S.blk scope) Φ ct k X' (fun _ _ _ _ => False) → cE (S.blk scope) e = some x → ST X' (fun _ _ _ _ => False) ct e (ev Φ x).tst)
    (hel : ∀ (X' : Cx) x, CkE (S.blk scope) Φ ct k X' (fun _ _ _ _ => False) → cE (S.blk scope) elt = some x → SE X' (fun _ _ _ _ => False) ct elt (ev Φ x)) :
    LcOk X W ct elt tg iter ifs scope (ev Φ ie) := by
  unfold cComp at h
  split at h
  · rename_i t it c e ht hit hc he
    split at h
    · rename_i hcond
      cases h
      simp only [Bool.and_eq_true, List.all_eq_true, List.any_eq_true, beq_iff_eq] at hcond
      obtain ⟨⟨h1, h2⟩, h3⟩ := hcond
      obtain ⟨si, ns⟩ := iter_ok C hit h1 hx ha
      rw [ev]
      have own_in : ∀ i ∈ t, i ∈ (ownOf S.N scope.names).map (·.2) := fun i hi => by
        obtain ⟨p, hp, e⟩ := h3 i hi
        exact List.mem_map.mpr ⟨p, hp, e⟩
      refine ⟨ownOf S.N scope.names, t, evI Φ it, evC Φ c, (ev Φ e).set, si, by rw [C.N, C.sc]; exact blkOk_by h2, own_in,
        fun s H Cc cl fp => tgt_ok (C.blk s H scope Cc cl fp) ht, fun s H Cc cl fp => (by
          cases ifs with
          | nil => simp only [cIf] at hc; cases hc; rw [evC]; exact pts_no
          | cons e0 es0 =>
            cases es0 with
            | nil =>
              simp only [cIf] at hc
              obtain ⟨x, hx1, rfl⟩ := Option.map_eq_some_iff.mp hc
              rw [evC]
              exact PTs.canon (hif _ e0 x rfl (C.blk s H scope Cc cl fp) hx1)
            | cons e1 es1 => simp only [cIf] at hc; cases hc),
        fun s H Cc cl fp => SEs.canon (SE.set (hel _ e (C.blk s H scope Cc cl fp) he)), fun x => folded ns, rfl⟩
    · cases h
  · cases h
end
end HB

set_option Elab.async false
set_option linter.all false
set_option maxRecDepth 100000
set_option maxHeartbeats 2000000
/-! HBSnd11: the induction over expressions. -/
namespace HB
open PySem PySem.Spec PyProof.Rows L2

theorem rev_inv {s : Expr} (h : isRev s = true) : ∃ k p1 p2 p3, s = .Slice none none (some (.UnaryOp .USub (.Constant (.int 1) k p1) p2)) p3 := by
  unfold isRev at h
  split at h
  · exact ⟨_, _, _, _, rfl⟩
  · cases h
theorem sl_inv {S : Sc} {s : Expr} {l u : IO} (h : cSl S s = some (l, u)) : ∃ lo hi p, s = .Slice lo hi none p ∧ cO S lo = some l ∧ cO S hi = some u := by
  cases s with
  | Slice lo hi st p =>
    simp only [cSl] at h
    cases st with
    | some st => simp at h
    | none =>
      cases hl : cO S lo with
      | none => simp [hl] at h
      | some l1 =>
        cases hu : cO S hi with
        | none => simp [hl, hu] at h
        | some u1 =>
          simp only [hl, hu] at h
          cases h
          exact ⟨lo, hi, p, rfl, hl, hu⟩
  | _ => simp [cSl] at h
theorem cmp_inv {S : Sc} {a : Expr} {ops : List CmpOp} {cs : List Expr} {p : Pos} {ie : IE} (h : cE S (.Compare a ops cs p) = some ie) :
    (∃ o1 b x y o, ops = [o1] ∧ cs = [b] ∧ cE S a = some x ∧ cE S b = some y ∧ copOf o1 = some o ∧ notSet b = true ∧ ie = .cmp o x y) ∨
    ∃ o1 o2 b c x y z o o', ops = [o1, o2] ∧ cs = [b, c] ∧ cE S a = some x ∧ cE S b = some y ∧ cE S c = some z ∧ copOf o1 = some o ∧ copOf o2 = some o' ∧ notSet b = true ∧ notSet c = true ∧ ie = .chn o o' x y z := by
  simp only [cE] at h
  rcases ite_or h with ⟨hs, h⟩ | ⟨_, h⟩
  · cases hx : cE S a with
    | none => rcases ops with _ | ⟨o1, _ | ⟨o2, _ | ⟨o3, os⟩⟩⟩ <;> simp [hx] at h
    | some x =>
    rcases ops with _ | ⟨o1, _ | ⟨o2, _ | ⟨o3, os⟩⟩⟩
    · simp at h
    · rcases cs with _ | ⟨b, _ | ⟨c, r⟩⟩
      · simp [hx, cEs] at h
      · cases hb : cE S b with
        | none => simp [hx, hb, cEs] at h
        | some y =>
        cases ho : copOf o1 with
        | none => simp [ho] at h
        | some o =>
        simp only [hx, hb, ho, cEs, List.map] at h
        cases h
        exact .inl ⟨o1, b, x, y, o, rfl, rfl, rfl, hb, ho, by simpa using hs, rfl⟩
      · cases hb : cE S b <;> cases hc : cE S c <;> cases hr : cEs S r <;> simp [hx, hb, hc, hr, cEs] at h
    · rcases cs with _ | ⟨b, _ | ⟨c, _ | ⟨d, r⟩⟩⟩
      · cases ho : copOf o1 <;> cases ho2 : copOf o2 <;> simp [hx, cEs, ho, ho2] at h
      · cases ho : copOf o1 <;> cases ho2 : copOf o2 <;> cases hb : cE S b <;> simp [hx, hb, cEs, ho, ho2] at h
      · cases hb : cE S b with
        | none => simp [hx, hb, cEs] at h
        | some y =>
        cases hc : cE S c with
        | none => simp [hx, hb, hc, cEs] at h
        | some z =>
        cases ho : copOf o1 with
        | none => simp [ho] at h
        | some o =>
        cases ho2 : copOf o2 with
        | none => simp [ho2] at h
        | some o' =>
        simp only [hx, hb, hc, ho, ho2, cEs, List.map] at h
        cases h
        have ns : notSet b = true ∧ notSet c = true := by simpa using hs
        exact .inr ⟨o1, o2, b, c, x, y, z, o, o', rfl, rfl, rfl, hb, hc, ho, ho2, ns.1, ns.2, rfl⟩
      · cases ho : copOf o1 <;> cases ho2 : copOf o2 <;> cases hb : cE S b <;> cases hc : cE S c <;> cases hd : cE S d <;> cases hr : cEs S r <;> simp [hx, hb, hc, hd, hr, cEs, ho, ho2] at h
    · cases ho : copOf o1 <;> cases ho2 : copOf o2 <;> cases ho3 : copOf o3 <;> simp [ho, ho2, ho3] at h
  · cases h
theorem mth_ok {X : Cx} {name : Str} {n : Nat} {m : Mth} (h : mthOf name n = some m) : ∃ id r, Slot "list" name id ∧ typeOf (.builtin id) = pure (.type "method_descriptor") ∧ MtR X id r ∧ isMut m = true ∧ MutOk X m r := by
  unfold mthOf at h
  rcases ite_or h with ⟨e, h⟩ | ⟨_, h⟩
  · cases h; rw [e.1]; exact ⟨_, _, PySem.F.slot_list_append, PySem.F.type_list_append, mt_append, rfl, mut_append⟩
  rcases ite_or h with ⟨e, h⟩ | ⟨_, h⟩
  · cases h; rw [e.1]; exact ⟨_, _, PySem.F.slot_list_pop, PySem.F.type_list_pop, mt_pop, rfl, mut_pop⟩
  rcases ite_or h with ⟨e, h⟩ | ⟨_, h⟩
  · cases h; rw [e.1]; exact ⟨_, _, PySem.F.slot_list_pop, PySem.F.type_list_pop, mt_popAt, rfl, mut_popAt⟩
  rcases ite_or h with ⟨e, h⟩ | ⟨_, h⟩
  · cases h; rw [e.1]; exact ⟨_, _, PySem.F.slot_list_extend, PySem.F.type_list_extend, mt_extend, rfl, mut_extend⟩
  · cases h
section
variable {Φ : Fn} {ct : Nat → Addr} {k : Nat}
mutual
theorem sE : ∀ (e : Expr) (S : Sc) (X : Cx) (W : WX) (ie : IE), CkE S Φ ct k X W → cE S e = some ie → SE X W ct e (ev Φ ie)
  | .Constant c kk p, S, X, W, ie, C, h => by
    cases c <;> simp only [cE] at h <;> try cases h
    · rw [ev]; exact SE.cst pe_non fun _ => rfl
    · rw [ev]; exact SE.cst pe_bl fun _ => rfl
    · rw [ev]; exact SE.cst pe_int fun _ => rfl
    · rw [ev]; exact SE.cst pe_str fun _ => rfl
  | .Name x p, S, X, W, ie, C, h => by
    simp only [cE] at h
    obtain ⟨i, hi, rfl⟩ := Option.map_eq_some_iff.mp h
    obtain ⟨h1, h2, h3, h4⟩ := rd_ok C hi
    exact SE.var h1 h2 h3 h4
  | .BinOp a op b p, S, X, W, ie, C, h => by
    simp only [cE] at h
    cases h1 : bopOf op with
    | none => simp [h1] at h
    | some o =>
    cases h2 : cE S a with
    | none => simp [h1, h2] at h
    | some x =>
    cases h3 : cE S b with
    | none => simp [h1, h2, h3] at h
    | some y =>
    simp only [h1, h2, h3] at h
    cases h
    obtain ⟨r, r1, r2⟩ := bin_op (X := X) h1
    rw [ev]
    exact SE.bin r1 r2 (SE.set (sE a S X W x C h2)) (SE.set (sE b S X W y C h3))
  | .UnaryOp op a p, S, X, W, ie, C, h => by
    simp only [cE] at h
    cases h2 : cE S a with
    | none => cases op <;> simp [h2] at h
    | some x =>
    cases op <;> simp only [h2] at h <;> cases h
    · rw [ev]; exact SE.not (sE a S X W x C h2)
    · rw [ev]; exact SE.neg (SE.set (sE a S X W x C h2))
  | .BoolOp op es p, S, X, W, ie, C, h => by
    cases op <;> simp only [cE] at h
    · exact (sAnd es S X W ie p C h).1
    · exact (sOr es S X W ie p C h).1
  | .Compare a ops cs p, S, X, W, ie, C, h => by
    rcases cmp_inv h with ⟨o1, b, x, y, o, rfl, rfl, hx, hb, ho, ns, rfl⟩ | ⟨o1, o2, b, c, x, y, z, o, o', rfl, rfl, hx, hb, hc, ho, ho2, ns1, ns2, rfl⟩
    · obtain ⟨r1, q1, q2⟩ := cmp_op (X := X) C.room.units ho
      rw [ev]
      exact SE.cmp q1 q2 (SE.set (sE a S X W x C hx)) (SE.set (sE b S X W y C hb)) (no_marks ns)
    · obtain ⟨r1, q1, q2⟩ := cmp_op (X := X) C.room.units ho
      obtain ⟨r2, q3, q4⟩ := cmp_op (X := X) C.room.units ho2
      rw [ev]
      exact SE.chain q1 q3 q2 q4 (SE.set (sE a S X W x C hx)) (SE.set (sE b S X W y C hb)) (SE.set (sE c S X W z C hc)) (no_marks ns2)
  | .IfExp c a b p, S, X, W, ie, C, h => by
    simp only [cE] at h
    cases h1 : cE S c with
    | none => simp [h1] at h
    | some z =>
    cases h2 : cE S a with
    | none => simp [h1, h2] at h
    | some x =>
    cases h3 : cE S b with
    | none => simp [h1, h2, h3] at h
    | some y =>
    simp only [h1, h2, h3] at h
    cases h
    rw [ev]
    exact SE.ite (sT c S X W z C h1) (sE a S X W x C h2) (sE b S X W y C h3)
  | .List es p, S, X, W, ie, C, h => by
    simp only [cE] at h
    obtain ⟨ia, h1, rfl⟩ := Option.map_eq_some_iff.mp h
    rw [ev]
    exact SE.lst (sA es S X W ia C h1)
  | .Tuple es kk p, S, X, W, ie, C, h => by
    simp only [cE] at h
    obtain ⟨ia, h1, rfl⟩ := Option.map_eq_some_iff.mp h
    rw [ev]
    exact SE.tup (sA es S X W ia C h1)
  | .Dict ks vs p, S, X, W, ie, C, h => by
    simp only [cE] at h
    cases ks <;> cases vs <;> simp only at h <;> cases h
    rw [ev]
    exact SE.dct0
  | .Subscript a s p, S, X, W, ie, C, h => by
    simp only [cE] at h
    rcases ite_or h with ⟨hr, h⟩ | ⟨_, h⟩
    · obtain ⟨k1, p1, p2, p3, rfl⟩ := rev_inv hr
      obtain ⟨x, hx, rfl⟩ := Option.map_eq_some_iff.mp h
      rw [ev]
      exact SE.rev (SE.set (sE a S X W x C hx))
    · cases hs : cSl S s with
      | some lh =>
        obtain ⟨l, u⟩ := lh
        simp only [hs] at h
        obtain ⟨x, hx, rfl⟩ := Option.map_eq_some_iff.mp h
        obtain ⟨lo, hi, p2, rfl, hl, hu⟩ := sl_inv hs
        rw [ev]
        exact SE.slc (SE.set (sE a S X W x C hx)) (sO lo S X W l C hl) (sO hi S X W u C hu)
      | none =>
        simp only [hs] at h
        rcases ite_or h with ⟨hn, h⟩ | ⟨_, h⟩
        · cases h2 : cE S a with
          | none => simp [h2] at h
          | some x =>
          cases h3 : cE S s with
          | none => simp [h2, h3] at h
          | some y =>
          simp only [h2, h3] at h
          cases h
          rw [ev]
          exact SE.ix (SE.set (sE a S X W x C h2)) (SE.set (sE s S X W y C h3)) (plain_ix hn)
        · cases h
  | .Call f args kws p, S, X, W, ie, C, h => by
    cases f with
    | Name f fp =>
      cases kws with
      | cons kw kws =>
        cases args with
        | cons a as => simp [cE] at h
        | nil =>
          simp only [cE] at h
          exact callK_ok C h fun ia hia => sK (kw :: kws) S X W ia C hia
      | nil =>
        simp only [cE] at h
        refine call_ok C h (fun ia hia => sA args S X W ia C hia) (fun e es x he hx => ?_) (fun e es as f2 args2 kw p he he2 has => ?_)
        · subst he
          exact sE e S X W x C hx
        · subst he
          subst he2
          exact sF args2 S X W as C has
    | Attribute o m q =>
      cases kws with
      | cons kw kws => simp [cE] at h
      | nil =>
        simp only [cE] at h
        rcases ite_or h with ⟨hc, h⟩ | ⟨_, h⟩
        · simp only [Bool.and_eq_true, decide_eq_true_eq] at hc
          obtain ⟨⟨⟨h1, h2⟩, h3⟩, h4⟩ := hc
          cases hm : mthOf m args.length with
          | none => simp [hm] at h
          | some mm =>
          cases ho : cE S o with
          | none => simp [hm, ho] at h
          | some x =>
          cases ha : cA S args with
          | none => simp [hm, ho, ha] at h
          | some es =>
          simp only [hm, ho, ha] at h
          cases h
          obtain ⟨id, r, q1, q2, q3, q4, q5⟩ := mth_ok (X := X) hm
          have so := SE.set (sE o S X W x C ho)
          have sa := sA args S X W es C ha
          cases args with
          | nil =>
            simp only [cA] at ha
            cases ha
            rw [ev, evA]
            exact SE.meth0 q1 q2 q3 q4 q5 (attr_base h1) h3 so
          | cons e es' =>
            rw [ev]
            exact SE.meth q1 q2 q3 q4 q5 (attr_base h1) h3 h2 h4 so sa
        · cases h
    | _ => simp [cE] at h
  | .ListComp elt gs scope p, S, X, W, ie, C, h => by
    unfold cE at h
    split at h
    · rename_i tg iter ifs
      exact LcOk.se C.calm C.nd (comp_ok C h (fun x hx => sE iter S X W x C hx) (fun f args kw p as he has => by subst he; exact sF args S X W as C has)
        (fun X' e x he C' hx => by subst he; exact sT e (S.blk scope) X' _ x C' hx) (fun X' x C' hx => sE elt (S.blk scope) X' _ x C' hx))
    · cases h
  | .NamedExpr .., S, X, W, ie, C, h => by simp [cE] at h
  | .Lambda .., S, X, W, ie, C, h => by simp [cE] at h
  | .Set .., S, X, W, ie, C, h => by simp [cE] at h
  | .SetComp .., S, X, W, ie, C, h => by simp [cE] at h
  | .DictComp .., S, X, W, ie, C, h => by simp [cE] at h
  | .GeneratorExp .., S, X, W, ie, C, h => by simp [cE] at h
  | .Await .., S, X, W, ie, C, h => by simp [cE] at h
  | .Yield .., S, X, W, ie, C, h => by simp [cE] at h
  | .YieldFrom .., S, X, W, ie, C, h => by simp [cE] at h
  | .FormattedValue .., S, X, W, ie, C, h => by simp [cE] at h
  | .JoinedStr .., S, X, W, ie, C, h => by simp [cE] at h
  | .Attribute .., S, X, W, ie, C, h => by simp [cE] at h
  | .Starred .., S, X, W, ie, C, h => by simp [cE] at h
  | .Slice .., S, X, W, ie, C, h => by simp [cE] at h
termination_by e => (sizeOf e, 0)
theorem sT : ∀ (e : Expr) (S : Sc) (X : Cx) (W : WX) (ie : IE), CkE S Φ ct k X W → cE S e = some ie → ST X W ct e (ev Φ ie).tst
  | .UnaryOp op a p, S, X, W, ie, C, h => by
    have se := sE (.UnaryOp op a p) S X W ie C h
    cases op with
    | Not =>
      simp only [cE] at h
      cases h2 : cE S a with
      | none => simp [h2] at h
      | some x =>
      simp only [h2] at h
      cases h
      rw [ev]
      exact ST.not (sT a S X W x C h2)
    | _ => exact ST.val se fun _ => rfl
  | .BoolOp op es p, S, X, W, ie, C, h => by
    cases op <;> simp only [cE] at h
    · exact (sAnd es S X W ie p C h).2.st
    · exact (sOr es S X W ie p C h).2.st
  | .Compare a ops cs p, S, X, W, ie, C, h => by
    rcases cmp_inv h with ⟨o1, b, x, y, o, rfl, rfl, hx, hb, ho, ns, rfl⟩ | ⟨o1, o2, b, c, x, y, z, o, o', rfl, rfl, hx, hb, hc, ho, ho2, ns1, ns2, rfl⟩
    · obtain ⟨r1, q1, q2⟩ := cmp_op (X := X) C.room.units ho
      rw [ev]
      exact ST.cmp q1 q2 (SE.set (sE a S X W x C hx)) (SE.set (sE b S X W y C hb)) (no_marks ns)
    · obtain ⟨r1, q1, q2⟩ := cmp_op (X := X) C.room.units ho
      obtain ⟨r2, q3, q4⟩ := cmp_op (X := X) C.room.units ho2
      rw [ev]
      exact ST.chain q1 q3 q2 q4 (SE.set (sE a S X W x C hx)) (SE.set (sE b S X W y C hb)) (SE.set (sE c S X W z C hc)) (no_marks ns2)
  | .IfExp c a b p, S, X, W, ie, C, h => by
    simp only [cE] at h
    cases h1 : cE S c with
    | none => simp [h1] at h
    | some z =>
    cases h2 : cE S a with
    | none => simp [h1, h2] at h
    | some x =>
    cases h3 : cE S b with
    | none => simp [h1, h2, h3] at h
    | some y =>
    simp only [h1, h2, h3] at h
    cases h
    rw [ev]
    exact ST.ite (sT c S X W z C h1) (sT a S X W x C h2) (sT b S X W y C h3)
  | .Constant c kk p, S, X, W, ie, C, h => ST.val (sE _ S X W ie C h) fun _ => rfl
  | .Name x p, S, X, W, ie, C, h => ST.val (sE _ S X W ie C h) fun _ => rfl
  | .BinOp a op b p, S, X, W, ie, C, h => ST.val (sE _ S X W ie C h) fun _ => rfl
  | .List es p, S, X, W, ie, C, h => ST.val (sE _ S X W ie C h) fun _ => rfl
  | .Tuple es kk p, S, X, W, ie, C, h => ST.val (sE _ S X W ie C h) fun _ => rfl
  | .Dict ks vs p, S, X, W, ie, C, h => ST.val (sE _ S X W ie C h) fun _ => rfl
  | .Subscript a s p, S, X, W, ie, C, h => ST.val (sE _ S X W ie C h) fun _ => rfl
  | .Call f args kws p, S, X, W, ie, C, h => ST.val (sE _ S X W ie C h) fun _ => rfl
  | .ListComp elt gs scope p, S, X, W, ie, C, h => ST.val (sE _ S X W ie C h) fun _ => rfl
  | .NamedExpr .., S, X, W, ie, C, h => by simp [cE] at h
  | .Lambda .., S, X, W, ie, C, h => by simp [cE] at h
  | .Set .., S, X, W, ie, C, h => by simp [cE] at h
  | .SetComp .., S, X, W, ie, C, h => by simp [cE] at h
  | .DictComp .., S, X, W, ie, C, h => by simp [cE] at h
  | .GeneratorExp .., S, X, W, ie, C, h => by simp [cE] at h
  | .Await .., S, X, W, ie, C, h => by simp [cE] at h
  | .Yield .., S, X, W, ie, C, h => by simp [cE] at h
  | .YieldFrom .., S, X, W, ie, C, h => by simp [cE] at h
  | .FormattedValue .., S, X, W, ie, C, h => by simp [cE] at h
  | .JoinedStr .., S, X, W, ie, C, h => by simp [cE] at h
  | .Attribute .., S, X, W, ie, C, h => by simp [cE] at h
  | .Starred .., S, X, W, ie, C, h => by simp [cE] at h
  | .Slice .., S, X, W, ie, C, h => by simp [cE] at h
termination_by e => (sizeOf e, 1)
theorem sA : ∀ (es : List Expr) (S : Sc) (X : Cx) (W : WX) (ia : IA), CkE S Φ ct k X W → cA S es = some ia → SA X W ct es (evA Φ ia)
  | [], S, X, W, ia, C, h => by
    simp only [cA] at h
    cases h
    rw [evA]
    exact SA.nil
  | e :: es, S, X, W, ia, C, h => by
    simp only [cA] at h
    cases hr : cA S es with
    | none => cases hs : cSt S e <;> cases he : cE S e <;> simp [hs, he, hr] at h
    | some r =>
    have sr := sA es S X W r C hr
    cases hs : cSt S e with
    | some x =>
      simp only [hs, hr] at h
      cases h
      cases e with
      | Starred e' p =>
        simp only [cSt] at hs
        rw [evA]
        exact SA.star (SE.set (sE e' S X W x C hs)) sr
      | _ => simp [cSt] at hs
    | none =>
      cases he : cE S e with
      | none => simp [hs, he, hr] at h
      | some x =>
      simp only [hs, he, hr] at h
      cases h
      have ns : notStar e = true := by
        cases e <;> first | rfl | simp [cE] at he
      rw [evA]
      exact SA.cons (SE.set (sE e S X W x C he)) sr ns
termination_by es => (sizeOf es, 0)
theorem sK : ∀ (kws : List Keyword) (S : Sc) (X : Cx) (W : WX) (ia : IA), CkE S Φ ct k X W → cK S kws = some ia → SK X W ct kws (evA Φ ia)
  | [], S, X, W, ia, C, h => by
    simp only [cK] at h
    cases h
    rw [evA]
    exact SK.nil
  | ⟨nm, e, p⟩ :: kws, S, X, W, ia, C, h => by
    simp only [cK] at h
    cases he : cE S e with
    | none => simp [he] at h
    | some x =>
    cases hr : cK S kws with
    | none => simp [he, hr] at h
    | some r =>
    simp only [he, hr] at h
    cases h
    rw [evA]
    exact SK.cons (SE.set (sE e S X W x C he)) (sK kws S X W r C hr)
termination_by kws => (sizeOf kws, 0)
theorem sF : ∀ (es : List Expr) (S : Sc) (X : Cx) (W : WX) (xs : List IE), CkE S Φ ct k X W → cEs S es = some xs → FE X W ct Φ es xs
  | [], S, X, W, xs, C, h => by
    simp only [cEs] at h
    cases h
    trivial
  | e :: es, S, X, W, xs, C, h => by
    simp only [cEs] at h
    cases he : cE S e with
    | none => simp [he] at h
    | some x =>
    cases hr : cEs S es with
    | none => simp [he, hr] at h
    | some r =>
    simp only [he, hr] at h
    cases h
    exact ⟨sE e S X W x C he, sF es S X W r C hr⟩
termination_by es => (sizeOf es, 0)
theorem sO : ∀ (o : Option Expr) (S : Sc) (X : Cx) (W : WX) (io : IO), CkE S Φ ct k X W → cO S o = some io → SO X W ct o (evO Φ io)
  | none, S, X, W, io, C, h => by
    simp only [cO] at h
    cases h
    rw [evO]
    exact SO.no
  | some e, S, X, W, io, C, h => by
    simp only [cO] at h
    obtain ⟨x, hx, rfl⟩ := Option.map_eq_some_iff.mp h
    rw [evO]
    exact SO.yes (sE e S X W x C hx)
termination_by o => (sizeOf o, 0)
theorem sAnd : ∀ (es : List Expr) (S : Sc) (X : Cx) (W : WX) (ie : IE) (p : Pos), CkE S Φ ct k X W → cAnd S es = some ie → SE X W ct (.BoolOp .And es p) (ev Φ ie) ∧ SW X W ct (.BoolOp .And es p) (ev Φ ie).tst
  | [], S, X, W, ie, p, C, h => by simp [cAnd] at h
  | [e], S, X, W, ie, p, C, h => by
    simp only [cAnd] at h
    exact ⟨SE.one (sE e S X W ie C h), SW.and1 (sT e S X W ie C h)⟩
  | e :: d :: es, S, X, W, ie, p, C, h => by
    unfold cAnd at h
    simp only at h
    cases he : cE S e with
    | none => simp [he] at h
    | some x =>
    cases hr : cAnd S (d :: es) with
    | none => simp [he, hr] at h
    | some r =>
    simp only [he, hr] at h
    cases h
    obtain ⟨h1, h2⟩ := sAnd (d :: es) S X W r p C hr
    rw [ev]
    exact ⟨SE.and (sE e S X W x C he) h1, SW.and (sT e S X W x C he) h2⟩
termination_by es => (sizeOf es, 0)
theorem sOr : ∀ (es : List Expr) (S : Sc) (X : Cx) (W : WX) (ie : IE) (p : Pos), CkE S Φ ct k X W → cOr S es = some ie → SE X W ct (.BoolOp .Or es p) (ev Φ ie) ∧ SW X W ct (.BoolOp .Or es p) (ev Φ ie).tst
  | [], S, X, W, ie, p, C, h => by simp [cOr] at h
  | [e], S, X, W, ie, p, C, h => by
    simp only [cOr] at h
    exact ⟨SE.one (sE e S X W ie C h), SW.or1 (sT e S X W ie C h)⟩
  | e :: d :: es, S, X, W, ie, p, C, h => by
    unfold cOr at h
    simp only at h
    cases he : cE S e with
    | none => simp [he] at h
    | some x =>
    cases hr : cOr S (d :: es) with
    | none => simp [he, hr] at h
    | some r =>
    simp only [he, hr] at h
    cases h
    obtain ⟨h1, h2⟩ := sOr (d :: es) S X W r p C hr
    rw [ev]
    exact ⟨SE.or (sE e S X W x C he) h1, SW.or (sT e S X W x C he) h2⟩
termination_by es => (sizeOf es, 0)
end
end
end HB

set_option Elab.async false
set_option linter.all false
set_option maxRecDepth 100000
set_option maxHeartbeats 2000000
/-! HBSnd12: stores; statements, form by form. -/
namespace HB
open PySem PySem.Spec PyProof.Rows L2

def NoBo : RV → Prop
  | .bo _ => False
  | _ => True
def Apt (v : V) (r : RV) (u : V) (q : RV) : Prop := ∀ o o', r = .fr o → q = .fr o' → u ≠ v
def Io (B : Bs) (io0 : Bool) : Prop := ∀ i, B.ios i = (i == 0 && io0)
section
variable {K : Fg} {B : Bs} {env : Evn} {σ : L2.St} {Hb H : Hp}
theorem prep_one {own : Bool} {r : RV} {v : V} {P : RV → Evn → Prop} {R : Nat → Evn → Prop} (S : Stt K B env σ Hb H) (h : RVOk K B env σ Hb H v r) (g : GotE (prepR own r env) P R) :
    ∃ r' env' Hb', P r' env' ∧ Le Hb Hb' ∧ Shp env env' ∧ Stt K B env' σ Hb' H ∧ RVOk K B env' σ Hb' H v r' ∧ NoBo r' ∧ (∀ u q, RVOk K B env σ Hb H u q → Apt v r u q → RVOk K B env' σ Hb' H u q) ∧ ∀ o', r' = .fr o' → r = .fr o' := by
  cases own with
  | true =>
    unfold prepR at g
    rw [if_pos rfl] at g
    cases r with
    | fr o => exact ⟨.fr o, env, Hb, g, Le.refl _, Shp.refl _, S, h, trivial, fun u q k _ => k, fun o' e => e⟩
    | val d => exact False.elim g
    | bo i => exact False.elim g
  | false =>
    unfold prepR at g
    rw [if_neg Bool.false_ne_true] at g
    cases r with
    | val d => exact ⟨.val d, env, Hb, g, Le.refl _, Shp.refl _, S, h, trivial, fun u q k _ => k, fun o' e => e⟩
    | fr o =>
      obtain ⟨p, rfl, h1, h2, h3, h4, h5⟩ := h
      obtain ⟨w, hw⟩ := h2.there
      have S1 := S.frz hw h1 (.inl h3) h5
      refine ⟨.val o.toD, env, upd Hb p w, g, Le.new h1, Shp.refl _, S1, h2.froze (Le.new h1) (by rw [upd_same, hw]), trivial, fun u q k ap => ?_, fun o' e => nomatch e⟩
      cases q with
      | val d => exact Rp.mono (Le.new h1) _ _ k
      | bo i => exact k
      | fr o' =>
        obtain ⟨p', rfl, k1, k2, k3, k4, k5⟩ := k
        have ne : p' ≠ p := fun z => ap o o' rfl rfl (by rw [z])
        exact ⟨p', rfl, by rw [upd_ne ne]; exact k1, k2.mono (Le.new h1) rfl, k3, k4, k5⟩
    | bo i =>
      obtain ⟨d, env', Hb', g1, le, sh, T, rp⟩ := S.re.imm (RVOk.reB (r := .bo i) trivial h) (GotE.bnd g)
      exact ⟨.val d, env', Hb', g1, le, sh, S.un T sh, rp, trivial, fun u q k _ => k.stands S T sh, fun o' e => nomatch e⟩
theorem store_one {io0 : Bool} {i : Nat} {r : RV} {v : V} {env' : Evn} (hB : Io B io0) (S : Stt K B env σ Hb H) (h : RVOk K B env σ Hb H v r) (e : storeR io0 i r env = some env') :
    Stt K B env' (σ.set i (some v)) Hb H ∧ ∀ u q, RVOk K B env σ Hb H u q → NoBo q → Apt v r u q → RVOk K B env' (σ.set i (some v)) Hb H u q := by
  unfold storeR at e
  rcases ite_or e with ⟨_, e⟩ | ⟨hc, e⟩
  · cases e
  · have hl : i < env.length := Classical.byContradiction fun z => hc (.inr z)
    have hi : B.ios i = false := by
      rw [hB i]
      cases hb : (i == 0 && io0) with
      | false => rfl
      | true => exact (hc (.inl hb)).elim
    cases r with
    | bo j => cases e
    | val d =>
      cases e
      refine ⟨S.store hl h, fun u q k nb _ => ?_⟩
      cases q with
      | val d' => exact k
      | bo i => exact nb.elim
      | fr o' =>
        obtain ⟨p', rfl, k1, k2, k3, k4, k5⟩ := k
        refine ⟨p', rfl, k1, k2, k3, k4, fun j o'' e => ?_⟩
        by_cases hij : i = j
        · subst hij; rw [get_set_eq hl] at e; cases e
        · rw [get_set_ne hij] at e
          rw [List.getElem?_set_ne hij]
          exact k5 j o'' e
    | fr o =>
      cases e
      obtain ⟨p, rfl, h1, h2, h3, h4, h5⟩ := h
      have hs : i < σ.length := by rw [S.len]; exact hl
      refine ⟨⟨by rw [List.length_set, List.length_set]; exact S.len, S.sub, fun j d e => ?_, fun j o1 e => ?_, fun j k o1 o2 b e1 e2 z1 z2 => ?_, S.exb, S.keep, S.frs, S.iot⟩, fun u q k nb ap => ?_⟩
      · by_cases hij : i = j
        · subst hij; rw [get_set_eq hl] at e; cases e
        · rw [get_set_ne hij] at e; rw [List.getElem?_set_ne hij]; exact S.im j d e
      · by_cases hij : i = j
        · subst hij
          rw [get_set_eq hl] at e; cases e
          exact ⟨p, List.getElem?_set_self hs, h1, h2, by rw [hi]; exact ⟨h3, h4⟩⟩
        · rw [get_set_ne hij] at e; rw [List.getElem?_set_ne hij]; exact S.ow j o1 e
      · by_cases hij : i = j
        · subst hij
          rw [List.getElem?_set_self hs] at z1
          cases z1
          by_cases hik : i = k
          · exact hik
          · rw [get_set_ne hik] at e2
            rw [List.getElem?_set_ne hik] at z2
            exact (h5 k o2 e2 z2).elim
        · rw [get_set_ne hij] at e1
          rw [List.getElem?_set_ne hij] at z1
          by_cases hik : i = k
          · subst hik
            rw [List.getElem?_set_self hs] at z2
            cases z2
            exact (h5 j o1 e1 z1).elim
          · rw [get_set_ne hik] at e2
            rw [List.getElem?_set_ne hik] at z2
            exact S.inj j k o1 o2 b e1 e2 z1 z2
      · cases q with
        | val d' => exact k
        | bo i => exact nb.elim
        | fr o' =>
          obtain ⟨p', rfl, k1, k2, k3, k4, k5⟩ := k
          refine ⟨p', rfl, k1, k2, k3, k4, fun j o'' e z => ?_⟩
          by_cases hij : i = j
          · subst hij
            rw [List.getElem?_set_self hs] at z
            cases z
            exact ap o o' rfl rfl rfl
          · rw [get_set_ne hij] at e
            rw [List.getElem?_set_ne hij] at z
            exact k5 j o'' e z
/-- a row of values, things just made among them -/
def RFs (K : Fg) (B : Bs) (env : Evn) (σ : L2.St) (Hb H : Hp) : List RV → List V → Prop
  | [], vs => vs = []
  | r :: rs, vs => ∃ v vs', vs = v :: vs' ∧ RVOk K B env σ Hb H v r ∧ RFs K B env σ Hb H rs vs' ∧ ∀ (j : Nat) u q, rs[j]? = some q → vs'[j]? = some u → Apt v r u q
theorem RFs.imp {B' : Bs} {env' : Evn} {σ' : L2.St} {Hb' H' : Hp} : ∀ {rs : List RV} {vs : List V}, RFs K B env σ Hb H rs vs → (∀ (j : Nat) u q, rs[j]? = some q → vs[j]? = some u → RVOk K B env σ Hb H u q → RVOk K B' env' σ' Hb' H' u q) → RFs K B' env' σ' Hb' H' rs vs
  | [], _, h, _ => h
  | r :: rs, _, ⟨v, vs', e, h1, h2, h3⟩, k => by
    subst e
    exact ⟨v, vs', rfl, k 0 v r rfl rfl h1, RFs.imp h2 fun j u q a b c => k (j + 1) u q a b c, h3⟩
theorem RFs.len : ∀ {rs : List RV} {vs : List V}, RFs K B env σ Hb H rs vs → rs.length = vs.length
  | [], _, h => by cases h; rfl
  | r :: rs, _, ⟨v, vs', e, h1, h2, h3⟩ => by subst e; simp [RFs.len h2]
theorem preps_all {B : Bs} {σ : L2.St} {H : Hp} : ∀ {os : List Bool} {rs : List RV} {vs : List V} {env : Evn} {Hb : Hp} {P : List RV → Evn → Prop} {R : Nat → Evn → Prop}, Stt K B env σ Hb H → RFs K B env σ Hb H rs vs → GotE (preps os rs env) P R →
    ∃ rs' env' Hb', P rs' env' ∧ Le Hb Hb' ∧ Shp env env' ∧ Stt K B env' σ Hb' H ∧ RFs K B env' σ Hb' H rs' vs ∧ (∀ (j : Nat) q, rs'[j]? = some q → NoBo q ∧ ∀ o', q = .fr o' → rs[j]? = some (.fr o')) ∧ rs'.length = rs.length ∧
      ∀ u q, RVOk K B env σ Hb H u q → (∀ (j : Nat) v r, rs[j]? = some r → vs[j]? = some v → Apt v r u q) → RVOk K B env' σ Hb' H u q
  | [], [], vs, env, Hb, P, R, S, h, g => ⟨[], env, Hb, g, Le.refl _, Shp.refl _, S, h, fun j q e => by simp at e, rfl, fun u q k _ => k⟩
  | [], _ :: _, vs, env, Hb, P, R, S, h, g => False.elim g
  | _ :: _, [], vs, env, Hb, P, R, S, h, g => False.elim g
  | o :: os, r :: rs, vs, env, Hb, P, R, S, ⟨v, vs', e, h1, h2, h3⟩, g => by
    subst e
    unfold preps at g
    obtain ⟨r', env1, Hb1, g1, le1, sh1, S1, rv1, nb1, ot1, fr1⟩ := prep_one S h1 g.bnd
    have h2' := RFs.imp h2 fun j u q a b c => ot1 u q c (h3 j u q a b)
    obtain ⟨rs', env2, Hb2, g2, le2, sh2, S2, rv2, nb2, ln2, ot2⟩ := preps_all S1 h2' (GotE.bnd g1)
    refine ⟨r' :: rs', env2, Hb2, g2, le1.trans le2, sh1.trans sh2, S2, ⟨v, vs', rfl, ot2 v r' rv1 fun j u q a b o1 o2 e1 e2 => ?_, rv2, fun j u q a b o1 o2 e1 e2 => ?_⟩, fun j q e => ?_, by simp [ln2], fun u q k ap => ?_⟩
    · exact fun z => h3 j u q a b o2 o1 (fr1 o2 e2) e1 z.symm
    · obtain ⟨n1, n2⟩ := nb2 j q a
      exact h3 j u (.fr o2) (n2 o2 e2) b o1 o2 (fr1 o1 e1) rfl
    · cases j with
      | zero => cases e; exact ⟨nb1, fun o' e => by rw [fr1 o' e]; rfl⟩
      | succ j => exact nb2 j q e
    · exact ot2 u q (ot1 u q k (ap 0 v r rfl rfl)) fun j w p a b => ap (j + 1) w p a b
def setAll : List Nat → List V → L2.St → L2.St
  | i :: is, v :: vs, σ => setAll is vs (σ.set i (some v))
  | _, _, σ => σ
theorem stores_all {io0 : Bool} (hB : Io B io0) : ∀ {is : List Nat} {rs : List RV} {vs : List V} {env env' : Evn} {σ : L2.St}, Stt K B env σ Hb H → RFs K B env σ Hb H rs vs → (∀ (j : Nat) q, rs[j]? = some q → NoBo q) → storesR io0 is rs env = some env' → Stt K B env' (setAll is vs σ) Hb H
  | [], [], vs, env, env', σ, S, h, _, e => by cases e; exact S
  | [], _ :: _, vs, env, env', σ, S, h, _, e => by cases e
  | _ :: _, [], vs, env, env', σ, S, h, _, e => by cases e
  | i :: is, r :: rs, vs, env, env', σ, S, ⟨v, vs', ev, h1, h2, h3⟩, nb, e => by
    subst ev
    unfold storesR at e
    cases e1 : storeR io0 i r env with
    | none => simp [e1] at e
    | some env1 =>
      simp only [e1] at e
      obtain ⟨S1, ot⟩ := store_one hB S h1 e1
      show Stt K B env' (setAll is vs' (σ.set i (some v))) Hb H
      exact stores_all (is := is) (vs := vs') hB S1 (RFs.imp h2 fun j u q a b c => ot u q c (nb (j + 1) q a) (h3 j u q a b)) (fun j q a => nb (j + 1) q a) e
theorem RVOk.newH (S : Stt K B env σ Hb H) {p : Addr} {w : HO} (hp : H p = none) {u : V} {q : RV} (h : RVOk K B env σ Hb H u q) : RVOk K B env σ Hb (upd H p w) u q := by
  cases q with
  | val d => exact h
  | bo i => exact h
  | fr o =>
    obtain ⟨p', e, k1, k2, k3⟩ := h
    obtain ⟨x, hx⟩ := k2.there
    exact ⟨p', e, k1, k2.mono (Le.refl _) (upd_ne (ne_of_none hx hp)), k3⟩
end

/-! ### what a statement leaves -/
def GoS (X : Cx) (W : WX) (ct : Nat → Addr) (B : Bs) (Hb : Hp) (D : Ends) : Option Fl → Prop
  | none => False
  | some (.nx e) => ∀ σ' Hb' H', Stt X.K B e σ' Hb' H' → Le Hb Hb' → D.nx σ' H'
  | some (.bk e) => ∀ σ' Hb' H', Stt X.K B e σ' Hb' H' → Le Hb Hb' → D.bk σ' H'
  | some (.ct e) => ∀ σ' Hb' H', Stt X.K B e σ' Hb' H' → Le Hb Hb' → D.ct σ' H'
  | some (.rt r e) => ∀ v σ' Hb' H', Stt X.K B e σ' Hb' H' → Le Hb Hb' → NoBo r → RVOk X.K B e σ' Hb' H' v r → D.rt v H'
  | some (.ex c e) => ∀ σ' Hb' H', Stt X.K B e σ' Hb' H' → Le Hb Hb' → W (.ref (ct c)) none σ' H'
section
variable {X : Cx} {W : WX} {ct : Nat → Addr} {B : Bs} {Hb Hb1 : Hp} {D : Ends}
theorem GoS.mono {f : Option Fl} (h : GoS X W ct B Hb D f) (le : Le Hb Hb1) : GoS X W ct B Hb1 D f := by
  cases f with
  | none => exact h
  | some t => cases t with
    | nx e => exact fun σ Hb' H' S l => h σ Hb' H' S (le.trans l)
    | bk e => exact fun σ Hb' H' S l => h σ Hb' H' S (le.trans l)
    | ct e => exact fun σ Hb' H' S l => h σ Hb' H' S (le.trans l)
    | rt r e => exact fun v σ Hb' H' S l => h v σ Hb' H' S (le.trans l)
    | ex c e => exact fun σ Hb' H' S l => h σ Hb' H' S (le.trans l)
theorem GoS.fl {α : Type} {x : Mo α} {f : α → Ms} {env : Evn} {σ : L2.St} (h : GoS X W ct B Hb D (x.fl f env)) : GotE (x env) (fun a e => GoS X W ct B Hb D (f a e)) (Xw X W ct B σ Hb) := by
  unfold Mo.fl at h
  cases hx : x env with
  | none => rw [hx] at h; exact h
  | some t => cases t with
    | ok a e => rw [hx] at h; exact h
    | ex c e => rw [hx] at h; exact fun Hb' H' S l => h σ Hb' H' S l
end
def SS (X : Cx) (W : WX) (ct : Nat → Addr) (io0 : Bool) (st : Stmt) (f : Ms) : Prop := ∃ ts : TS, PS X st ts ∧ ∀ (B : Bs) (σ : L2.St) (Hb H : Hp) (env : Evn) (D : Ends), Io B io0 → Stt X.K B env σ Hb H → GoS X W ct B Hb D (f env) → ts D σ H
def SSs (X : Cx) (W : WX) (ct : Nat → Addr) (io0 : Bool) (st : List Stmt) (f : Ms) : Prop := ∃ ts : TS, PSs X st ts ∧ ∀ (B : Bs) (σ : L2.St) (Hb H : Hp) (env : Evn) (D : Ends), Io B io0 → Stt X.K B env σ Hb H → GoS X W ct B Hb D (f env) → ts D σ H
/-- arguments, things just made among them -/
def SF (X : Cx) (W : WX) (ct : Nat → Addr) (es : List Expr) (f : Mo (List RV)) : Prop := ∃ ta : TA, PA X es ta ∧ ∀ (B : Bs) (σ : L2.St) (Hb H : Hp) (env : Evn) (Q : List V → Hp → Prop), Stt X.K B env σ Hb H →
  GotE (f env) (fun rs env' => ∀ vs Hb' H', Stt X.K B env' σ Hb' H' → Le Hb Hb' → Shp env env' → RFs X.K B env' σ Hb' H' rs vs → Q vs H') (Xw X W ct B σ Hb) → ta σ H Q
section
variable {X : Cx} {W : WX} {ct : Nat → Addr} {io0 : Bool} {e a b c : Expr} {es : List Expr} {fe fa fb fc : Mo RV} {fs : Mo (List RV)} {pos : Pos}
theorem SF.nil : SF X W ct [] (Mo.ret []) := ⟨_, pa_nil, fun B σ Hb H env Q S q => q [] Hb H S (Le.refl _) (Shp.refl _) rfl⟩
theorem SF.cons (h : SE X W ct e fe) (k : SF X W ct es fs) (hn : notStar e = true) : SF X W ct (e :: es) (fe.bnd fun x => fs.nox.bnd fun xs => Mo.ret (x :: xs)) := by
  obtain ⟨te, pe, ke⟩ := h
  obtain ⟨ts, ps, ks⟩ := k
  refine ⟨_, pa_cons pe ps (starEach_plain hn), fun B σ Hb H env Q S q => ke B σ Hb H env _ S (q.bnd.same fun x e1 g1 v Hb1 H1 S1 le1 sh1 rx => ks _ σ Hb1 H1 e1 _ S1.re ?_)⟩
  have g2 := g1.bnd
  unfold Mo.nox at g2
  cases hf : fs e1 with
  | none => simp only [hf] at g2; exact False.elim g2
  | some t => cases t with
    | ex c e => simp only [hf] at g2; exact False.elim g2
    | ok xs e2 =>
      simp only [hf] at g2
      intro vs Hb2 H2 T le2 sh2 rs
      have S2 := S1.un T sh2
      refine g2 _ Hb2 H2 S2 (le1.trans le2) (sh1.trans sh2) ⟨v, vs, rfl, rx.stands S1 T sh2, RFs.imp rs fun j u q a b k => ?_, fun j u q a b o o' e1' e2' => ?_⟩
      · cases q with
        | val d => exact k
        | bo i => exact k
        | fr o =>
          obtain ⟨p, e, k1, k2, k3, k4, k5⟩ := k
          have k3' : H1 p = none := k3
          exact ⟨p, e, k1, k2, (S1.fresh k3').1, (S1.fresh k3').2, k5⟩
      · subst e1' e2'
        obtain ⟨p, ep, m1, m2, m3, m4⟩ := rx
        obtain ⟨w, hw⟩ := m2.there
        have : ∀ {rs : List RV} {vs : List V} {j : Nat}, RFs X.K (reb e1 σ Hb1 H1) e2 σ Hb2 H2 rs vs → rs[j]? = some (.fr o') → vs[j]? = some u → RVOk X.K (reb e1 σ Hb1 H1) e2 σ Hb2 H2 u (.fr o') := by
          intro rs
          induction rs with
          | nil => intro vs j _ h; simp at h
          | cons r rs ih =>
            intro vs j ⟨v, vs', e, h1, h2, _⟩ a b
            subst e
            cases j with
            | zero => cases a; cases b; exact h1
            | succ j => exact ih h2 a b
        obtain ⟨p', ep', n1, n2, n3, n4⟩ := this rs a b
        have n3' : H1 p' = none := n3
        rw [ep, ep']
        intro z
        cases z
        rw [hw] at n3'; cases n3'
theorem SS.expr (h : SE X W ct e fe) (hs : swapsWith e none pos.line X.env = pure false) : SS X W ct io0 (.Expr e pos) (fe.fl fun _ env => some (.nx env)) := by
  obtain ⟨te, pe, ke⟩ := h
  exact ⟨_, ps_expr pe hs, fun B σ Hb H env D hB S q => ke B σ Hb H env _ S ((GoS.fl q).same fun r e1 g v Hb1 H1 S1 le1 sh1 rv => g σ Hb1 H1 S1 le1)⟩
/-- the reading of a store -/
theorem asg_rd {i : Nat} {own : Bool} {te : TE} (ke : Rd X W ct te fe) {B : Bs} {σ : L2.St} {Hb H : Hp} {env : Evn} {D : Ends} (hB : Io B io0) (S : Stt X.K B env σ Hb H) (q : GoS X W ct B Hb D (((fe.bnd fun r => prepR own r).fl fun r env => nxOf (storeR io0 i r env)) env)) :
    tAsg te (gName i) D σ H := by
  refine ke B σ Hb H env _ S (GotE.same (GotE.bnd (GoS.fl q)) fun r e1 g v Hb1 H1 S1 le1 sh1 rv => ?_)
  obtain ⟨r', e2, Hb2, g2, le2, sh2, S2, rv2, nb, _⟩ := prep_one S1 rv g
  cases hs : storeR io0 i r' e2 with
  | none => rw [hs] at g2; exact False.elim g2
  | some e3 =>
    rw [hs] at g2
    exact g2 _ Hb2 H1 (store_one hB S2 rv2 hs).1 (le1.trans le2)
theorem SS.asg {i : Nat} {x : Str} {px : Pos} {own : Bool} (hN : X.N.Nodup) (hi : X.N[i]? = some x) (hx : L2.Loc X.env.scope x) (h : SE X W ct e fe) (hs : swapsWith e (some (.Name x px)) pos.line X.env = pure false) (hf : X.fn x = true ∨ X.env.scope.names.lookup x = some .local) :
    SS X W ct io0 (.Assign [.Name x px] e pos) ((fe.bnd fun r => prepR own r).fl fun r env => nxOf (storeR io0 i r env)) := by
  obtain ⟨te, pe, ke⟩ := h
  exact ⟨_, ps_set hN hi hx pe hs hf, fun B σ Hb H env D hB S q => asg_rd ke hB S q⟩
theorem setAll_two {i j : Nat} {v w : V} {σ : L2.St} : setAll [i, j] [v, w] σ = (σ.set i (some v)).set j (some w) := rfl
/-- the reading of parallel stores -/
theorem par_rd {is : List Nat} {os : List Bool} {ta : TA} (ka : ∀ (B : Bs) (σ : L2.St) (Hb H : Hp) (env : Evn) (Q : List V → Hp → Prop), Stt X.K B env σ Hb H →
      GotE (fs env) (fun rs env' => ∀ vs Hb' H', Stt X.K B env' σ Hb' H' → Le Hb Hb' → Shp env env' → RFs X.K B env' σ Hb' H' rs vs → Q vs H') (Xw X W ct B σ Hb) → ta σ H Q)
    {B : Bs} {σ : L2.St} {Hb H : Hp} {env : Evn} {D : Ends} (hB : Io B io0) (S : Stt X.K B env σ Hb H) (q : GoS X W ct B Hb D (((fs.bnd fun rs => preps os rs).fl fun rs env => nxOf (storesR io0 is rs env)) env)) {Z : List V → Hp → Prop}
    (z : ∀ vs H1, (∀ p H2, (H2 = H1 ∨ ∃ w, H1 p = none ∧ H2 = upd H1 p w) → D.nx (setAll is vs σ) H2) → vs.length = is.length → Z vs H1) : ta σ H Z := by
  refine ka B σ Hb H env _ S (GotE.same (GotE.bnd (GoS.fl q)) fun rs e1 g vs Hb1 H1 S1 le1 sh1 rv => ?_)
  have fin : ∀ (H2 : Hp), Stt X.K B e1 σ Hb1 H2 → RFs X.K B e1 σ Hb1 H2 rs vs → D.nx (setAll is vs σ) H2 ∧ vs.length = is.length := fun H2 S2 rv2 => by
    obtain ⟨rs', e2, Hb2, g2, le2, sh2, S3, rv3, nb, ln, _⟩ := preps_all S2 rv2 g
    cases hs : storesR io0 is rs' e2 with
    | none => rw [hs] at g2; exact False.elim g2
    | some e3 =>
      rw [hs] at g2
      refine ⟨g2 _ Hb2 H2 (stores_all hB S3 rv3 (fun j q a => (nb j q a).1) hs) (le1.trans le2), ?_⟩
      have ll : ∀ {is : List Nat} {rs : List RV} {env env' : Evn}, storesR io0 is rs env = some env' → rs.length = is.length := by
        intro is
        induction is with
        | nil => intro rs env env' h; cases rs with
          | nil => rfl
          | cons r rs => cases h
        | cons i is ih => intro rs env env' h; cases rs with
          | nil => cases h
          | cons r rs =>
            unfold storesR at h
            cases e1 : storeR io0 i r env with
            | none => simp [e1] at h
            | some e => simp only [e1] at h; simp [ih h]
      rw [← rv3.len, ll hs]
  refine z vs H1 (fun p H2 h => ?_) (fin H1 S1 rv).2
  rcases h with h | ⟨w, hp, h⟩
  · subst h; exact (fin _ S1 rv).1
  · subst h
    exact (fin _ (S1.newH hp) (RFs.imp rv fun j u q a b k => k.newH S1 hp)).1
theorem gAll_set {K : Fg} {Q : L2.St → Hp → Prop} {H : Hp} : ∀ {is : List Nat} {vs : List V} {σ : L2.St}, vs.length = is.length → Q (setAll is vs σ) H → gAll is vs σ H Q
  | [], [], σ, _, q => ⟨rfl, q⟩
  | [], _ :: _, _, h, _ => by simp at h
  | _ :: _, [], _, h, _ => by simp at h
  | i :: is, v :: vs, σ, h, q => ⟨v, vs, rfl, gAll_set (K := K) (by simpa using h) q⟩
theorem SS.asgT {is : List Nat} {os : List Bool} {ts ws : List Expr} {k1 k2 : Nat} {p1 p2 : Pos} (hc : X.calm = true) (hg : PG X (.Tuple ts k1 p1) (gTup X.K is.length (gAll is))) (h : SF X W ct ws fs) (hlen : is.length ≤ 1000) (hw : swappedStores [.Tuple ts k1 p1] (.Tuple ws k2 p2) X.env = pure none) :
    SS X W ct io0 (.Assign [.Tuple ts k1 p1] (.Tuple ws k2 p2) pos) ((fs.bnd fun rs => preps os rs).fl fun rs env => nxOf (storesR io0 is rs env)) := by
  obtain ⟨ta, pa, ka⟩ := h
  refine ⟨_, ps_asg (pe_tup pa) hg rfl hw rfl, fun B σ Hb H env D hB S q => par_rd ka hB S q fun vs H1 z hl => ⟨by rw [hl]; exact Nat.le_trans hlen (by decide), fun p hp => ⟨p, vs, rfl, SqT.of upd_same, hl, ?_⟩⟩⟩
  exact gAll_set (K := X.K) hl (z p _ (.inr ⟨_, hp, rfl⟩))
theorem SS.par2 {i j : Nat} {os : List Bool} {x y : Str} {px py p1 p2 : Pos} {k1 k2 : Nat} (hc : X.calm = true) (hN : X.N.Nodup) (hi : X.N[i]? = some x) (hj : X.N[j]? = some y) (hij : i ≠ j)
    (hx : X.env.scope.names.lookup x = some .local) (hy : X.env.scope.names.lookup y = some .local) (h : SF X W ct [a, b] fs)
    (hw : swappedStores [.Tuple [.Name x px, .Name y py] k1 p1] (.Tuple [a, b] k2 p2) X.env = pure (some [x, y])) :
    SS X W ct io0 (.Assign [.Tuple [.Name x px, .Name y py] k1 p1] (.Tuple [a, b] k2 p2) pos) ((fs.bnd fun rs => preps os rs).fl fun rs env => nxOf (storesR io0 [i, j] rs env)) := by
  obtain ⟨ta, pa, ka⟩ := h
  refine ⟨_, ps_par hc hN hi hj hij hx hy pa hw rfl, fun B σ Hb H env D hB S q => par_rd ka hB S q fun vs H1 z hl => ?_⟩
  match vs, hl with
  | [v, w], _ => exact ⟨v, w, rfl, z 0 H1 (.inl rfl)⟩
theorem SS.par3 {i j l : Nat} {os : List Bool} {x y w : Str} {px py pw p1 p2 : Pos} {k1 k2 : Nat} (hc : X.calm = true) (hN : X.N.Nodup) (hi : X.N[i]? = some x) (hj : X.N[j]? = some y) (hl : X.N[l]? = some w) (hij : i ≠ j) (hil : i ≠ l) (hjl : j ≠ l)
    (hx : X.env.scope.names.lookup x = some .local) (hy : X.env.scope.names.lookup y = some .local) (hz : X.env.scope.names.lookup w = some .local) (h : SF X W ct [a, b, c] fs)
    (hw : swappedStores [.Tuple [.Name x px, .Name y py, .Name w pw] k1 p1] (.Tuple [a, b, c] k2 p2) X.env = pure (some [x, y, w])) :
    SS X W ct io0 (.Assign [.Tuple [.Name x px, .Name y py, .Name w pw] k1 p1] (.Tuple [a, b, c] k2 p2) pos) ((fs.bnd fun rs => preps os rs).fl fun rs env => nxOf (storesR io0 [i, j, l] rs env)) := by
  obtain ⟨ta, pa, ka⟩ := h
  refine ⟨_, ps_par3 hc hN hi hj hl hij hil hjl hx hy hz pa hw rfl, fun B σ Hb H env D hB S q => par_rd ka hB S q fun vs H1 z hl => ?_⟩
  match vs, hl with
  | [v, w, u], _ => exact ⟨v, w, u, rfl, z 0 H1 (.inl rfl)⟩
theorem SS.unp {is : List Nat} {ts : List Expr} {k1 : Nat} {p1 : Pos} (hg : PG X (.Tuple ts k1 p1) (tgG X.K is)) (h : SEs X W ct e fe) (hs : swapsWithSole [.Tuple ts k1 p1] e pos.line X.env = pure false) (hw : swappedStores [.Tuple ts k1 p1] e X.env = pure none) :
    SS X W ct io0 (.Assign [.Tuple ts k1 p1] e pos) ((fe.bnd fun r => Mo.imm r).fl fun d env => nxOf (bindT is d env)) := by
  obtain ⟨te, pe, ke⟩ := h
  refine ⟨_, ps_asg pe hg hs hw rfl, fun B σ Hb H env D hB S q => ke B σ Hb H env _ S (GotE.same (GotE.bnd (GoS.fl q)) fun r e1 g v Hb1 H1 S1 le1 sh1 nr rv => ?_)⟩
  obtain ⟨d, e2, Hb2, g2, le2, sh2, S2, rp⟩ := S1.imm rv g
  cases hb : bindT is d e2 with
  | none => rw [hb] at g2; exact False.elim g2
  | some e3 =>
    rw [hb] at g2
    exact tg_rd S2 rp hb fun σ' S3 _ _ => g2 σ' Hb2 H1 S3 (le1.trans le2)
theorem SS.setI {o i : Expr} {fo fi : Mo RV} {p1 : Pos} (ho : SEs X W ct o fo) (hi : SEs X W ct i fi) (h : SEs X W ct e fe) (hs : swapsWithSole [.Subscript o i p1] e pos.line X.env = pure false) (hw : swappedStores [.Subscript o i p1] e X.env = pure none)
    (ha : ∀ v, assign (.Subscript o i p1) X.env v = (do
      let ov ← holding [v] (eval o X.env)
      let iv ← holding [v, ov] (eval i X.env)
      standAt p1
      holding [v, ov, iv] (setItem ov iv v)
      release [v, ov, iv] [])) :
    SS X W ct io0 (.Assign [.Subscript o i p1] e pos) (fe.fl fun r => fo.fl fun x => fi.fl fun y => (Mo.imm r).fl fun d env => match x, y with
    | .bo j, .val (.int k) => match env[j]? with
      | some (.ow (.lst ds)) => match ixN ds.length k with
        | some n => some (.nx (env.set j (.ow (.lst (ds.set n d)))))
        | none => none
      | _ => none
    | _, _ => none) := by
  obtain ⟨te, pe, ke⟩ := h
  obtain ⟨to, po, ko⟩ := ho
  obtain ⟨ti, pi, ki⟩ := hi
  refine ⟨_, ps_asg pe (pg_sub po pi set_list ha) hs hw rfl, fun B σ Hb H env D hB S q => ke B σ Hb H env _ S (GotE.same (GoS.fl q) fun r e1 g v Hb1 H1 S1 le1 sh1 nr rv =>
    ko B σ Hb1 H1 e1 _ S1 (GotE.imp (GoS.fl (σ := σ) g) (fun x e2 g2 u Hb2 H2 S2 le2 sh2 nx rx => ki B σ Hb2 H2 e2 _ S2 (GotE.imp (GoS.fl (σ := σ) g2) (fun y e3 g3 w Hb3 H3 S3 le3 sh3 ny ry => ?_) fun c e h => Xw.mono (X := X) (le1.trans le2) h)) fun c e h => Xw.mono (X := X) le1 h))⟩
  obtain ⟨d, e4, Hb4, g4, le4, sh4, S4, rp⟩ := S3.imm (rv.keep nr (le2.trans le3)) (GoS.fl (σ := σ) g3)
  cases x with
  | val d => exact False.elim g4
  | fr o => exact False.elim g4
  | bo j =>
  cases y with
  | bo i => exact False.elim g4
  | fr o => exact False.elim g4
  | val dy =>
  cases dy with
  | int kk =>
    simp only at g4
    cases hj : e4[j]? with
    | none => rw [hj] at g4; exact False.elim g4
    | some s =>
    cases s with
    | un => rw [hj] at g4; exact False.elim g4
    | im d' => rw [hj] at g4; exact False.elim g4
    | ow ob =>
    cases ob with
    | dK ks ds => rw [hj] at g4; exact False.elim g4
    | dT ks ds => rw [hj] at g4; exact False.elim g4
    | lst ds =>
    rw [hj] at g4
    simp only at g4
    cases hn : ixN ds.length kk with
    | none => rw [hn] at g4; exact False.elim g4
    | some n =>
    rw [hn] at g4
    obtain ⟨a, h1, h2, ⟨xs, h3, h5⟩, h4⟩ := S4.ow j _ hj
    have hu : σ[j]? = some (some u) := rx
    rw [hu] at h1; cases h1
    cases ry
    refine ⟨a, xs, kk, n, rfl, rfl, h3, by rw [← h5.length]; exact hn, ?_⟩
    exact g4 σ Hb4 _ (S4.write hj hu ⟨_, upd_same, h5.set n rp⟩) ((le1.trans le2).trans (le3.trans le4))
  | _ => exact False.elim g4
end
end HB

set_option Elab.async false
set_option linter.all false
set_option maxRecDepth 100000
set_option maxHeartbeats 2000000
/-! HBSnd13: the induction over statements. -/
namespace HB
open PySem PySem.Spec PyProof.Rows L2

section
variable {X : Cx} {W : WX} {ct : Nat → Addr} {io0 : Bool} {e a b c : Expr} {es : List Expr} {fe fa fb fc : Mo RV} {fs : Mo (List RV)} {pos : Pos}
theorem SS.pass : SS X W ct io0 (.Pass pos) (fun env => some (.nx env)) := ⟨_, ps_pass, fun B σ Hb H env D hB S q => q σ Hb H S (Le.refl _)⟩
theorem SS.brk : SS X W ct io0 (.Break pos) (fun env => some (.bk env)) := ⟨_, ps_break, fun B σ Hb H env D hB S q => q σ Hb H S (Le.refl _)⟩
theorem SS.cont : SS X W ct io0 (.Continue pos) (fun env => some (.ct env)) := ⟨_, ps_continue, fun B σ Hb H env D hB S q => q σ Hb H S (Le.refl _)⟩
theorem SS.retN : SS X W ct io0 (.Return none pos) (fun env => some (.rt (.val .non) env)) := ⟨_, ps_retN, fun B σ Hb H env D hB S q => q .non σ Hb H S (Le.refl _) trivial rfl⟩
theorem SS.ret (h : SE X W ct e fe) : SS X W ct io0 (.Return (some e) pos) (fe.fl fun r env => match r with
    | .bo i => match env[i]? with
      | some (.ow o) => if (i == 0 && io0) = true then none else some (.rt (.fr o) (env.set i .un))
      | some (.im d) => some (.rt (.val d) env)
      | _ => none
    | r => some (.rt r env)) := by
  obtain ⟨te, pe, ke⟩ := h
  refine ⟨_, ps_ret pe, fun B σ Hb H env D hB S q => ke B σ Hb H env _ S ((GoS.fl q).same fun r e1 g v Hb1 H1 S1 le1 sh1 rv => ?_)⟩
  cases r with
  | val d => exact g v σ Hb1 H1 S1 le1 trivial rv
  | fr o => exact g v σ Hb1 H1 S1 le1 trivial rv
  | bo i =>
    have h' : σ[i]? = some (some v) := rv
    cases ho : e1[i]? with
    | none => simp only [ho] at g; exact False.elim g
    | some t =>
    cases t with
    | un => simp only [ho] at g; exact False.elim g
    | im d =>
      simp only [ho] at g
      obtain ⟨v', h1, h2⟩ := S1.im i d ho
      rw [h'] at h1; cases h1
      exact g v σ Hb1 H1 S1 le1 trivial h2
    | ow o =>
      simp only [ho] at g
      cases hb : (i == 0 && io0) with
      | true => rw [if_pos hb] at g; exact False.elim g
      | false =>
        rw [if_neg (by rw [hb]; exact Bool.false_ne_true)] at g
        obtain ⟨a, h1, h2, h3, h4⟩ := S1.ow i o ho
        rw [h'] at h1; cases h1
        rw [hB i, hb] at h4
        refine g _ σ Hb1 H1 (S1.forget i) le1 trivial ⟨a, rfl, h2, h3, h4.1, h4.2, fun j o' e z => ?_⟩
        by_cases hij : i = j
        · subst hij
          rw [get_set_eq (lt_of_get ho)] at e; cases e
        · rw [get_set_ne hij] at e
          exact hij (S1.inj i j o o' a ho e h' z)
theorem SS.stuck {st : Stmt} : SS X W ct io0 st (fun _ => none) := ⟨_, ps_never, fun B σ Hb H env D hB S q => q.elim⟩
theorem SSs.nil : SSs X W ct io0 [] (fun env => some (.nx env)) := ⟨_, pss_nil, fun B σ Hb H env D hB S q => q σ Hb H S (Le.refl _)⟩
theorem SSs.cons {st : Stmt} {r : List Stmt} {f g : Ms} (h : SS X W ct io0 st f) (k : SSs X W ct io0 r g) : SSs X W ct io0 (st :: r) (f.seq g) := by
  obtain ⟨t, p, hk⟩ := h
  obtain ⟨u, pu, ku⟩ := k
  refine ⟨_, pss_cons p pu, fun B σ Hb H env D hB S q => hk B σ Hb H env _ hB S ?_⟩
  unfold Ms.seq at q
  cases hf : f env with
  | none => simp only [hf] at q; exact q
  | some t =>
    cases t with
    | nx e1 =>
      simp only [hf] at q
      exact fun σ' Hb' H' S' le => ku B σ' Hb' H' e1 D hB S' (GoS.mono q le)
    | bk e => simp only [hf] at q; exact q
    | ct e => simp only [hf] at q; exact q
    | rt r e => simp only [hf] at q; exact q
    | ex c e => simp only [hf] at q; exact q
theorem SS.iff {f : Mo Bool} {g : Bool → Ms} {x y : List Stmt} (hc : ST X W ct c f) (ha : SSs X W ct io0 x (g true)) (hb : SSs X W ct io0 y (g false)) : SS X W ct io0 (.If c x y pos) (f.fl g) := by
  obtain ⟨tc, pc, kc⟩ := hc
  obtain ⟨ta, pa, ka⟩ := ha
  obtain ⟨tb, pb, kb⟩ := hb
  refine ⟨_, ps_if pc pa pb, fun B σ Hb H env D hB S q => kc B σ Hb H env _ S ((GoS.fl q).same fun t e1 g1 Hb1 H1 S1 le1 sh1 => ?_)⟩
  have g2 := GoS.mono g1 le1
  cases t with
  | true => exact ka B σ Hb1 H1 e1 D hB S1 g2
  | false => exact kb B σ Hb1 H1 e1 D hB S1 g2
theorem SS.whl {f : Mo Bool} {g : Ms} {body : List Stmt} (hp : PassesOwn (model X.prog X.w) X.A X.env X.xe) (hc : ST X W ct c f) (hb : SSs X W ct io0 body g) (n : Nat) : SS X W ct io0 (.While c body [] pos) (whileGo f g n) := by
  obtain ⟨tc, pc, kc⟩ := hc
  obtain ⟨tb, pb, kb⟩ := hb
  refine ⟨_, ps_while hp pc pb, fun B σ Hb H env D hB S q => ?_⟩
  refine ⟨fun m σ' H' => ∃ env_i Hbi, Stt X.K B env_i σ' Hbi H' ∧ Le Hb Hbi ∧ GoS X W ct B Hbi D (whileGo f g m env_i), ⟨n, env, Hb, S, Le.refl _, q⟩, ?_⟩
  rintro m σ1 H1 ⟨env1, Hb1, S1, le1, q1⟩
  cases m with
  | zero => exact False.elim q1
  | succ m =>
    refine kc B σ1 Hb1 H1 env1 _ S1 ?_
    unfold whileGo at q1
    cases hf : f env1 with
    | none => simp only [hf] at q1; exact q1
    | some t =>
    cases t with
    | ex c e => simp only [hf] at q1; exact fun Hb' H' S' l => q1 σ1 Hb' H' S' l
    | ok t e2 =>
    cases t with
    | false => simp only [hf] at q1; exact fun Hb' H' S' l _ => q1 σ1 Hb' H' S' l
    | true =>
      simp only [hf] at q1
      intro Hb2 H2 S2 le2 sh2
      rw [if_pos rfl]
      refine ⟨fun σ' H' => ∃ env_i Hbi, Stt X.K B env_i σ' Hbi H' ∧ Le Hb Hbi ∧ GoS X W ct B Hbi D (whileGo f g m env_i), fun σ' H' h => ⟨m, Nat.lt_succ_self m, h⟩, ?_⟩
      refine kb B σ1 Hb2 H2 e2 _ hB S2 ?_
      have le12 := le1.trans le2
      cases hg : g e2 with
      | none => simp only [hg] at q1; exact q1
      | some t =>
      cases t with
      | nx e => simp only [hg] at q1; exact fun σ' Hb' H' S' l => ⟨e, Hb', S', le12.trans l, GoS.mono q1 (le2.trans l)⟩
      | ct e => simp only [hg] at q1; exact fun σ' Hb' H' S' l => ⟨e, Hb', S', le12.trans l, GoS.mono q1 (le2.trans l)⟩
      | bk e => simp only [hg] at q1; exact fun σ' Hb' H' S' l => q1 σ' Hb' H' S' (le2.trans l)
      | rt r e => simp only [hg] at q1; exact fun v σ' Hb' H' S' l => q1 v σ' Hb' H' S' (le2.trans l)
      | ex c e => simp only [hg] at q1; exact fun σ' Hb' H' S' l => q1 σ' Hb' H' S' (le2.trans l)
theorem SS.forr {t : List Nat} {fi : Mo (List D)} {g : Ms} {tg iter : Expr} {body : List Stmt} (hp : PassesOwn (model X.prog X.w) X.A X.env X.xe) (hc : X.calm = true) (hi : SI X W ct tg iter fi) (hg : PG X tg (tgG X.K t)) (hb : SSs X W ct io0 body g) (hs : ∀ x, foldedSetIterable iter X.env x = pure x) :
    SS X W ct io0 (.For tg iter body [] pos) (fi.fl fun ds => forGo t g ds) := by
  obtain ⟨wi, pi, ki⟩ := hi
  obtain ⟨tb, pb, kb⟩ := hb
  refine ⟨_, ps_for hp hc pi hg pb hs, fun B σ Hb H env D hB S q => ki B σ Hb H env _ S ((GoS.fl q).same fun ds e1 q0 J Hb1 H1 S1 le1 sh1 wk => ?_)⟩
  have q1 := GoS.mono q0 le1
  refine ⟨fun i m σ' H' => m = ds.length - i ∧ i ≤ ds.length ∧ ∃ env_i Hbi, Stt X.K B env_i σ' Hbi H' ∧ Le Hb1 Hbi ∧ GoS X W ct B Hbi D (forGo t g (ds.drop i) env_i), ⟨ds.length, rfl, Nat.zero_le _, e1, Hb1, S1, Le.refl _, q1⟩, ?_⟩
  rintro i m σ2 H2 ⟨rfl, hi, env2, Hb2, S2, le2, q2⟩
  by_cases hlt : i < ds.length
  · refine .inr ⟨wk.1 i Hb2 H2 le2 S2.sub hlt, fun σ' H' => (i + 1 ≤ ds.length ∧ ∃ env_i Hbi, Stt X.K B env_i σ' Hbi H' ∧ Le Hb1 Hbi ∧ GoS X W ct B Hbi D (forGo t g (ds.drop (i + 1)) env_i)), fun σ' H' ⟨h1, h2⟩ => ⟨ds.length - (i + 1), by omega, rfl, h1, h2⟩, fun x H' y => ?_⟩
    have hd : ds[i]? = some ds[i] := List.getElem?_eq_getElem hlt
    generalize ds[i] = d at hd
    have dr : ds.drop i = d :: ds.drop (i + 1) := by
      rw [List.drop_eq_getElem_cons hlt]
      congr 1
      rw [List.getElem?_eq_getElem hlt] at hd
      exact Option.some.inj hd
    rw [dr] at q2
    have yy : ∃ Hb', Stt X.K B env2 σ2 Hb' H' ∧ Le Hb2 Hb' ∧ Rp X.K Hb' d x := by
      rcases wk.2.2 i d Hb2 H2 x H' le2 S2.sub hd y with ⟨e, rp⟩ | ⟨T, u, hT, e, rp⟩
      · subst e; exact ⟨Hb2, S2, Le.refl _, rp⟩
      · subst e; exact ⟨upd Hb2 T u, S2.new hT, Le.new (S2.hbn hT), rp⟩
    obtain ⟨Hb', S', le', rp⟩ := yy
    unfold forGo at q2
    cases hbt : bindT t d env2 with
    | none => simp only [hbt] at q2; exact False.elim q2
    | some env3 =>
    simp only [hbt] at q2
    refine tg_rd S' rp hbt fun σ3 S3 sh3 _ => kb B σ3 Hb' H' env3 _ hB S3 ?_
    have q3 := GoS.mono q2 le'
    have leB := le2.trans le'
    cases hg2 : g env3 with
    | none => simp only [hg2] at q3; exact q3
    | some t3 =>
    cases t3 with
    | nx e => simp only [hg2] at q3; exact fun σ' Hb4 H4 S4 l => ⟨hlt, e, Hb4, S4, leB.trans l, GoS.mono q3 l⟩
    | ct e => simp only [hg2] at q3; exact fun σ' Hb4 H4 S4 l => ⟨hlt, e, Hb4, S4, leB.trans l, GoS.mono q3 l⟩
    | bk e => simp only [hg2] at q3; exact fun σ' Hb4 H4 S4 l => q3 σ' Hb4 H4 S4 l
    | rt r e => simp only [hg2] at q3; exact fun v σ' Hb4 H4 S4 l => q3 v σ' Hb4 H4 S4 l
    | ex c e => simp only [hg2] at q3; exact fun σ' Hb4 H4 S4 l => q3 σ' Hb4 H4 S4 l
  · have e : i = ds.length := by omega
    subst e
    refine .inl ⟨wk.2.1 _ Hb2 H2 le2 S2.sub (Nat.le_refl _), ?_⟩
    have dn : ds.drop ds.length = [] := List.drop_length
    rw [dn] at q2
    exact q2 σ2 Hb2 H2 S2 (Le.refl _)
theorem SS.asgLc {elt tg iter : Expr} {ifs : List Expr} {scope : Scope} {i : Nat} {own : Bool} {y : Str} {py p2 : Pos} (hc : X.calm = true) (hN : X.N.Nodup) (hy : X.N[i]? = some y) (hyl : X.env.scope.names.lookup y = some .local)
    (hsw : swapsWith (.ListComp elt [⟨tg, iter, ifs, 0⟩] scope p2) (some (.Name y py)) pos.line X.env = pure true) (h : LcOk X W ct elt tg iter ifs scope fe) :
    SS X W ct io0 (.Assign [.Name y py] (.ListComp elt [⟨tg, iter, ifs, 0⟩] scope p2) pos) ((fe.bnd fun r => prepR own r).fl fun r env => nxOf (storeR io0 i r env)) := by
  obtain ⟨own', t, fi, fc, fe', ⟨wi, pi, ki⟩, ok, ht, hg, hts, he, hs, rfl⟩ := h
  exact ⟨_, ps_setLc hc hN hy hyl hsw pi ok hg hts he hs, fun B σ Hb H env D hB S q => asg_rd (comp_rd ht ki) hB S q⟩
end
/-! ### stores from the right -/
theorem no_sw {e : Expr} {t : Option Expr} {l : Nat} {env : Env} (h : notComp e = true) : swapsWith e t l env = pure false := by
  cases e <;> first | rfl | cases h
theorem sw_lc {elt : Expr} {gs : List Comprehension} {scope : Scope} {p py : Pos} {y : Str} {l : Nat} {env : Env} : swapsWith (.ListComp elt gs scope p) (some (.Name y py)) l env = pure (env.blockKind == .function && env.kindOf y == some .local && py.line == p.line && !(scope.names.any fun (n, k) => n == y && (k == .local || k == .cell))) := rfl
def isStr : Expr → Bool
  | .Starred .. => true
  | _ => false
def nmF (env : Env) (line : Nat) : Expr → Option Str
  | .Name id pos => if (env.kindOf id == some .local && pos.line == line) = true then some id else none
  | _ => none
theorem any_star : ∀ {es : List Expr}, allPlain es = true → es.any isStr = false
  | [], _ => rfl
  | e :: es, h => by
    have h' : notStar e = true ∧ allPlain es = true := by simpa [allPlain] using h
    rw [List.any_cons, any_star h'.2, Bool.or_false]
    have h1 := h'.1
    clear h h'
    cases e <;> first | rfl | cases h1
theorem fm_loc {S : Sc} {env : Env} (hsc : env.scope = S.sc) {line : Nat} : ∀ {ts : List Expr}, allLoc S line ts = true → ts.filterMap (nmF env line) = ts.map strOf
  | [], _ => rfl
  | t :: ts, h => by
    cases t <;> simp only [allLoc] at h <;> try cases h
    rename_i x p
    simp only [Bool.and_eq_true] at h
    obtain ⟨⟨h1, h2⟩, h3⟩ := h
    have k : (env.kindOf x == some NameKind.local && p.line == line) = true := by
      unfold isLoc at h1
      unfold Env.kindOf
      rw [hsc, h2]
      split at h1
      · rename_i e; rw [e]; rfl
      · cases h1
    rw [List.filterMap_cons]
    simp only [nmF, k, if_true]
    rw [fm_loc hsc h3]
    rfl
theorem fm_cell {S : Sc} {env : Env} (hsc : env.scope = S.sc) {line : Nat} {ts : List Expr} : anyCell S ts = true → (ts.filterMap (nmF env line)).length < ts.length := by
  induction ts with
  | nil => intro h; cases h
  | cons t ts ih =>
    intro h
    have le := List.length_filterMap_le (nmF env line) ts
    cases t <;> simp only [anyCell] at h <;> try cases h
    rename_i x p
    rw [List.filterMap_cons]
    simp only [Bool.or_eq_true] at h
    rcases h with h | h
    · have k : (env.kindOf x == some NameKind.local && p.line == line) = false := by
        unfold isLoc at h
        unfold Env.kindOf
        rw [hsc]
        cases hl : S.sc.names.lookup x with
        | none => rfl
        | some kd => cases kd <;> first | rfl | (rw [hl] at h; cases h)
      simp only [nmF, k, Bool.false_eq_true, if_false]
      simp only [List.length_cons]
      exact Nat.lt_succ_of_le le
    · have := ih h
      split <;> simp only [List.length_cons] <;> omega
theorem nest_none {α : Type} {n r u : α} {c1 c2 c3 c4 c5 : Prop} [Decidable c1] [Decidable c2] [Decidable c3] [Decidable c4] [Decidable c5] (h : c1 ∨ c3 ∨ c4) : (if c1 then n else if c2 then n else if c3 then n else if c4 then n else if c5 then u else r) = n := by
  rcases h with h | h | h
  · rw [if_pos h]
  · rw [if_pos h]
    simp
  · rw [if_pos h]
    simp
theorem nest_some {α : Type} {n r u : α} {c1 c2 c3 c4 c5 : Prop} [Decidable c1] [Decidable c2] [Decidable c3] [Decidable c4] [Decidable c5] (h1 : ¬ c1) (h2 : ¬ c2) (h3 : ¬ c3) (h4 : ¬ c4) (h5 : ¬ c5) : (if c1 then n else if c2 then n else if c3 then n else if c4 then n else if c5 then u else r) = r := by
  rw [if_neg h1, if_neg h2, if_neg h3, if_neg h4, if_neg h5]
theorem sw_eq {env : Env} {ts ws : List Expr} {k1 k2 : Nat} {p1 p2 : Pos} : swappedStores [.Tuple ts k1 p1] (.Tuple ws k2 p2) env =
    (if (!(ts.length == 2 || ts.length == 3) || ws.length != ts.length || env.blockKind != .function) = true then pure none else if (ws.any isStr) = true then pure none
     else if ((ts.filterMap (nmF env ((ts.head?.map (·.pos.line)).getD 0))).length != ts.length || (ts.filterMap (nmF env ((ts.head?.map (·.pos.line)).getD 0))).eraseDups.length != (ts.filterMap (nmF env ((ts.head?.map (·.pos.line)).getD 0))).length) = true then pure none
     else if ws.all (foldedForSure 8) = true then pure none else if ws.all (constantsAlone 8) = true then (do
        unsupported "assign.tuple-of-constant-expressions:order-of-the-stores"
        pure (some (ts.filterMap (nmF env ((ts.head?.map (·.pos.line)).getD 0)))))
     else pure (some (ts.filterMap (nmF env ((ts.head?.map (·.pos.line)).getD 0))))) := by
  unfold swappedStores
  rfl
theorem sw_none {S : Sc} {env : Env} (hsc : env.scope = S.sc) {ts ws : List Expr} {k1 k2 : Nat} {p1 p2 : Pos} (h : parN S ts ws = true) : swappedStores [.Tuple ts k1 p1] (.Tuple ws k2 p2) env = pure none := by
  rw [sw_eq]
  refine nest_none ?_
  unfold parN at h
  simp only [Bool.or_eq_true, Bool.and_eq_true, Bool.not_eq_true'] at h
  rcases h with (h | h) | h
  · refine .inr (.inl ?_)
    have := fm_cell hsc (line := ((ts.head?.map (·.pos.line)).getD 0)) h
    simp only [Bool.or_eq_true, bne_iff_ne, ne_eq]
    exact .inl (Nat.ne_of_lt this)
  · left
    simp only [Bool.or_eq_true]
    left; left
    rw [h]; rfl
  · exact .inr (.inr h.2)
theorem dup2 {x y : Str} (h : x ≠ y) : [x, y].eraseDups.length = 2 := by
  have h' : (y == x) = false := beq_eq_false_iff_ne.mpr (Ne.symm h)
  simp [List.eraseDups, List.eraseDupsBy, List.eraseDupsBy.loop, h']
theorem dup3 {x y z : Str} (h : x ≠ y) (h2 : x ≠ z) (h3 : y ≠ z) : [x, y, z].eraseDups.length = 3 := by
  have k1 : (y == x) = false := beq_eq_false_iff_ne.mpr (Ne.symm h)
  have k2 : (z == x) = false := beq_eq_false_iff_ne.mpr (Ne.symm h2)
  have k3 : (z == y) = false := beq_eq_false_iff_ne.mpr (Ne.symm h3)
  simp [List.eraseDups, List.eraseDupsBy, List.eraseDupsBy.loop, k1, k2, k3]
theorem sw_some {S : Sc} {env : Env} (hsc : env.scope = S.sc) (hk : env.blockKind = .function) {ts ws : List Expr} {k1 k2 : Nat} {p1 p2 : Pos} (h : parC S ts ws = true) (hl : ts.length = ws.length) (hp : allPlain ws = true) (hd : (ts.map strOf).eraseDups.length = ts.length) :
    swappedStores [.Tuple ts k1 p1] (.Tuple ws k2 p2) env = pure (some (ts.map strOf)) := by
  unfold parC at h
  simp only [Bool.and_eq_true, Bool.not_eq_true'] at h
  obtain ⟨⟨⟨h1, h2⟩, h3⟩, h4⟩ := h
  rw [sw_eq, fm_loc hsc h2]
  rw [nest_some]
  · rw [h1, hk, ← hl]; simp
  · rw [any_star hp]; exact Bool.false_ne_true
  · rw [hd]; simp
  · rw [h3]; exact Bool.false_ne_true
  · rw [h4]; exact Bool.false_ne_true
end HB

set_option Elab.async false
set_option linter.all false
set_option maxRecDepth 100000
set_option maxHeartbeats 2000000
/-! HBSnd14: every statement that is compiled does what exS says. -/
namespace HB
open PySem PySem.Spec PyProof.Rows L2

/-- what a def's body stands on -/
structure CkS (S : Sc) (Φ : Fn) (ct : Nat → Addr) (k : Nat) (X : Cx) (W : WX) : Prop where
  e : CkE S Φ ct k X W
  kd : X.env.scope.kind = .function
  hp : PassesOwn (model X.prog X.w) X.A X.env X.xe
section
variable {S : Sc} {Φ : Fn} {ct : Nat → Addr} {k : Nat} {X : Cx} {W : WX} {io0 : Bool} {w : Nat}
theorem no_sws {t v : Expr} {l : Nat} {env : Env} (h : notComp v = true) : swapsWithSole [t] v l env = pure false := by
  cases v <;> first | rfl | cases h
theorem sub_asg {o i : Expr} {p1 : Pos} {env : Env} {v : Value} (h : notSlice i = true) : assign (.Subscript o i p1) env v = (do
      let ov ← holding [v] (eval o env)
      let iv ← holding [v, ov] (eval i env)
      standAt p1
      holding [v, ov, iv] (setItem ov iv v)
      release [v, ov, iv] []) := by
  cases i <;> first | rfl | cases h
theorem blk_kind {env : Env} (h : env.scope.kind = .function) : env.blockKind = .function := by
  unfold Env.blockKind
  rw [h]
  rfl
theorem evF_ok (C : CkE S Φ ct k X W) : ∀ {es : List Expr} {ia : IA}, allPlain es = true → cA S es = some ia → SF X W ct es (evF Φ ia)
  | [], ia, _, h => by
    simp only [cA] at h
    cases h
    rw [evF]
    exact SF.nil
  | e :: es, ia, hp, h => by
    have hp' : notStar e = true ∧ allPlain es = true := by simpa [allPlain] using hp
    simp only [cA, cSt_plain hp'.1] at h
    cases hx : cE S e with
    | none => simp [hx] at h
    | some x =>
      cases hr : cA S es with
      | none => simp [hx, hr] at h
      | some r =>
        simp only [hx, hr] at h
        cases h
        rw [evF]
        exact SF.cons (sE e S X W x C hx) (evF_ok C hp'.2 hr) hp'.1
theorem names_len : ∀ {ts : List Expr} {is : List Nat}, namesOf S ts = some is → ts.length = is.length
  | [], is, h => by cases h; rfl
  | t :: ts, is, h => by
    cases t <;> simp only [namesOf] at h <;> try cases h
    rename_i x p
    split at h
    · rename_i i is' h1 h2
      cases h
      simp [names_len h2]
    · cases h
theorem names_inv {t : Expr} {ts : List Expr} {is : List Nat} (h : namesOf S (t :: ts) = some is) : ∃ x p i is', t = .Name x p ∧ S.wr x = some i ∧ namesOf S ts = some is' ∧ is = i :: is' := by
  cases t <;> simp only [namesOf] at h <;> try cases h
  rename_i x p
  cases h1 : S.wr x with
  | none => simp [h1] at h
  | some i =>
    cases h2 : namesOf S ts with
    | none => simp [h1, h2] at h
    | some is' =>
      simp only [h1, h2] at h
      cases h
      exact ⟨x, p, i, is', rfl, h1, rfl, rfl⟩
theorem loc_of {line : Nat} {x : Str} {p : Pos} {ts : List Expr} (C : CkE S Φ ct k X W) (h : allLoc S line (.Name x p :: ts) = true) : X.env.scope.names.lookup x = some .local ∧ allLoc S line ts = true := by
  simp only [allLoc, Bool.and_eq_true] at h
  refine ⟨?_, h.2⟩
  have h1 := h.1.1
  unfold isLoc at h1
  rw [C.sc]
  split at h1
  · assumption
  · cases h1
theorem par_ok (C : CkS S Φ ct k X W) {ts ws : List Expr} {is : List Nat} {es : IA} {os : List Bool} {k1 k2 : Nat} {p1 p2 pos : Pos} (hn : namesOf S ts = some is) (he : cA S ws = some es) (hl : ts.length = ws.length) (hp : allPlain ws = true) (hc : parC S ts ws = true ∨ parN S ts ws = true) (hd : is.Nodup) (h2 : 2 ≤ is.length) (hlt : ws.length < 1000) :
    SS X W ct io0 (.Assign [.Tuple ts k1 p1] (.Tuple ws k2 p2) pos) (exS Φ w io0 (.asgN is os es)) := by
  rw [exS]
  have sf := evF_ok C.e hp he
  have ln := names_len hn
  by_cases hN : parN S ts ws = true
  · have z := tgt_ok C.e (e := .Tuple ts k1 p1) (t := is) (by simp only [tgtOf, hn, if_pos h2])
    have z' : PG X (.Tuple ts k1 p1) (gTup X.K is.length (gAll is)) := by
      match is, h2, z with
      | i :: j :: r, _, z => exact z
    exact SS.asgT C.e.calm z' sf (by omega) (sw_none C.e.sc hN)
  · have hC : parC S ts ws = true := hc.resolve_right hN
    have hC' := hC
    unfold parC at hC'
    simp only [Bool.and_eq_true, Bool.or_eq_true, beq_iff_eq] at hC'
    obtain ⟨⟨⟨h23, hal⟩, _⟩, _⟩ := hC'
    rcases h23 with h23 | h23
    · rcases ts with _ | ⟨t1, _ | ⟨t2, _ | ⟨t3, r⟩⟩⟩ <;> simp at h23
      rcases ws with _ | ⟨w1, _ | ⟨w2, _ | ⟨w3, r⟩⟩⟩ <;> simp at hl
      obtain ⟨x, px, i, is1, rfl, q1, n1, rfl⟩ := names_inv hn
      obtain ⟨y, py, j, is2, rfl, q2, n2, rfl⟩ := names_inv n1
      cases n2
      have hij : i ≠ j := by intro z; subst z; simp at hd
      have hxy : x ≠ y := by intro z; subst z; rw [q1] at q2; exact hij (Option.some.inj q2)
      obtain ⟨a1, a2, _⟩ := wr_ok C.e q1
      obtain ⟨b1, b2, _⟩ := wr_ok C.e q2
      obtain ⟨l1, hal⟩ := loc_of C.e hal
      obtain ⟨l2, hal⟩ := loc_of C.e hal
      exact SS.par2 C.e.calm C.e.nd a1 b1 hij l1 l2 sf (sw_some C.e.sc (blk_kind C.kd) hC rfl hp (dup2 hxy))
    · rcases ts with _ | ⟨t1, _ | ⟨t2, _ | ⟨t3, _ | ⟨t4, r⟩⟩⟩⟩ <;> simp at h23
      rcases ws with _ | ⟨w1, _ | ⟨w2, _ | ⟨w3, _ | ⟨w4, r⟩⟩⟩⟩ <;> simp at hl
      obtain ⟨x, px, i, is1, rfl, q1, n1, rfl⟩ := names_inv hn
      obtain ⟨y, py, j, is2, rfl, q2, n2, rfl⟩ := names_inv n1
      obtain ⟨u, pu, l, is3, rfl, q3, n3, rfl⟩ := names_inv n2
      cases n3
      have hij : i ≠ j := by intro z; subst z; simp at hd
      have hil : i ≠ l := by intro z; subst z; simp at hd
      have hjl : j ≠ l := by intro z; subst z; simp at hd
      have hxy : x ≠ y := by intro z; subst z; rw [q1] at q2; exact hij (Option.some.inj q2)
      have hxu : x ≠ u := by intro z; subst z; rw [q1] at q3; exact hil (Option.some.inj q3)
      have hyu : y ≠ u := by intro z; subst z; rw [q2] at q3; exact hjl (Option.some.inj q3)
      obtain ⟨a1, a2, _⟩ := wr_ok C.e q1
      obtain ⟨b1, b2, _⟩ := wr_ok C.e q2
      obtain ⟨c1, c2, _⟩ := wr_ok C.e q3
      obtain ⟨l1, hal⟩ := loc_of C.e hal
      obtain ⟨l2, hal⟩ := loc_of C.e hal
      obtain ⟨l3, hal⟩ := loc_of C.e hal
      exact SS.par3 C.e.calm C.e.nd a1 b1 c1 hij hil hjl l1 l2 l3 sf (sw_some C.e.sc (blk_kind C.kd) hC rfl hp (dup3 hxy hxu hyu))
/-! assignments -/
theorem asg_ok (C : CkS S Φ ct k X W) {ts : List Expr} {v : Expr} {is : IS} {pos : Pos} (h : cAsg S ts v (cE S v) (cA S (tupOf v)) (subA S ts) (subB S ts) = some is) : SS X W ct io0 (.Assign ts v pos) (exS Φ w io0 is) := by
  rcases ts with _ | ⟨t, _ | ⟨t2, r⟩⟩
  · simp [cAsg] at h
  · cases t with
    | Name x px =>
      simp only [cAsg] at h
      cases hw : S.wr x with
      | none => simp [hw] at h
      | some j =>
      cases hv : cE S v with
      | none => simp [hw, hv] at h
      | some e =>
      simp only [hw, hv] at h
      cases h
      obtain ⟨h1, h2, h3⟩ := wr_ok C.e hw
      rw [exS]
      by_cases hn : notComp v = true
      · exact SS.asg C.e.nd h1 h2 (sE v S X W e C.e hv) (no_sw hn) h3
      · cases v with
        | ListComp elt gs scope p2 =>
          have hs := @sw_lc elt gs scope p2 px x pos.line X.env
          cases hb : (X.env.blockKind == .function && X.env.kindOf x == some .local && px.line == p2.line && !(scope.names.any fun (n, k) => n == x && (k == .local || k == .cell))) with
          | false =>
            rw [hb] at hs
            exact SS.asg C.e.nd h1 h2 (sE _ S X W e C.e hv) hs h3
          | true =>
            rw [hb] at hs
            simp only [Bool.and_eq_true, beq_iff_eq] at hb
            have hv2 := hv
            unfold cE at hv2
            split at hv2
            · rename_i tg iter ifs
              have L := comp_ok C.e hv2 (fun y hy => sE iter S X W y C.e hy) (fun f args kw p as he has => sF args S X W as C.e has)
                (fun X' e y he C' hx => sT e (S.blk scope) X' _ y C' hx) (fun X' y C' hx => sE elt (S.blk scope) X' _ y C' hx)
              exact SS.asgLc C.e.calm C.e.nd h1 hb.1.1.2 hs L
            · cases hv2
        | SetComp => simp [cE] at hv
        | DictComp => simp [cE] at hv
        | _ => exact absurd rfl hn
    | Tuple ts k1 p1 =>
      simp only [cAsg] at h
      cases hn : namesOf S ts with
      | none => simp [hn] at h
      | some is' =>
      simp only [hn] at h
      rcases ite_or h with ⟨h2, h⟩ | ⟨_, h⟩
      · have unp : (if notComp v = true then (cE S v).map (IS.unp is') else none) = some is → (∀ ws k2 p2, v ≠ .Tuple ws k2 p2) → SS X W ct io0 (.Assign [.Tuple ts k1 p1] v pos) (exS Φ w io0 is) := fun h hne => by
          rcases ite_or h with ⟨hc, h⟩ | ⟨_, h⟩
          · obtain ⟨e, he, rfl⟩ := Option.map_eq_some_iff.mp h
            rw [exS]
            have z := tgt_ok C.e (e := .Tuple ts k1 p1) (t := is') (by simp only [tgtOf, hn, if_pos h2])
            refine SS.unp z (SE.set (sE v S X W e C.e he)) (no_sws hc) ?_
            cases v <;> first | rfl | exact absurd rfl (hne _ _ _)
          · cases h
        cases v with
        | Tuple ws k2 p2 =>
          simp only [tupOf] at h
          cases ha : cA S ws with
          | none => simp [ha] at h
          | some es =>
          simp only [ha] at h
          rcases ite_or h with ⟨hc, h⟩ | ⟨_, h⟩
          · cases h
            simp only [Bool.and_eq_true, Bool.or_eq_true, beq_iff_eq, decide_eq_true_eq] at hc
            obtain ⟨⟨⟨⟨c1, c2⟩, c3⟩, c4⟩, c5⟩ := hc
            exact par_ok C hn ha c1 c2 c3 c4 h2 c5
          · cases h
        | _ => exact unp h (fun _ _ _ z => by cases z)
      · cases h
    | Subscript o i p1 =>
      simp only [cAsg, subA, subB] at h
      rcases ite_or h with ⟨hc, h⟩ | ⟨_, h⟩
      · simp only [Bool.and_eq_true] at hc
        cases ho : cE S o with
        | none => simp [ho] at h
        | some xo =>
        cases hi : cE S i with
        | none => simp [ho, hi] at h
        | some xi =>
        cases hv : cE S v with
        | none => simp [ho, hi, hv] at h
        | some xv =>
        simp only [ho, hi, hv] at h
        cases h
        rw [exS]
        exact SS.setI (SE.set (sE o S X W xo C.e ho)) (SE.set (sE i S X W xi C.e hi)) (SE.set (sE v S X W xv C.e hv)) (no_sws hc.2) rfl (fun _ => sub_asg hc.1)
      · cases h
    | _ => simp [cAsg] at h
  · simp [cAsg] at h
mutual
theorem sS : ∀ (st : Stmt) (is : IS), CkS S Φ ct k X W → cS S st = some is → SS X W ct io0 st (exS Φ w io0 is)
  | .Expr e p, is, C, h => by
    simp only [cS] at h
    rcases ite_or h with ⟨hc, h⟩ | ⟨_, h⟩
    · obtain ⟨x, hx, rfl⟩ := Option.map_eq_some_iff.mp h
      rw [exS]
      exact SS.expr (sE e S X W x C.e hx) (no_sw hc)
    · cases h
  | .Assign ts v p, is, C, h => by
    simp only [cS] at h
    exact asg_ok C h
  | .For tg it body orelse p, is, C, h => by
    simp only [cS] at h
    cases orelse with
    | cons o os => simp at h
    | nil =>
    cases ht : tgtOf S tg with
    | none => simp [ht] at h
    | some t =>
    cases hi : cI S it (cE S it) (cArgs S it) with
    | none => simp [ht, hi] at h
    | some ii =>
    simp only [ht, hi] at h
    rcases ite_or h with ⟨hg, h⟩ | ⟨_, h⟩
    · cases h
      obtain ⟨si, ns⟩ := iter_ok C.e hi hg (fun x hx => sE it S X W x C.e hx) (fun f args kw p as he has => sF args S X W as C.e has)
      rw [exS]
      exact SS.forr C.hp C.e.calm si (tgt_ok C.e ht) (sB body C) (fun x => folded ns)
    · cases h
  | .While c body orelse p, is, C, h => by
    simp only [cS] at h
    cases orelse with
    | cons o os => simp at h
    | nil =>
    cases hc : cE S c with
    | none => simp [hc] at h
    | some x =>
    simp only [hc] at h
    cases h
    rw [exS]
    exact SS.whl C.hp (sT c S X W x C.e hc) (sB body C) w
  | .If c a b p, is, C, h => by
    simp only [cS] at h
    cases hc : cE S c with
    | none => simp [hc] at h
    | some x =>
    simp only [hc] at h
    cases h
    rw [exS]
    exact SS.iff (g := fun t => if t = true then exB Φ w io0 (cB S a) else exB Φ w io0 (cB S b)) (sT c S X W x C.e hc) (sB a C) (sB b C)
  | .Return e p, is, C, h => by
    cases e with
    | none => simp only [cS] at h; cases h; rw [exS]; exact SS.retN
    | some e =>
      simp only [cS] at h
      obtain ⟨x, hx, rfl⟩ := Option.map_eq_some_iff.mp h
      rw [exS]
      exact SS.ret (sE e S X W x C.e hx)
  | .Pass p, is, C, h => by simp only [cS] at h; cases h; rw [exS]; exact SS.pass
  | .Break p, is, C, h => by simp only [cS] at h; cases h; rw [exS]; exact SS.brk
  | .Continue p, is, C, h => by simp only [cS] at h; cases h; rw [exS]; exact SS.cont
  | .FunctionDef .., is, C, h => by simp [cS] at h
  | .AsyncFunctionDef .., is, C, h => by simp [cS] at h
  | .ClassDef .., is, C, h => by simp [cS] at h
  | .Delete .., is, C, h => by simp [cS] at h
  | .TypeAlias .., is, C, h => by simp [cS] at h
  | .AugAssign .., is, C, h => by simp [cS] at h
  | .AnnAssign .., is, C, h => by simp [cS] at h
  | .AsyncFor .., is, C, h => by simp [cS] at h
  | .With .., is, C, h => by simp [cS] at h
  | .AsyncWith .., is, C, h => by simp [cS] at h
  | .Match .., is, C, h => by simp [cS] at h
  | .Raise .., is, C, h => by simp [cS] at h
  | .Try .., is, C, h => by simp [cS] at h
  | .TryStar .., is, C, h => by simp [cS] at h
  | .Assert .., is, C, h => by simp [cS] at h
  | .Import .., is, C, h => by simp [cS] at h
  | .ImportFrom .., is, C, h => by simp [cS] at h
  | .Global .., is, C, h => by simp [cS] at h
  | .Nonlocal .., is, C, h => by simp [cS] at h
theorem sB : ∀ (sts : List Stmt), CkS S Φ ct k X W → SSs X W ct io0 sts (exB Φ w io0 (cB S sts))
  | [], C => by rw [cB, exB]; exact SSs.nil
  | st :: sts, C => by
    rw [cB, exB]
    cases hs : cS S st with
    | none =>
      simp only
      have z : exS Φ w io0 .stuck = fun _ => none := by rw [exS]
      rw [z]
      exact SSs.cons SS.stuck (sB sts C)
    | some x => exact SSs.cons (sS st x C hs) (sB sts C)
end
end
end HB

set_option Elab.async false
set_option linter.all false
set_option maxRecDepth 100000
set_option maxHeartbeats 2000000
/-! HBSnd15: defs; the program; the law's call. -/
namespace HB
open PySem PySem.Spec PyProof.Rows L2

/-- a def by its body, no thing being shown -/
theorem fok_of {P : Program} {w : World} {K : Fg} {mg : Str → Option Value} {base : Heap} {k : Nat} {x qual : Str} {pa : Arguments} {bd : List Stmt} {sc : Scope} {f : Addr} {fd : FuncData} {N ps : List Str} {sp : Sp} (F : FunD K x qual pa bd sc [] [] f fd) (S : FnScope N ps sc)
    (ln : ∀ vs H Q E, sp vs H Q E → vs.length = ps.length)
    (go : ∀ (cd : Value) (A : Around) (outer : List Env) (s : Shared) (H : Hp) (vs : List V) (Q : VK) (E : XK), Room k (A.deeper (envOfC qual sc s.heap.objs.size f cd)) → A.guards = some [] → sp vs H Q E →
      ∃ t, PSs (cxOf (L2.CX P w) P w K mg base N qual sc f cd A outer s H E) bd t ∧ t { nx := fun _ H' => Q .non H', rt := Q } (L2.start N vs) H) : Fok P w K mg base (k + 1) f fd ps sp := by
  obtain ⟨oc, od, dV, kV, doc, pm, an, cd, ctv, osl, hfd, lk, hcode, _, _⟩ := F.ex
  subst hfd
  constructor
  · exact ln
  · intro A out st H0 as us vs Q E room gds en bnd rel hsp
    have len := ln vs H0 Q E hsp
    have inK : K.In st.heap := en.mod.kin.keeps fun c ob q => (en.bs c ob q).1
    have noL : st.heap.NoLimit := en.mod.nolimit.keeps fun c ob q => (en.bs c ob q).1
    have kinds : ∀ y ∈ ps.zip us, sc.names.lookup y.1 = some .local ∨ (sc.names.lookup y.1 = some .cell ∧ ((cellsFrom (st.heap.objs.size + 1) sc.names []).lookup y.1).isSome = true) := by
      intro y hy
      have hm := (List.of_mem_zip (show (y.1, y.2) ∈ ps.zip us from hy)).1
      cases S.par y.1 hm with
      | inl q => exact Or.inl q
      | inr q => exact Or.inr ⟨q, PySem.W.cellsFrom_some _ _ _ (Or.inl q)⟩
    apply codeAny_call_function room.depth (inK _ _ lk) rfl S.co S.gen rfl (PySem.W.codeRec_of inK hcode)
    apply bnd
    apply wpAny_newFunctionEnv_cells S.kind kinds
    intro ev0 hev st1 got
    subst hev
    refine And.intro (noL.keeps got.toInCall.keep) (codeAny_func ?_)
    obtain ⟨t, hps, ht⟩ := go cd A out st H0 vs Q E (room.deeper _) gds hsp
    have In := inv_start (CX := L2.CX P w) (E := E) S room.hd en len rel got
    have run := hps.run [] st1 (L2.start N vs) H0 _ In ht
    refine wpAny_mono run (fun fl s2 h2 => ?_) (fun _ _ z => z)
    have last : ∀ {σ2 : L2.St} {H2 : Hp} {v2 : V} {u2 : Value}, Inv (cxOf (L2.CX P w) P w K mg base N qual sc f cd A out st H0 E) [] σ2 H2 s2 → RelV v2 u2 → Q v2 H2 → CE out P w H0 st Q u2 s2 := by
      intro σ2 H2 v2 u2 J a b
      exact ⟨v2, H2, J.os, J.bare, J.base, J.hok, a, b⟩
    match fl, h2 with
    | .ret u2, ⟨v2, σ2, H2, J, a, b⟩ => exact last J a b
    | .next, ⟨σ2, H2, J, b⟩ => exact last (v2 := V.non) (u2 := Value.none) J rfl b
    | .brk, ⟨_, _, _, b⟩ => exact b.elim
    | .cont, ⟨_, _, _, b⟩ => exact b.elim

/-! ### the entry -/
theorem im_get {ds : List D} {i : Nat} {s : Sl} (h : (ds.map Sl.im)[i]? = some s) : ∃ d, ds[i]? = some d ∧ s = .im d := by
  rw [List.getElem?_map] at h
  obtain ⟨d, h1, h2⟩ := Option.map_eq_some_iff.mp h
  exact ⟨d, h1, h2.symm⟩
theorem start_get {N : List Str} {vs : List V} {i : Nat} {v : V} (h : vs[i]? = some v) : (L2.start N vs)[i]? = some (some v) := by
  unfold L2.start
  have hl := lt_of_get h
  rw [List.getElem?_append_left (by simpa using hl), List.getElem?_map, h]
  rfl
theorem start_len {N : List Str} {vs : List V} (h : vs.length ≤ N.length) : (L2.start N vs).length = N.length := by
  unfold L2.start
  rw [List.length_append, List.length_map, List.length_replicate]
  omega
def bsOf (d : Df) (Hb Hc : Hp) (ioa : Option Addr) : Bs := ⟨Hb, Hc, fun b => ioa = some b, fun i => (i == 0 && d.io)⟩
theorem entry {K : Fg} {d : Df} {io : Option OB} {ds : List D} {env : Evn} {Hb Hc : Hp} {ioa : Option Addr} {vs : List V} {N : List Str} (le : Le Hb Hc) (h : startE d io ds = some env) (ha : ArgsOk K Hb Hc io ds ioa vs) (hN : N.length = d.ns) (hl : vs.length = d.ps) : Stt K (bsOf d Hb Hc ioa) env (L2.start N vs) Hb Hc := by
  unfold startE at h
  rcases ite_or h with ⟨⟨h1, h2, h3⟩, h⟩ | ⟨_, h⟩
  · cases h
    have un : ∀ {i : Nat} {s : Sl} {l : List Sl}, (l ++ List.replicate (d.ns - d.ps) Sl.un)[i]? = some s → s ≠ .un → l[i]? = some s := fun {i s l} e n => by
      by_cases hi : i < l.length
      · rwa [List.getElem?_append_left hi] at e
      · rw [List.getElem?_append_right (by omega), List.getElem?_replicate] at e
        split at e
        · cases e; exact (n rfl).elim
        · cases e
    match io, ioa, ha with
    | none, none, rp =>
      have lookup : ∀ {i : Nat} {s : Sl}, (([] ++ ds.map Sl.im) ++ List.replicate (d.ns - d.ps) Sl.un)[i]? = some s → s ≠ .un → ∃ e, ds[i]? = some e ∧ s = .im e := fun {i s} e n => im_get (by simpa using un e n)
      refine ⟨?_, le, fun i e q => ?_, fun i o q => ?_, fun i j o o' a q => ?_, Le.refl _, fun b o e _ => e, fun b o e n => ?_, fun b z => nomatch z⟩
      · rw [start_len (by rw [hN]; omega), hN, List.length_append, List.length_replicate]
        simp only [List.nil_append, List.length_map] at h2 ⊢
        omega
      · obtain ⟨e', q1, q2⟩ := lookup q (by simp)
        cases q2
        obtain ⟨v, hv, rv⟩ := rp.get q1
        exact ⟨v, start_get hv, rv⟩
      · obtain ⟨e', q1, q2⟩ := lookup q (by simp)
        cases q2
      · obtain ⟨e', q1, q2⟩ := lookup q (by simp)
        cases q2
      · have n' : Hb b = none := n
        rw [e] at n'; cases n'
    | some o, some a, ⟨vs', e0, k1, k2, rp⟩ =>
      subst e0
      have io1 : d.io = true := by rw [← h1]; rfl
      have lookup : ∀ {i : Nat} {s : Sl}, (([Sl.ow o] ++ ds.map Sl.im) ++ List.replicate (d.ns - d.ps) Sl.un)[i]? = some s → s ≠ .un → (i = 0 ∧ s = .ow o) ∨ ∃ j e, i = j + 1 ∧ ds[j]? = some e ∧ s = .im e := fun {i s} e n => by
        have z := un e n
        cases i with
        | zero => exact .inl ⟨rfl, by simpa using z.symm⟩
        | succ j =>
          obtain ⟨e, q1, q2⟩ := im_get (show (ds.map Sl.im)[j]? = some s by simpa using z)
          exact .inr ⟨j, e, rfl, q1, q2⟩
      refine ⟨?_, le, fun i e q => ?_, fun i o1 q => ?_, fun i j o1 o2 b q q' _ _ => ?_, Le.refl _, fun b o e _ => e, fun b o e n => ?_, fun b z => ?_⟩
      · rw [start_len (by rw [hN]; omega), hN, List.length_append, List.length_replicate]
        simp only [List.length_append, List.length_cons, List.length_nil, List.length_map] at h2 ⊢
        omega
      · rcases lookup q (by simp) with ⟨_, z⟩ | ⟨j, e', rfl, q1, q2⟩
        · cases z
        · cases q2
          obtain ⟨v, hv, rv⟩ := rp.get q1
          exact ⟨v, start_get (by simpa using hv), rv⟩
      · rcases lookup q (by simp) with ⟨rfl, z⟩ | ⟨j, e', rfl, q1, q2⟩
        · cases z
          refine ⟨a, start_get rfl, k1, k2, ?_⟩
          have : (bsOf d Hb Hc (some a)).ios 0 = true := by simp [bsOf, io1]
          rw [if_pos this]
          rfl
        · cases q2
      · rcases lookup q (by simp) with ⟨rfl, z⟩ | ⟨j', e', rfl, q1, q2⟩
        · rcases lookup q' (by simp) with ⟨rfl, z⟩ | ⟨j', e', rfl, q1, q2⟩
          · rfl
          · cases q2
        · cases q2
      · have n' : Hb b = none := n
        rw [e] at n'; cases n'
      · have z' : some a = some b := z
        cases z'
        exact k2.there
  · cases h
/-! ### the program -/
/-- a def as it is written, with what is to be checked of it -/
structure DefI where
  name : Str
  st : Stmt
  N : List Str
  ps : List Str
  own : List Str
  kl : List (List Str × List Nat)
  df : Df
def DefI.sc (T : Tab) (d : DefI) : Sc := { N := d.N, sc := defScope d.st, own := d.own, fnb := none, tb := T }
structure DefI.Ok (T : Tab) (d : DefI) : Prop where
  cb : cB (d.sc T) (defBody d.st) = d.df.body
  fs : FnScope d.N d.ps (defScope d.st)
  ns : d.N.length = d.df.ns
  np : d.ps.length = d.df.ps
  bd : ∀ (kV doc pm : Value) (an : Option Addr) (cdv ct : Value) (us : List Value), us.length = d.ps.length → bindArgs (PySem.W.fnOf d.name d.name (defArgs d.st) (defBody d.st) (defScope d.st) .none kV doc pm an cdv ct) ⟨us, []⟩ = pure (d.ps.zip us)
  kb : ∀ q ∈ d.kl, ∀ (kV doc pm : Value) (an : Option Addr) (cdv ct : Value) (us ws : List Value), us.length = d.ps.length → permL q.2 us = some ws → bindArgs (PySem.W.fnOf d.name d.name (defArgs d.st) (defBody d.st) (defScope d.st) .none kV doc pm an cdv ct) ⟨[], q.1.zip us⟩ = pure (d.ps.zip ws)
/-- the table speaks of the defs -/
def tabOf (defs : List DefI) : List (Str × Nat × Bool × List Str × List (List Str × List Nat)) := defs.zipIdx.map fun p => (p.1.name, p.2, p.1.df.io, p.1.ps, p.1.kl)
def prgOf (defs : List DefI) : Nat → Option Df := fun i => (defs[i]?).map (·.df)
/-- what stands of the program in the written part -/
structure PrgOk (K : Fg) (mg : Str → Option Value) (T : Tab) (defs : List DefI) : Prop where
  ok : ∀ d ∈ defs, d.Ok T
  fn : ∀ d ∈ defs, ∃ fa fd, mg d.name = some (.ref fa) ∧ FunD K d.name d.name (defArgs d.st) (defBody d.st) (defScope d.st) [] [] fa fd
  tab : ∀ x f io ps kl, T.fns.lookup x = some (f, io, ps, kl) → ∃ d, defs[f]? = some d ∧ d.name = x ∧ d.df.io = io ∧ d.ps = ps ∧ d.kl = kl
  bl : ∀ x, x ∈ T.bls → mg x = none
section
variable {P : Program} {w : World} {K : Fg} {mg : Str → Option Value} {base : Heap} {ct : Nat → Addr} {T : Tab} {defs : List DefI}
theorem SpOf.imp {n : Nat} {φ ψ : Option OB → List D → Option FOut} (h : ∀ o ds, φ o ds = none ∨ φ o ds = ψ o ds) {vs : List V} {Hc : Hp} {Q : VK} {E : XK} (s : SpOf K ct n φ vs Hc Q E) : SpOf K ct n ψ vs Hc Q E := by
  obtain ⟨hl, Hb, io, ds, ioa, le, ha, k⟩ := s
  refine ⟨hl, Hb, io, ds, ioa, le, ha, ?_⟩
  rcases h io ds with e | e
  · rw [e] at k; exact k.elim
  · rw [← e]; exact k
theorem FnAt.imp {k : Nat} {x : Str} {ps : List Str} {kl : List (List Str × List Nat)} {φ ψ : Option OB → List D → Option FOut} (h : ∀ o ds, φ o ds = none ∨ φ o ds = ψ o ds) (F : FnAt P w K mg base ct k x ps kl ψ) : FnAt P w K mg base ct k x ps kl φ := by
  obtain ⟨fa, fd, h1, h2, h3, h4, F⟩ := F
  exact ⟨fa, fd, h1, h2, h3, h4, ⟨fun vs H Q E s => s.1, fun A outer s H args us vs Q E hr hg e0 hb r hs => F.run A outer s H args us vs Q E hr hg e0 hb r (SpOf.imp h hs)⟩⟩
/-- behind the body -/
theorem leave {d : Df} {io : Option OB} {ds : List D} {env env' : Evn} {Hb Hc Hb' H' : Hp} {ioa : Option Addr} {vs : List V} {σ' : L2.St} {io' : Option OB} (ha : ArgsOk K Hb Hc io ds ioa vs) (hs : startE d io ds = some env) (S : Stt K (bsOf d Hb Hc ioa) env' σ' Hb' H') (h : ioE d env' = some io') :
    Aft Hb Hc Hb' H' (fun b => ioa = some b) ∧ IoOk K Hb' H' io' ioa := by
  have hio : io.isSome = d.io := by
    unfold startE at hs
    rcases ite_or hs with ⟨c, _⟩ | ⟨_, z⟩
    · exact c.1
    · cases z
  have key : (∀ b, ioa = some b → Hb' b = none) ∧ IoOk K Hb' H' io' ioa := by
    unfold ioE at h
    match io, ioa, ha with
    | none, none, _ =>
      have hd : d.io = false := by rw [← hio]; rfl
      rw [if_neg (by rw [hd]; exact Bool.false_ne_true)] at h
      cases h
      exact ⟨(fun b z => nomatch z), trivial⟩
    | some o, some a, _ =>
      have hd : d.io = true := by rw [← hio]; rfl
      rw [if_pos hd] at h
      cases env' with
      | nil => cases h
      | cons s r =>
        cases s <;> simp only at h <;> try cases h
        rename_i o1
        obtain ⟨a', h1, h2, h3, h4⟩ := S.ow 0 o1 rfl
        have hi : (bsOf d Hb Hc (some a)).ios 0 = true := by simp [bsOf, hd]
        rw [if_pos hi] at h4
        have e : some a = some a' := h4
        cases e
        exact ⟨fun b z => (by cases z; exact h2), h2, h3⟩
  refine ⟨⟨S.exb, S.sub, S.keep, fun b o e n => ?_⟩, key.2⟩
  rcases S.frs b o e n with z | z
  · exact z
  · have z' : ioa = some b := z
    rw [key.1 b z'] at e; cases e
theorem def_ok {wn n : Nat} {d : DefI} {Φ : Fn} {fa : Addr} {fd : FuncData} (O : d.Ok T) (bl : ∀ x, x ∈ T.bls → mg x = none) (F : FunD K d.name d.name (defArgs d.st) (defBody d.st) (defScope d.st) [] [] fa fd)
    (sm : ∃ o, base.get? sysModules = some o) (fns : ∀ x f io ps kl, T.fns.lookup x = some (f, io, ps, kl) → FnAt P w K mg base ct n x ps kl (fun o ds => if o.isSome = io then Φ f o ds else none)) :
    Fok P w K mg base (n + 1) fa fd d.ps (SpOf K ct d.ps.length (runD Φ wn d.df)) := by
  refine fok_of F O.fs (fun vs H Q E s => s.1) fun cd A outer s H vs Q E hr hg hsp => ?_
  generalize hX : cxOf (L2.CX P w) P w K mg base d.N d.name (defScope d.st) fa cd A outer s H E = X
  have C : CkS (d.sc T) Φ ct n X (fun cls dd _ H' => E cls dd H') := by
    subst hX
    exact ⟨⟨rfl, rfl, fun _ _ => rfl, O.fs.nd, rfl, hg, hr, L2.takes_of rfl rfl rfl rfl, fns, sm, bl⟩, O.fs.kind, L2.passes_of rfl⟩
  have hK : X.K = K := by subst hX; rfl
  obtain ⟨ts, pss, rd⟩ := sB (io0 := d.df.io) (w := wn) (defBody d.st) C
  rw [O.cb] at rd
  refine ⟨ts, pss, ?_⟩
  obtain ⟨hl, Hb, io, ds, ioa, le, ha, k⟩ := hsp
  unfold runD at k
  cases hs : startE d.df io ds with
  | none => rw [hs] at k; exact k.elim
  | some env =>
  simp only [hs] at k
  have S0 := entry (N := d.N) le hs ha O.ns (by rw [hl]; exact O.np)
  rw [← hK] at S0 ha
  refine rd (bsOf d.df Hb H ioa) _ Hb H env _ (fun i => rfl) S0 ?_
  cases hx : exB Φ wn d.df.io d.df.body env with
  | none => simp only [hx] at k
  | some t =>
  cases t with
  | nx e =>
    simp only [hx] at k
    intro σ' Hb' H' S' _
    cases ho : ioE d.df e with
    | none => simp [ho] at k
    | some io' =>
      simp only [ho, Option.map_some] at k
      obtain ⟨A', I'⟩ := leave ha hs S' ho
      exact k .non Hb' H' A' (hK ▸ I') rfl
  | bk e => simp only [hx] at k
  | ct e => simp only [hx] at k
  | rt r e =>
    simp only [hx] at k
    intro v σ' Hb' H' S' _ nb rv
    cases ho : ioE d.df e with
    | none => simp [ho] at k
    | some io' =>
      simp only [ho, Option.map_some] at k
      obtain ⟨A', I'⟩ := leave ha hs S' ho
      refine k v Hb' H' A' (hK ▸ I') ?_
      rw [← hK]
      cases r with
      | val dd => exact rv
      | bo i => exact nb.elim
      | fr o =>
        obtain ⟨p, e1, e2, e3, e4, e5⟩ := rv
        exact ⟨p, e1, e2, e3, e4⟩
  | ex c e =>
    simp only [hx] at k
    cases hd : d.df.io with
    | true => simp [hd] at k
    | false =>
      rw [hd, if_neg Bool.false_ne_true] at k
      intro σ' Hb' H' S' _
      have ho : ioE d.df e = some none := by unfold ioE; rw [hd]; rfl
      obtain ⟨A', I'⟩ := leave ha hs S' ho
      exact k Hb' H' A'
theorem kw_bind {d : DefI} {fa : Addr} {fd : FuncData} (O : d.Ok T) (F : FunD K d.name d.name (defArgs d.st) (defBody d.st) (defScope d.st) [] [] fa fd) : KwB K fd d.ps d.kl := by
  obtain ⟨oc, od, dV, kV, doc, pm, an, cd, ctv, osl, hfd, lk, hcode, hD, hK⟩ := F.ex
  subst hfd
  rcases hD with ⟨_, rfl⟩ | ⟨e, _⟩
  · exact fun q hq s us ws _ hl hp => .of_eq (O.kb q hq kV doc pm an cd ctv us ws hl hp)
  · exact absurd rfl e
theorem all_fns {wn : Nat} (O : PrgOk K mg T defs) (sm : ∃ o, base.get? sysModules = some o) : ∀ (n i : Nat) (d : DefI), defs[i]? = some d → FnAt P w K mg base ct n d.name d.ps d.kl (fun o ds => runF (prgOf defs) wn n i o ds)
  | 0, i, d, h => by
    have hm := List.mem_of_getElem? h
    obtain ⟨fa, fd, h1, F⟩ := O.fn d hm
    refine ⟨fa, fd, h1, F.kp, FunD.bindsN F (O.ok d hm).bd, kw_bind (O.ok d hm) F, ⟨fun vs H Q E s => s.1, fun A outer s H args us vs Q E hr hg e0 hb r hs => ?_⟩⟩
    obtain ⟨_, Hb, io, ds, ioa, _, _, k⟩ := hs
    exact k.elim
  | n + 1, i, d, h => by
    have hm := List.mem_of_getElem? h
    obtain ⟨fa, fd, h1, F⟩ := O.fn d hm
    refine ⟨fa, fd, h1, F.kp, FunD.bindsN F (O.ok d hm).bd, kw_bind (O.ok d hm) F, ?_⟩
    have z := def_ok (P := P) (w := w) (base := base) (ct := ct) (wn := wn) (n := n) (Φ := runF (prgOf defs) wn n) (O.ok d hm) O.bl F sm (fun x f io ps kl hx => by
      obtain ⟨d', k1, k2, k3, k4, k5⟩ := O.tab x f io ps kl hx
      have ih := all_fns (wn := wn) O sm n f d' k1
      rw [k2, k4, k5] at ih
      exact FnAt.imp (fun o ds => by
        by_cases hc : o.isSome = io
        · exact .inr (if_pos hc)
        · exact .inl (if_neg hc)) ih)
    have e : (fun o ds => runF (prgOf defs) wn (n + 1) i o ds) = runD (runF (prgOf defs) wn n) wn d.df := by
      funext o ds
      show (match prgOf defs i with
        | some d => runD (runF (prgOf defs) wn n) wn d o ds
        | none => none) = _
      unfold prgOf
      rw [h]
      rfl
    rw [e]
    exact z
end
/-! ### the law's call -/
def soleH (a : Addr) (u : Option HO) : Hp := fun b => if b = a then u else none
theorem soleH_ne {a b : Addr} {u : Option HO} (h : soleH a u b ≠ none) : b = a := by
  by_cases e : b = a
  · exact e
  · exact (h (if_neg e)).elim
theorem law_go {P : Program} {w : World} {K : Fg} {mg mb : Str → Option Value} {k : Nat} {fa a : Addr} {fd : FuncData} {x : Str} {sp : Sp} {st : Shared} {us : List Value} {zs : List Int}
    (kin : K.In st.heap) (gns : st.heap.Ns mainGlobals mg) (bns : st.heap.Ns builtinsNs mb) (bbs : ∀ y : Str, y ≠ "__name__" → mb y = bootBuiltins y) (nol : st.heap.NoLimit) (gen : st.gens = #[])
    (obj : st.heap.get? a = some { cls := .type "list", data := .seq us.toArray }) (zint : IntsAre us zs) (few : zs.length ≤ sizeLine) (room : Room k callerA)
    (smod : ∃ o es ep, st.heap.get? sysModules = some o ∧ o.data = .dict es ep) (F : ∀ base : Heap, K.In base → base.Ns mainGlobals mg → (∃ o, base.get? sysModules = some o) → Fok P w K mg base k fa fd [x] sp) (bnd : ∀ (t : Shared) (u : Value), BindsTo t fd ⟨[u], []⟩ [(x, u)])
    (ask : ∀ H : Hp, SqL K H a (zs.map V.int) → sp [.ref a] H (fun v _ => v = .bl true) fun _ _ _ => False) :
    codeAny (model P w) callerA (.call (.ref fa) ⟨[.ref a], []⟩) (fun r t => r = .ok (.ret (.bool true)) ∧ OldK st.heap t.heap ∧ t.os = st.os ∧ AllBare t.gens) st := by
  have vals := vals_ints zint
  have size := zint.length
  generalize hob : ({ cls := .type "list", data := .seq us.toArray } : Obj) = ob at obj
  -- the script is tracked, or it stands in the written part
  obtain ⟨u, hu, hS, hh⟩ : ∃ u : Option HO, ((u = none) ∨ (u = some (.frz ob (.lst (zs.map V.int))) ∧ K.lookup a = none)) ∧ SqL K (soleH a u) a (zs.map V.int) ∧ HOk P w (soleH a u) st.heap := by
    cases hk : K.lookup a with
    | some o =>
      have same := kin a o hk
      rw [obj] at same
      cases same
      refine ⟨none, .inl rfl, .inr ⟨ob, us.toArray, 0, hk, ?_⟩, fun b v z => ?_⟩
      · subst hob
        exact ⟨rfl, rfl, rfl, by rw [List.size_toArray, size]; exact few, by simpa using vals⟩
      · have : soleH a none b = none := by unfold soleH; split <;> rfl
        rw [this] at z
        cases z
    | none =>
      refine ⟨some (.frz ob (.lst (zs.map V.int))), .inr ⟨rfl, rfl⟩, .inl (.inr ⟨ob, if_pos rfl⟩), fun b v z => ?_⟩
      have hb : b = a := soleH_ne (u := some (.frz ob (.lst (zs.map V.int)))) (by rw [z]; exact fun q => nomatch q)
      subst hb
      have z' : some (HO.frz ob (.lst (zs.map V.int))) = some v := (if_pos rfl).symm.trans z
      cases z'
      subst hob
      exact ⟨obj, by rw [List.length_map]; exact few, us, 0, vals, obj⟩
  generalize hH : soleH a u = H at hS hh
  have only : ∀ b, H b ≠ none → b = a := fun b hb => soleH_ne (by rw [hH]; exact hb)
  have under : ∀ {b : Addr} {o : Obj}, st.heap.get? b = some o → b ≠ a → (hidT st.heap H).get? b = some o := fun {b o} e ne => by
    refine hidT_get e ?_
    cases q : H b with
    | none => rfl
    | some v => exact (ne (only b (by rw [q]; exact fun z => nomatch z))).elim
  have nsIn : ∀ {b : Addr} {m : Str → Option Value}, st.heap.Ns b m → (hidT st.heap H).Ns b m := by
    intro b m q
    obtain ⟨o, es, ep, e, dd, r⟩ := q
    refine ⟨o, es, ep, under e fun z => ?_, dd, r⟩
    subst z
    rw [obj] at e
    cases e
    subst hob
    have : Data.seq us.toArray _ = Data.dict es ep := dd
    cases this
  have kb : K.In (hidT st.heap H) := fun b o e => by
    by_cases hb : b = a
    · subst hb
      rcases hu with hu | ⟨hu, hk⟩
      · refine hidT_get (kin b o e) ?_
        rw [← hH, hu]
        unfold soleH
        split <;> rfl
      · rw [hk] at e; cases e
    · exact under (kin b o e) hb
  obtain ⟨mc, lim1, lim2⟩ := nol
  have md : Mod K mg (hidT st.heap H) := ⟨kb, nsIn gns, ⟨mb, nsIn bns, bbs⟩, ⟨mc, nsIn lim1, lim2⟩⟩
  have en : Env0 P w K mg (hidT st.heap H) callerA [] st H := ⟨rfl, md, fun b o e => of_hidT e, Nat.le_of_eq (hidT_size _ _), trivial, (fun b (hb : b ∈ ([] : List Addr)) => nomatch hb), hh, .of_eq gen⟩
  have sm : ∃ o, (hidT st.heap H).get? sysModules = some o := by
    obtain ⟨o, es, ep, e, dd⟩ := smod
    refine ⟨o, under e fun z => ?_⟩
    rw [z, obj] at e
    cases e
    subst hob
    cases dd
  have done := (F _ kb (nsIn gns) sm).run callerA [] st H ⟨[.ref a], []⟩ [.ref a] [.ref a] _ _ room rfl en (bnd st (.ref a)) (.cons rfl .nil) (ask H hS)
  refine codeAny_mono done fun r t h => ?_
  match r, h with
  | .error e, ⟨_, _, _, _, _, _, _, _, _, _, _, _, z⟩ => exact z.elim
  | .ok .next, h => exact h.elim
  | .ok .brk, h => exact h.elim
  | .ok .cont, h => exact h.elim
  | .ok (.ret u'), ⟨v, H', os, bare, un, hok', r', q⟩ =>
    have q' : v = .bl true := q
    subst q'
    have ru : u' = Value.bool true := r'
    subst ru
    refine ⟨rfl, OldK.of_keep fun b o e => ?_, os, bare⟩
    cases q : H b with
    | none => exact un.keep b o e q (fun (z : b ∈ ([] : List Addr)) => nomatch z) (fun z => nomatch z)
    | some v =>
      have hb := only b (by rw [q]; exact fun z => nomatch z)
      subst hb
      rcases hu with hu | ⟨hu, _⟩
      · rw [← hH, hu] at q
        unfold soleH at q
        split at q <;> cases q
      · have z : H b = some (.frz ob (.lst (zs.map V.int))) := by rw [← hH, hu]; exact if_pos rfl
        obtain ⟨e1, _⟩ := hh b _ z
        obtain ⟨e2, _⟩ := hok' b _ (un.frzs b ob _ z)
        rw [e] at e1
        cases e1
        exact e2
theorem walk_fok {l : PySem.W.OpenLaw} {n k : Nat} {q : Program} {loose : List Str} {XP : (Str → Option Value) → Heap → Prop} {YP : World → Heap → Prop} {d : DefRec} {x : Str}
    (most : l.most = some n) (small : n ≤ sizeLine) (plain : d.params.defaults = []) (room : Room k callerA)
    (F : ∀ (w : World) (mg : Str → Option Value) (fa : Addr) (h : Heap), YP w h → h.Ns mainGlobals mg → mg d.name = some (.ref fa) →
      (∃ o es ep, h.get? sysModules = some o ∧ o.data = .dict es ep) ∧ ∃ (K : Fg) (fd : FuncData) (sp : Sp), K.In h ∧ (∀ (s : Shared) (u : Value), BindsTo s fd ⟨[u], []⟩ [(x, u)]) ∧
        (∀ (H : Hp) (a : Addr) (zs : List Int), zs.length ≤ n → SqL K H a (zs.map V.int) → sp [.ref a] H (fun v _ => v = .bl true) fun _ _ _ => False) ∧
        ∀ base : Heap, K.In base → base.Ns mainGlobals mg → (∃ o, base.get? sysModules = some o) → Fok l.prog w K mg base k fa fd [x] sp) :
    PySem.W.WalkO q loose XP YP l.row.toRowW d [] (fun f vs => PySem.call f vs) := by
  apply Att.attach_call most plain
  intro w t0 t1 mg mb fa o pm cd doc a us zs G Y _ _ _ hmg obj zint len gen
  obtain ⟨smod, K, fd, sp, kin, bnd, ask, hF⟩ := F w mg fa _ Y G.T.g hmg
  exact law_go kin G.T.g G.T.b G.T.builtins G.T.nolimit gen obj zint (Nat.le_trans len small) room smod hF bnd fun H hS => ask H a zs len hS
end HB

set_option Elab.async false
set_option linter.all false
set_option maxRecDepth 100000
set_option maxHeartbeats 2000000
/-! HBHead: what the top leaves, and the law's walk, for any list of defs. -/
namespace HB
open PySem PySem.Spec PyProof.Rows L2

def isDct : Option Obj → Bool
  | some o => (match o.data with
    | .dict _ _ => true
    | _ => false)
  | none => false
theorem isDct_is {x : Option Obj} (h : isDct x = true) : ∃ o es ep, x = some o ∧ o.data = .dict es ep := by
  unfold isDct at h
  split at h
  · rename_i o
    split at h
    · rename_i es ep e; exact ⟨o, es, ep, rfl, e⟩
    · cases h
  · cases h
def hookS (n : Nat) (fa : List He.Fa) (fn : List He.DefD) : PySem.W.Hook where
  α := He.AlD × Bool
  obs := fun s => (He.obsDG n fa fn s.heap.get?, isDct (s.heap.get? sysModules))
  val := fun _ => (He.valD fn, true)
  says := fun _ h => (∃ K : Fg, K.In h ∧ He.SaysD fa fn K) ∧ ∃ o es ep, h.get? sysModules = some o ∧ o.data = .dict es ep
  of := fun w s e => ⟨(He.hookD n fa fn).of w s (congrArg (fun z : He.AlD × Bool => z.1) e), isDct_is (congrArg (fun z : He.AlD × Bool => z.2) e)⟩
  keeps := fun w h h' z k => by
    obtain ⟨z1, o, es, ep, e, d⟩ := z
    exact ⟨(He.hookD n fa fn).keeps w h h' z1 k, o, es, ep, k _ _ e, d⟩
def obsS (n : Nat) (fa : List He.Fa) (fn : List He.DefD) (s : PySem.W.SharedT) : He.AlD × Bool := (He.obsDG n fa fn (HandSHeadRun.getT s), isDct (HandSHeadRun.getT s sysModules))
theorem obsS_eq {n : Nat} {fa : List He.Fa} {fn : List He.DefD} (s : PySem.W.SharedT) : obsS n fa fn s = (hookS n fa fn).obs s.abs := by
  have e : HandSHeadRun.getT s = s.abs.heap.get? := funext (HandSHeadRun.getT_eq s)
  unfold obsS
  rw [e]
  rfl
def DefI.toD (d : DefI) : He.DefD := ⟨(d.name, none), d.name, d.name, defArgs d.st, defBody d.st, defScope d.st, [], []⟩
def faOf (defs : List DefI) (bls : List Str) : List He.Fa := defs.map (fun d => .glo d.name) ++ bls.map .free
def fnOfs (defs : List DefI) : List He.DefD := defs.map DefI.toD
theorem zip_idx {α : Type} : ∀ {l : List α} {k i : Nat} {x : α}, (x, i) ∈ l.zipIdx k → k ≤ i ∧ l[i - k]? = some x
  | [], _, _, _, h => by simp at h
  | a :: r, k, i, x, h => by
    rw [List.zipIdx_cons] at h
    rcases List.mem_cons.mp h with e | h
    · cases e; exact ⟨Nat.le_refl _, by simp⟩
    · obtain ⟨h1, h2⟩ := zip_idx h
      refine ⟨by omega, ?_⟩
      have : i - k = (i - (k + 1)) + 1 := by omega
      rw [this]
      simpa using h2
theorem tab_ok {defs : List DefI} {x : Str} {f : Nat} {io : Bool} {ps : List Str} {kl : List (List Str × List Nat)} (h : (tabOf defs).lookup x = some (f, io, ps, kl)) : ∃ d, defs[f]? = some d ∧ d.name = x ∧ d.df.io = io ∧ d.ps = ps ∧ d.kl = kl := by
  have m := mem_lk h
  unfold tabOf at m
  obtain ⟨⟨d, i⟩, h1, e⟩ := List.mem_map.mp m
  cases e
  obtain ⟨_, h2⟩ := zip_idx h1
  exact ⟨d, by simpa using h2, rfl, rfl, rfl, rfl⟩
theorem prg_of {K : Fg} {h : Heap} {mg : Str → Option Value} {defs : List DefI} {bls : List Str} (X : K.In h) (G : h.Ns mainGlobals mg) (c : He.SaysD (faOf defs bls) (fnOfs defs) K) (oks : ∀ d ∈ defs, d.Ok ⟨tabOf defs, [], bls⟩) : PrgOk K mg ⟨tabOf defs, [], bls⟩ defs where
  ok := oks
  fn := fun d hd => by
    obtain ⟨fd, F⟩ := c.defs (d := d.toD) (List.mem_map.mpr ⟨d, hd, rfl⟩)
    exact ⟨_, fd, He.glo_ok X G (c.facts (f := .glo d.name) (List.mem_append_left _ (List.mem_map.mpr ⟨d, hd, rfl⟩))), F⟩
  tab := fun x f io ps kl h => tab_ok h
  bl := fun x hx => He.free_ok X G (c.facts (f := .free x) (List.mem_append_right _ (List.mem_map.mpr ⟨x, hx, rfl⟩)))
/-- the law holds, by what the small language says of it -/
theorem walk_hb {l : PySem.W.OpenLaw} {m : Nat} {q : Program} {loose : List Str} {XP : (Str → Option Value) → Heap → Prop} {d : DefRec} (nh : Nat) (defs : List DefI) (bls : List Str) (wn n iL : Nat) (dl : DefI)
    (most : l.most = some m) (small : m ≤ sizeLine) (plain : d.params.defaults = []) (room : Room (n + 1) callerA) (oks : ∀ d ∈ defs, d.Ok ⟨tabOf defs, [], bls⟩) (hl : defs[iL]? = some dl) (hps : dl.ps = [("script" : Str)]) (hnm : d.name = dl.name)
    (pure : ∀ zs : List Int, zs.length ≤ m → runF (prgOf defs) wn (n + 1) iL none [.frz (zs.map .int)] = some (.ok (.val (.bl true)) none)) :
    PySem.W.WalkO q loose XP (hookS nh (faOf defs bls) (fnOfs defs)).says l.row.toRowW d [] (fun f vs => PySem.call f vs) := by
  refine walk_fok (x := "script") most small plain room fun w mg fa h Y G hmg => ?_
  obtain ⟨⟨K, kin, c⟩, smod⟩ := Y
  refine ⟨smod, ?_⟩
  have O := prg_of kin G c oks
  have hm := List.mem_of_getElem? hl
  obtain ⟨fa', fd, h1, F⟩ := O.fn dl hm
  rw [hnm, h1] at hmg
  cases hmg
  have bd := FunD.bindsA F (O.ok dl hm).bd
  refine ⟨K, fd, SpOf K (fun _ => 0) dl.ps.length (runD (runF (prgOf defs) wn n) wn dl.df), kin, fun s u => ?_, fun H a zs hz hS => ?_, fun base kb gb sm => ?_⟩
  · have z := bd s [u] (by rw [hps]; rfl)
    rw [hps] at z
    exact z
  · refine ⟨by rw [hps]; rfl, H, none, [.frz (zs.map .int)], none, Le.refl _, ⟨_, _, rfl, ⟨a, _, rfl, hS, rp_ints zs⟩, rfl⟩, ?_⟩
    have e := pure zs hz
    have e2 : runD (runF (prgOf defs) wn n) wn dl.df none [.frz (zs.map .int)] = some (.ok (.val (.bl true)) none) := by
      rw [← e]
      show _ = (match prgOf defs iL with
        | some d => runD (runF (prgOf defs) wn n) wn d none [.frz (zs.map .int)]
        | none => none)
      unfold prgOf
      rw [hl]
      rfl
    rw [e2]
    intro v Hb' H' _ _ r
    exact r
  · have z := def_ok (P := l.prog) (w := w) (base := base) (ct := fun _ => 0) (wn := wn) (n := n) (Φ := runF (prgOf defs) wn n) (O.ok dl hm) O.bl F sm (fun x f io ps kl hx => by
      obtain ⟨d', k1, k2, k3, k4, k5⟩ := O.tab x f io ps kl hx
      have ih := all_fns (P := l.prog) (w := w) (base := base) (ct := fun _ => 0) (wn := wn) O sm n f d' k1
      rw [k2, k4, k5] at ih
      exact FnAt.imp (fun o ds => by
        by_cases hc : o.isSome = io
        · exact .inr (if_pos hc)
        · exact .inl (if_neg hc)) ih)
    rw [hps] at z ⊢
    exact z
end HB

set_option Elab.async false
set_option linter.all false
set_option maxRecDepth 100000
set_option maxHeartbeats 2000000
/-! HBPure: reasoning on the small language alone. -/
namespace HB
open PySem PySem.Spec PyProof.Rows L2

def GoX (N C Bk : Evn → Prop) (R : RV → Evn → Prop) : Option Fl → Prop
  | some (.nx e) => N e
  | some (.ct e) => C e
  | some (.bk e) => Bk e
  | some (.rt r e) => R r e
  | _ => False
theorem for_go {t : List Nat} {body : Ms} {N C Bk : Evn → Prop} {R : RV → Evn → Prop} (I : Nat → Evn → Prop) : ∀ (ds : List D) (k : Nat) (env : Evn), I k env →
    (∀ (i : Nat) (d : D) (env : Evn), ds[i]? = some d → I (k + i) env → ∃ env1, bindT t d env = some env1 ∧ GoX (I (k + i + 1)) (I (k + i + 1)) N R (body env1)) → (∀ env, I (k + ds.length) env → N env) → GoX N C Bk R (forGo t body ds env)
  | [], k, env, h, _, q => q env (by simpa using h)
  | d :: ds, k, env, h, s, q => by
    obtain ⟨env1, h1, h2⟩ := s 0 d env rfl h
    unfold forGo
    simp only [h1]
    have go : ∀ e, I (k + 1) e → GoX N C Bk R (forGo t body ds e) := fun e he =>
      for_go I ds (k + 1) e he (fun i d env hd hi => by
        have z := s (i + 1) d env (by simpa using hd) (by rw [show k + (i + 1) = k + 1 + i by omega]; exact hi)
        rw [show k + (i + 1) + 1 = k + 1 + i + 1 by omega] at z
        exact z) fun env hi => q env (by rw [List.length_cons, show k + (ds.length + 1) = k + 1 + ds.length by omega]; exact hi)
    cases hb : body env1 with
    | none => rw [hb] at h2; exact h2.elim
    | some f =>
      rw [hb] at h2
      cases f with
      | nx e => exact go e h2
      | ct e => exact go e h2
      | bk e => exact h2
      | rt r e => exact h2
      | ex c e => exact h2.elim
/-- a loop from its start -/
theorem for_go0 {t : List Nat} {body : Ms} {N C Bk : Evn → Prop} {R : RV → Evn → Prop} (I : Nat → Evn → Prop) {ds : List D} {env : Evn} (h0 : I 0 env)
    (hs : ∀ (i : Nat) (d : D) (env : Evn), ds[i]? = some d → I i env → ∃ env1, bindT t d env = some env1 ∧ GoX (I (i + 1)) (I (i + 1)) N R (body env1)) (hN : ∀ env, I ds.length env → N env) : GoX N C Bk R (forGo t body ds env) :=
  for_go I ds 0 env h0 (fun i d env hd hi => by
    have z := hs i d env hd (by simpa using hi)
    simpa using z) fun env hi => hN env (by simpa using hi)
theorem GoX.imp {N N' C C' Bk Bk' : Evn → Prop} {R R' : RV → Evn → Prop} {x : Option Fl} (h : GoX N C Bk R x) (h1 : ∀ e, N e → N' e) (h2 : ∀ e, C e → C' e) (h3 : ∀ e, Bk e → Bk' e) (h4 : ∀ r e, R r e → R' r e) : GoX N' C' Bk' R' x := by
  cases x with
  | none => exact h
  | some f => cases f with
    | nx e => exact h1 e h
    | ct e => exact h2 e h
    | bk e => exact h3 e h
    | rt r e => exact h4 r e h
    | ex c e => exact h
theorem seq_go {f g : Ms} {env : Evn} {N C Bk : Evn → Prop} {R : RV → Evn → Prop} (h : GoX (fun e => GoX N C Bk R (g e)) C Bk R (f env)) : GoX N C Bk R (f.seq g env) := by
  unfold Ms.seq
  cases hf : f env with
  | none => rw [hf] at h; exact h
  | some t => cases t <;> (rw [hf] at h; exact h)
theorem ex_cons {Φ : Fn} {w : Nat} {io : Bool} {s : IS} {r : List IS} {env : Evn} {N C Bk : Evn → Prop} {R : RV → Evn → Prop} (h : GoX (fun e => GoX N C Bk R (exB Φ w io r e)) C Bk R (exS Φ w io s env)) : GoX N C Bk R (exB Φ w io (s :: r) env) := by
  rw [exB]
  exact seq_go h
theorem ex_nil {Φ : Fn} {w : Nat} {io : Bool} {env : Evn} {N C Bk : Evn → Prop} {R : RV → Evn → Prop} (h : N env) : GoX N C Bk R (exB Φ w io [] env) := by
  rw [exB]
  exact h
/-- an expression ahead -/
theorem fl_go {α : Type} {x : Mo α} {f : α → Ms} {env e : Evn} {a : α} {N C Bk : Evn → Prop} {R : RV → Evn → Prop} (hx : x env = some (.ok a e)) (h : GoX N C Bk R (f a e)) : GoX N C Bk R (x.fl f env) := by
  unfold Mo.fl
  rw [hx]
  exact h
/-! statements -/
section
variable {Φ : Fn} {w : Nat} {io own : Bool} {i : Nat} {e c : IE} {env env1 : Evn} {N C Bk : Evn → Prop} {R : RV → Evn → Prop}
theorem asg_val {d : D} (h : ev Φ e env = some (.ok (.val d) env1)) (hi : (i == 0 && io) = false ∧ i < env1.length) (k : N (env1.set i (.im d))) : GoX N C Bk R (exS Φ w io (.asg i false e) env) := by
  rw [exS]
  refine fl_go (a := .val d) (e := env1) (by unfold Mo.bnd; rw [h]; rfl) ?_
  unfold storeR
  rw [if_neg (by rw [hi.1]; simp [hi.2])]
  exact k
theorem asg_fr {o : OB} (h : ev Φ e env = some (.ok (.fr o) env1)) (hi : (i == 0 && io) = false ∧ i < env1.length) (k : N (env1.set i (.ow o))) : GoX N C Bk R (exS Φ w io (.asg i true e) env) := by
  rw [exS]
  refine fl_go (a := .fr o) (e := env1) (by unfold Mo.bnd; rw [h]; rfl) ?_
  unfold storeR
  rw [if_neg (by rw [hi.1]; simp [hi.2])]
  exact k
/-- a thing just made, taken as data -/
theorem asg_fi {o : OB} (h : ev Φ e env = some (.ok (.fr o) env1)) (hi : (i == 0 && io) = false ∧ i < env1.length) (k : N (env1.set i (.im o.toD))) : GoX N C Bk R (exS Φ w io (.asg i false e) env) := by
  rw [exS]
  refine fl_go (a := .val o.toD) (e := env1) (by unfold Mo.bnd; rw [h]; rfl) ?_
  unfold storeR
  rw [if_neg (by rw [hi.1]; simp [hi.2])]
  exact k
theorem expr_go {r : RV} (h : ev Φ e env = some (.ok r env1)) (k : N env1) : GoX N C Bk R (exS Φ w io (.expr e) env) := by
  rw [exS]
  exact fl_go h k
theorem if_go {b : Bool} {x y : List IS} (h : (ev Φ c).tst env = some (.ok b env1)) (k : GoX N C Bk R (if b = true then exB Φ w io x env1 else exB Φ w io y env1)) : GoX N C Bk R (exS Φ w io (.if_ c x y) env) := by
  rw [exS]
  refine fl_go h ?_
  cases b <;> exact k
theorem for_st {t : List Nat} {it : II} {body : List IS} {ds : List D} (h : evI Φ it env = some (.ok ds env1)) (k : GoX N C Bk R (forGo t (exB Φ w io body) ds env1)) : GoX N C Bk R (exS Φ w io (.for_ t it body) env) := by
  rw [exS]
  exact fl_go h k
theorem ret_val {d : D} (h : ev Φ e env = some (.ok (.val d) env1)) (k : R (.val d) env1) : GoX N C Bk R (exS Φ w io (.ret e) env) := by
  rw [exS]
  exact fl_go h k
theorem ret_fr {o : OB} (h : ev Φ e env = some (.ok (.fr o) env1)) (k : R (.fr o) env1) : GoX N C Bk R (exS Φ w io (.ret e) env) := by
  rw [exS]
  exact fl_go h k
/-- a store of an item -/
theorem set_go {o i' e' : IE} {j : Nat} {kk : Int} {n : Nat} {d : D} {ds : List D} {env2 env3 : Evn} (h1 : (ev Φ e').set env = some (.ok (.val d) env1)) (h2 : (ev Φ o).set env1 = some (.ok (.bo j) env2)) (h3 : (ev Φ i').set env2 = some (.ok (.val (.int kk)) env3)) (h4 : env3[j]? = some (.ow (.lst ds))) (h5 : ixN ds.length kk = some n)
    (k : N (env3.set j (.ow (.lst (ds.set n d))))) : GoX N C Bk R (exS Φ w io (.setI o i' e') env) := by
  rw [exS]
  refine fl_go h1 (fl_go h2 (fl_go h3 (fl_go (a := d) (e := env3) rfl ?_)))
  simp only [h4, h5]
  exact k
end
/-- a def's end, by its body -/
theorem run_go {Φ : Fn} {wn : Nat} {d : Df} {io : Option OB} {ds : List D} {env : Evn} {Q : RV → Option OB → Prop} (hs : startE d io ds = some env)
    (h : GoX (fun e => ∃ o, ioE d e = some o ∧ Q (.val .non) o) (fun _ => False) (fun _ => False) (fun r e => ∃ o, ioE d e = some o ∧ Q r o) (exB Φ wn d.io d.body env)) : ∃ r o, runD Φ wn d io ds = some (.ok r o) ∧ Q r o := by
  unfold runD
  simp only [hs]
  cases hx : exB Φ wn d.io d.body env with
  | none => rw [hx] at h; exact h.elim
  | some f =>
    rw [hx] at h
    cases f with
    | nx e => obtain ⟨o, h1, h2⟩ := h; exact ⟨_, o, by simp [h1], h2⟩
    | rt r e => obtain ⟨o, h1, h2⟩ := h; exact ⟨r, o, by simp [h1], h2⟩
    | ct e => exact h.elim
    | bk e => exact h.elim
    | ex c e => exact h.elim
theorem while_go {c : Mo Bool} {body : Ms} {N C Bk : Evn → Prop} {R : RV → Evn → Prop} (I : Nat → Evn → Prop) (hs : ∀ m env, I m env → ∃ b e1, c env = some (.ok b e1) ∧ ((b = false ∧ N e1) ∨ (b = true ∧ 0 < m ∧ GoX (I (m - 1)) (I (m - 1)) N R (body e1)))) : ∀ (n m : Nat) (env : Evn), m < n → I m env → GoX N C Bk R (whileGo c body n env)
  | 0, m, env, h, _ => by omega
  | n + 1, m, env, h, hi => by
    obtain ⟨b, e1, h1, h2⟩ := hs m env hi
    unfold whileGo
    rcases h2 with ⟨rfl, h2⟩ | ⟨rfl, hm, h2⟩
    · simp only [h1]; exact h2
    · simp only [h1]
      have go : ∀ e, I (m - 1) e → GoX N C Bk R (whileGo c body n e) := fun e he => while_go I hs n (m - 1) e (by omega) he
      cases hb : body e1 with
      | none => rw [hb] at h2; exact h2.elim
      | some f =>
        rw [hb] at h2
        cases f with
        | nx e => exact go e h2
        | ct e => exact go e h2
        | bk e => exact h2
        | rt r e => exact h2
        | ex c e => exact h2.elim
/-! comprehensions -/
theorem compGo_is {step : D → Mo (Option D)} (J : Evn → Prop) (f : D → Option D) : ∀ (ds acc : List D) (env : Evn), J env → acc.length + ds.length ≤ LIM → (∀ d ∈ ds, ∀ env, J env → ∃ env', step d env = some (.ok (f d) env') ∧ J env') →
    ∃ env', compGo step ds acc env = some (.ok (acc ++ ds.filterMap f) env') ∧ J env'
  | [], acc, env, h, _, _ => ⟨env, by simp [compGo, Mo.ret], h⟩
  | d :: ds, acc, env, h, hl, hs => by
    obtain ⟨e1, h1, h2⟩ := hs d List.mem_cons_self env h
    simp only [List.length_cons] at hl
    cases hf : f d with
    | none =>
      obtain ⟨e2, h3, h4⟩ := compGo_is J f ds acc e1 h2 (by omega) fun d hd => hs d (List.mem_cons_of_mem _ hd)
      refine ⟨e2, ?_, h4⟩
      unfold compGo Mo.bnd
      rw [h1, hf]
      simp only
      rw [h3, List.filterMap_cons, hf]
    | some y =>
      obtain ⟨e2, h3, h4⟩ := compGo_is J f ds (acc ++ [y]) e1 h2 (by simp; omega) fun d hd => hs d (List.mem_cons_of_mem _ hd)
      refine ⟨e2, ?_, h4⟩
      unfold compGo Mo.bnd
      rw [h1, hf]
      simp only
      rw [if_pos (by omega), h3, List.filterMap_cons, hf]
      simp
theorem comp_is {Φ : Fn} {own t : List Nat} {it : II} {c : IO} {e : IE} {env : Evn} (ds : List D) (f : D → Option D) (hi : evI Φ it env = some (.ok ds env)) (hl : ds.length ≤ LIM) (hb : back env own (unown own env) = env)
    (h : ∀ d ∈ ds, ∃ e1, bindT t d (unown own env) = some e1 ∧ unown own e1 = unown own env ∧ ((f d = none ∧ evC Φ c e1 = some (.ok false e1)) ∨ ∃ y, f d = some y ∧ evC Φ c e1 = some (.ok true e1) ∧ (ev Φ e).set e1 = some (.ok (.val y) e1))) :
    ev Φ (.comp own t it c e) env = some (.ok (.fr (.lst (ds.filterMap f))) env) := by
  have z := compGo_is (step := cStep own t (evC Φ c) (ev Φ e).set) (fun e1 => unown own e1 = unown own env) f ds [] env rfl (by simpa using hl) fun d hd env' he => by
    obtain ⟨e1, h1, h2, h3⟩ := h d hd
    refine ⟨e1, ?_, h2⟩
    unfold cStep
    rw [he]
    simp only [h1]
    rcases h3 with ⟨h3, h4⟩ | ⟨y, h3, h4, h5⟩
    · unfold Mo.bnd
      rw [h4, h3]
      rfl
    · unfold Mo.bnd
      rw [h4, h3]
      simp only [if_true]
      rw [h5]
      rfl
  obtain ⟨e2, h1, h2⟩ := z
  rw [ev]
  unfold Mo.bnd
  rw [hi]
  show (match compGo (cStep own t (evC Φ c) (ev Φ e).set) ds [] env with
    | some (Out.ok ys env') => some (Out.ok (RV.fr (.lst ys)) (back env own (unown own env')))
    | some (.ex _ _) => none
    | none => none) = _
  rw [h1]
  simp only
  rw [h2, hb]
  simp
end HB

set_option Elab.async false
set_option linter.all false
set_option maxRecDepth 100000
set_option maxHeartbeats 2000000
/-! HBLib1: the defs that many laws share: is_integer, the well, the drawing. -/
namespace HB
open PySem PySem.Spec PyProof.Rows L2

theorem atI_nat {α : Type} {l : List α} {i : Nat} : L2.atI l (i : Int) = l[i]? := by
  unfold L2.atI ixN
  by_cases h : i < l.length
  · simp [h]
  · simp [h]
@[simp] theorem atI_0 {α : Type} {a : α} {l : List α} : L2.atI (a :: l) 0 = some a := atI_nat (i := 0)
@[simp] theorem atI_1 {α : Type} {a b : α} {l : List α} : L2.atI (a :: b :: l) 1 = some b := atI_nat (i := 1)
@[simp] theorem atI_2 {α : Type} {a b c : α} {l : List α} : L2.atI (a :: b :: c :: l) 2 = some c := atI_nat (i := 2)
@[simp] theorem ixN_0 {n : Nat} : ixN (n + 1) 0 = some 0 := by unfold ixN; simp
@[simp] theorem ixN_30 : ixN 3 0 = some 0 := rfl
@[simp] theorem ixN_32 : ixN 3 2 = some 2 := rfl

/-! ### is_integer -/
def f_is_integer : Df := ⟨3, 3, false, [.if_ (.or (.not (.isi (.var 0) [.int])) (.isi (.var 0) [.bool])) [.ret (.cst (.bl false))] [], .ret (.and (.or (.cmp .is (.var 1) (.cst .non)) (.cmp .le (.var 1) (.var 0))) (.or (.cmp .is (.var 2) (.cst .non)) (.cmp .le (.var 0) (.var 2))))]⟩
def isI (d : D) (lo hi : Int) : Bool := match d with
  | .int v => decide (lo ≤ v) && decide (v ≤ hi)
  | _ => false
def noFrz : D → Bool
  | .frz _ => false
  | _ => true
theorem int_ok {Φ : Fn} {wn : Nat} {d : D} {lo hi : Int} (h : noFrz d = true) : runD Φ wn f_is_integer none [d, .int lo, .int hi] = some (.ok (.val (.bl (isI d lo hi))) none) := by
  cases d with
  | frz ds => cases h
  | int v =>
    by_cases h1 : lo ≤ v <;> simp [ev, evA, evO, evC, evI, evF, exS, exB, Ms.seq, Mo.bnd, Mo.ret, Mo.lift, Mo.opd, RV.opd, Mo.set, RV.set, Mo.tst, Mo.imm, Mo.imms, Mo.nox, opds, OB.toD, atD, cmpD, binD, bltD, prepR, preps, storeR, storesR, nxOf, Mo.fl, isNon, tysD, tyD, intD, intsD, seqD, lstD, methD, isMut, mutD, callD, permL, bindT, slcD, startE, ioE, runD, f_is_integer, isI, h1]
  | _ => simp [ev, evA, evO, evC, evI, evF, exS, exB, Ms.seq, Mo.bnd, Mo.ret, Mo.lift, Mo.opd, RV.opd, Mo.set, RV.set, Mo.tst, Mo.imm, Mo.imms, Mo.nox, opds, OB.toD, atD, cmpD, binD, bltD, prepR, preps, storeR, storesR, nxOf, Mo.fl, isNon, tysD, tyD, intD, intsD, seqD, lstD, methD, isMut, mutD, callD, permL, bindT, slcD, startE, ioE, runD, f_is_integer, isI]
/-! ### the well -/
/-- a well at most n draws old -/
def Well (n : Nat) (o : OB) : Prop := ∃ a b c : Int, o = .lst [.int a, .int b, .int c] ∧ 0 ≤ b ∧ b < 10 ^ 45 ∧ 0 ≤ c ∧ c ≤ n
theorem Well.mono {n m : Nat} {o : OB} (h : Well n o) (k : n ≤ m) : Well m o := by
  obtain ⟨a, b, c, h1, h2, h3, h4, h5⟩ := h
  exact ⟨a, b, c, h1, h2, h3, h4, by omega⟩
def f_well : Df := ⟨2, 3, false, [.asg 2 false (.ite (.cmp .lt (.var 1) (.blt .len (.cons (.var 0) .nil))) (.idx (.var 0) (.var 1)) (.cst (.int 0))), .ret (.lst (.cons (.blt .max2 (.cons (.cst (.int 0)) (.cons (.bin .sub (.blt .abs (.cons (.var 2) .nil)) (.bin .pow (.cst (.int 10)) (.cst (.int 18)))) .nil))) (.cons (.bin .add (.bin .add (.bin .mul (.bin .mod (.blt .int (.cons (.var 2) .nil)) (.bin .add (.bin .pow (.cst (.int 10)) (.cst (.int 37))) (.cst (.int 141)))) (.cst (.int 101))) (.bin .mul (.cst (.int 67)) (.var 1))) (.cst (.int 41))) (.cons (.cst (.int 0)) .nil))))]⟩
theorem mulOk_r (i : Int) {j : Int} (h : -(2 ^ 64) < j ∧ j < 2 ^ 64) : mulOk i j = true := by
  unfold mulOk
  simp only [Bool.or_eq_true, decide_eq_true_eq]
  exact .inl (.inr h)
theorem mulOk_l {i : Int} (j : Int) (h : -(2 ^ 64) < i ∧ i < 2 ^ 64) : mulOk i j = true := by
  unfold mulOk
  simp only [Bool.or_eq_true, decide_eq_true_eq]
  exact .inl (.inl h)
theorem bits_le {i : Int} {n : Nat} (h : i.natAbs < 2 ^ n) : Builtin.Int.intBits i ≤ n := by
  unfold Builtin.Int.intBits
  split
  · omega
  · rename_i z
    have : i.natAbs.log2 < n := (Nat.log2_lt (by simpa using z)).mpr h
    omega
theorem bits_10 : Builtin.Int.intBits 10 = 4 := by decide +kernel
theorem well_cell {Φ : Fn} {wn : Nat} {ds : List D} {at_ : Nat} (v : Int) (hl : at_ ≤ 1000) (h : (at_ < ds.length ∧ ds[at_]? = some (.int v)) ∨ (¬ at_ < ds.length ∧ v = 0)) : ∃ o, runD Φ wn f_well none [.frz ds, .int (at_ : Int)] = some (.ok (.fr o) none) ∧ Well 0 o := by
  have hm : (0 : Int) < 10 ^ 37 + 141 := by decide
  have m1 := Int.emod_nonneg v (show (10 ^ 37 + 141 : Int) ≠ 0 by decide)
  have m2 := Int.emod_lt_of_pos v hm
  generalize hr : v % (10 ^ 37 + 141 : Int) = r at m1 m2
  have hr' : v % 10000000000000000000000000000000000141 = r := hr
  have k1 : mulOk r 101 = true := mulOk_r _ (by decide)
  have k2 : mulOk 67 (at_ : Int) = true := mulOk_l _ (by decide)
  have fin : ∀ x : Int, Well 0 (.lst [.int x, .int (r * 101 + 67 * (at_ : Int) + 41), .int 0]) := fun x => ⟨x, _, 0, rfl, by omega, by omega, by omega, by simp⟩
  rcases h with ⟨h1, h2⟩ | ⟨h1, rfl⟩
  · have h3 : L2.atI ds (at_ : Int) = some (.int v) := by rw [atI_nat, h2]
    have h4 : ((at_ : Int) < (ds.length : Int)) := by omega
    simp [ev, evA, evO, evC, evI, evF, exS, exB, Ms.seq, Mo.bnd, Mo.ret, Mo.lift, Mo.opd, RV.opd, Mo.set, RV.set, Mo.tst, Mo.imm, Mo.imms, Mo.nox, opds, OB.toD, atD, cmpD, binD, bltD, prepR, preps, storeR, storesR, nxOf, Mo.fl, isNon, tysD, tyD, intD, intsD, seqD, lstD, methD, isMut, mutD, callD, permL, bindT, slcD, startE, ioE, runD, f_well, h3, h4, bits_10, k1, k2, LIM, hr', fin]
  · have h4 : ¬ ((at_ : Int) < (ds.length : Int)) := by omega
    simp [ev, evA, evO, evC, evI, evF, exS, exB, Ms.seq, Mo.bnd, Mo.ret, Mo.lift, Mo.opd, RV.opd, Mo.set, RV.set, Mo.tst, Mo.imm, Mo.imms, Mo.nox, opds, OB.toD, atD, cmpD, binD, bltD, prepR, preps, storeR, storesR, nxOf, Mo.fl, isNon, tysD, tyD, intD, intsD, seqD, lstD, methD, isMut, mutD, callD, permL, bindT, slcD, startE, ioE, runD, f_well, h4, bits_10, k1, k2, LIM, hr', fin]
theorem well_ok {Φ : Fn} {wn : Nat} (zs : List Int) {at_ : Nat} (hl : at_ ≤ 1000) : ∃ o, runD Φ wn f_well none [.frz (zs.map .int), .int (at_ : Int)] = some (.ok (.fr o) none) ∧ Well 0 o := by
  by_cases h : at_ < zs.length
  · exact well_cell zs[at_] hl (.inl ⟨by simpa using h, by simp [h]⟩)
  · exact well_cell 0 hl (.inr ⟨by simpa using h, rfl⟩)
/-! ### a draw -/
def f_draw : Df := ⟨2, 4, true, [.if_ (.cmp .gt (.idx (.var 0) (.cst (.int 0))) (.cst (.int 0))) [.asg 2 false (.bin .mod (.blt .int (.cons (.idx (.var 0) (.cst (.int 0))) .nil)) (.var 1)), .setI (.var 0) (.cst (.int 0)) (.bin .div (.idx (.var 0) (.cst (.int 0))) (.var 1)), .ret (.var 2)] [], .setI (.var 0) (.cst (.int 2)) (.bin .add (.idx (.var 0) (.cst (.int 2))) (.cst (.int 1))), .asg 3 false (.bin .mod (.bin .pow (.blt .int (.cons (.bin .add (.idx (.var 0) (.cst (.int 1))) (.bin .mul (.cst (.int 715827883)) (.idx (.var 0) (.cst (.int 2))))) .nil)) (.cst (.int 3))) (.bin .add (.bin .pow (.cst (.int 10)) (.cst (.int 41))) (.cst (.int 109)))), .asg 3 false (.bin .mod (.bin .pow (.blt .int (.cons (.bin .add (.var 3) (.bin .mul (.cst (.int 198491317)) (.idx (.var 0) (.cst (.int 2))))) .nil)) (.cst (.int 3))) (.bin .add (.bin .pow (.cst (.int 10)) (.cst (.int 39))) (.cst (.int 3)))), .ret (.bin .mod (.blt .int (.cons (.bin .div (.var 3) (.cst (.int 1048576))) .nil)) (.var 1))]⟩
/-- what a drawing def promises -/
def DrawOk (φ : Option OB → List D → Option FOut) : Prop := ∀ (n : Nat) (o : OB) (m : Int), Well n o → n ≤ 1000000 → 0 < m → m < 2 ^ 1000 → ∃ (d : Int) (o' : OB), φ (some o) [.int m] = some (.ok (.val (.int d)) (some o')) ∧ 0 ≤ d ∧ d < m ∧ Well (n + 1) o'
theorem pow_ok {x : Int} (h0 : 0 ≤ x) (h : x < 10 ^ 50) : (Builtin.Int.intBits x : Int) * 3 ≤ 2 ^ 27 := by
  have : Builtin.Int.intBits x ≤ 200 := bits_le (by
    have : (10 : Int) ^ 50 < 2 ^ 200 := by decide
    omega)
  omega
theorem draw_ok {Φ : Fn} {wn : Nat} : DrawOk (runD Φ wn f_draw) := by
  intro n o m hw hn hm hm2
  obtain ⟨a, b, c, rfl, h1, h2, h3, h4⟩ := hw
  have e1 := Int.emod_nonneg a (show m ≠ 0 by omega)
  have e2 := Int.emod_lt_of_pos a hm
  have hlog : m.natAbs.log2 < 9000 := by
    have : m.natAbs < 2 ^ 9000 := by
      have : (2 : Int) ^ 1000 ≤ 2 ^ 9000 := by decide +kernel
      omega
    by_cases hz : m.natAbs = 0
    · omega
    · exact (Nat.log2_lt hz).mpr this
  by_cases ha : 0 < a
  · refine ⟨a % m, .lst [.int (a / m), .int b, .int c], ?_, e1, e2, ⟨_, _, _, rfl, h1, h2, h3, by omega⟩⟩
    simp [ev, evA, evO, evC, evI, evF, exS, exB, Ms.seq, Mo.bnd, Mo.ret, Mo.lift, Mo.opd, RV.opd, Mo.set, RV.set, Mo.tst, Mo.imm, Mo.imms, Mo.nox, opds, OB.toD, atD, cmpD, binD, bltD, prepR, preps, storeR, storesR, nxOf, Mo.fl, isNon, tysD, tyD, intD, intsD, seqD, lstD, methD, isMut, mutD, callD, permL, bindT, slcD, startE, ioE, runD, f_draw, ha, hm, hlog]
  · generalize hc : c + 1 = c' at *
    have c1 : 0 ≤ c' := by omega
    have c2 : c' ≤ 1000001 := by omega
    have k1 : mulOk 715827883 c' = true := mulOk_l _ (by decide)
    have k2 : mulOk 198491317 c' = true := mulOk_l _ (by decide)
    have t1 : (0 : Int) ≤ b + 715827883 * c' := by omega
    have p1 := pow_ok t1 (show b + 715827883 * c' < 10 ^ 50 by omega)
    have q1 : (0 : Int) < 10 ^ 41 + 109 := by decide
    have r1 := Int.emod_nonneg ((b + 715827883 * c') ^ 3) (show (10 ^ 41 + 109 : Int) ≠ 0 by decide)
    have r2 := Int.emod_lt_of_pos ((b + 715827883 * c') ^ 3) q1
    generalize hx : (b + 715827883 * c') ^ 3 % (10 ^ 41 + 109 : Int) = x at r1 r2
    have hx' : (b + 715827883 * c') ^ 3 % 100000000000000000000000000000000000000109 = x := hx
    have t2 : (0 : Int) ≤ x + 198491317 * c' := by omega
    have p2 := pow_ok t2 (show x + 198491317 * c' < 10 ^ 50 by omega)
    have f1 := Int.emod_nonneg (((x + 198491317 * c') ^ 3 % (10 ^ 39 + 3 : Int)) / 1048576) (show m ≠ 0 by omega)
    have f2 := Int.emod_lt_of_pos (((x + 198491317 * c') ^ 3 % (10 ^ 39 + 3 : Int)) / 1048576) hm
    refine ⟨_, .lst [.int a, .int b, .int c'], ?_, f1, f2, ⟨_, _, _, rfl, h1, h2, c1, by omega⟩⟩
    have p1' : (Builtin.Int.intBits (b + 715827883 * c') : Int) * 3 ≤ 134217728 := p1
    have p2' : (Builtin.Int.intBits (x + 198491317 * c') : Int) * 3 ≤ 134217728 := p2
    have lg : Nat.log2 1048576 < 9000 := by decide +kernel
    simp [ev, evA, evO, evC, evI, evF, exS, exB, Ms.seq, Mo.bnd, Mo.ret, Mo.lift, Mo.opd, RV.opd, Mo.set, RV.set, Mo.tst, Mo.imm, Mo.imms, Mo.nox, opds, OB.toD, atD, cmpD, binD, bltD, prepR, preps, storeR, storesR, nxOf, Mo.fl, isNon, tysD, tyD, intD, intsD, seqD, lstD, methD, isMut, mutD, callD, permL, bindT, slcD, startE, ioE, runD, f_draw, ha, hm, hlog, hc, k1, k2, p1', p2', bits_10, hx', lg]
end HB

set_option Elab.async false
set_option linter.all false
set_option maxRecDepth 100000
set_option maxHeartbeats 4000000
/-! HBLib2: forests: is_rooted, is_forest, and the other way of judging one. -/
namespace HB
open PySem PySem.Spec PyProof.Rows L2

/-! ### parents -/
def parD : D → Option Nat
  | .int i => some i.toNat
  | _ => none
def par (ds : List D) (x : Nat) : Option Nat := (ds[x]?).bind parD
def upE (ds : List D) : Nat → Option Nat → Option Nat
  | 0, y => y
  | k + 1, y => (upE ds k y).bind (par ds)
def hereD : Option Nat → D
  | none => .non
  | some i => .int (i : Int)
/-- each item is nothing, or a place -/
def okE (n : Nat) (d : D) : Bool := isNon d || isI d 0 ((n : Int) - 1)
def Fine (ds : List D) : Prop := ∀ d ∈ ds, d = .non ∨ ∃ i : Nat, d = .int (i : Int) ∧ i < ds.length
theorem okE_is {n : Nat} {d : D} (h : okE n d = true) : d = .non ∨ ∃ i : Nat, d = .int (i : Int) ∧ i < n := by
  unfold okE at h
  cases d <;> simp [isNon, isI] at h
  · exact .inl rfl
  · rename_i v
    refine .inr ⟨v.toNat, ?_, by omega⟩
    rw [Int.toNat_of_nonneg h.1]
theorem fine_of {ds : List D} (h : ds.all (okE ds.length) = true) : Fine ds := fun d hd => okE_is (List.all_eq_true.mp h d hd)
theorem fine_all {ds : List D} (h : Fine ds) : ds.all (okE ds.length) = true := by
  rw [List.all_eq_true]
  intro d hd
  rcases h d hd with e | ⟨i, e, hi⟩ <;> subst e
  · rfl
  · simp [okE, isNon, isI]; omega
theorem get_par {ds : List D} (h : Fine ds) {x : Nat} (hx : x < ds.length) : ds[x]? = some (hereD (par ds x)) := by
  have e : ds[x]? = some ds[x] := List.getElem?_eq_getElem hx
  unfold par
  rw [e]
  rcases h ds[x] (List.getElem_mem hx) with z | ⟨i, z, _⟩ <;> rw [z]
  · rfl
  · simp [parD, hereD]
theorem par_lt {ds : List D} (h : Fine ds) {x y : Nat} (e : par ds x = some y) : y < ds.length := by
  unfold par at e
  cases hx : ds[x]? with
  | none => rw [hx] at e; cases e
  | some d =>
    rw [hx] at e
    rcases h d (List.mem_of_getElem? hx) with z | ⟨i, z, hi⟩ <;> subst z
    · cases e
    · simp [parD] at e; omega
theorem upE_none (ds : List D) : ∀ k, upE ds k none = none
  | 0 => rfl
  | k + 1 => by unfold upE; rw [upE_none ds k]; rfl
theorem upE_add (ds : List D) (y : Option Nat) (i : Nat) : ∀ j, upE ds (i + j) y = upE ds j (upE ds i y)
  | 0 => rfl
  | j + 1 => by
    show (upE ds (i + j) y).bind (par ds) = (upE ds j (upE ds i y)).bind (par ds)
    rw [upE_add ds y i j]
theorem upE_succ (ds : List D) (x k : Nat) : upE ds (k + 1) (some x) = upE ds k (par ds x) := by
  rw [Nat.add_comm, upE_add]
  rfl
theorem upE_lt {ds : List D} (h : Fine ds) {x : Nat} (hx : x < ds.length) : ∀ {k y : Nat}, upE ds k (some x) = some y → y < ds.length
  | 0, y, e => by cases e; exact hx
  | k + 1, y, e => by
    unfold upE at e
    obtain ⟨z, h1, h2⟩ := Option.bind_eq_some_iff.mp e
    exact par_lt h h2
/-! no cycle -/
theorem php : ∀ (n : Nat) (f : Nat → Nat), (∀ i, i ≤ n → f i < n) → ∃ i j, i < j ∧ j ≤ n ∧ f i = f j
  | 0, f, h => by have := h 0 (Nat.le_refl _); omega
  | n + 1, f, h => by
    by_cases c : ∃ i, i ≤ n ∧ f i = f (n + 1)
    · obtain ⟨i, hi, e⟩ := c
      exact ⟨i, n + 1, by omega, Nat.le_refl _, e⟩
    · have hv := h (n + 1) (Nat.le_refl _)
      have ne : ∀ i, i ≤ n → f i ≠ f (n + 1) := fun i hi e => c ⟨i, hi, e⟩
      obtain ⟨i, j, h1, h2, e⟩ := php n (fun i => if f i > f (n + 1) then f i - 1 else f i) fun i hi => by
        have := h i (by omega)
        have := ne i hi
        split <;> omega
      refine ⟨i, j, h1, by omega, ?_⟩
      have n1 := ne i (by omega)
      have n2 := ne j h2
      split at e <;> split at e <;> omega
theorem long_path {ds : List D} (h : Fine ds) {x : Nat} (hx : x < ds.length) {v : Nat} (hv : upE ds ds.length (some x) = some v) : ∀ m, upE ds m (some x) ≠ none := by
  have some_below : ∀ m, m ≤ ds.length → ∃ y, upE ds m (some x) = some y := fun m hm => by
    cases e : upE ds m (some x) with
    | some y => exact ⟨y, rfl⟩
    | none =>
      have := upE_add ds (some x) m (ds.length - m)
      rw [show m + (ds.length - m) = ds.length by omega, e, upE_none, hv] at this
      cases this
  obtain ⟨i, j, hij, hj, e⟩ := php ds.length (fun m => (upE ds m (some x)).getD 0) fun m hm => by
    obtain ⟨y, hy⟩ := some_below m hm
    simp only [hy, Option.getD_some]
    exact upE_lt h hx hy
  have eq : upE ds i (some x) = upE ds j (some x) := by
    obtain ⟨a, ha⟩ := some_below i (by omega)
    obtain ⟨b, hb⟩ := some_below j hj
    simp only [ha, hb, Option.getD_some] at e
    rw [ha, hb, e]
  have all : ∀ n m, m ≤ n → upE ds m (some x) ≠ none := by
    intro n
    induction n with
    | zero => intro m hm; rw [show m = 0 by omega]; simp [upE]
    | succ n ih =>
      intro m hm
      by_cases hmj : m ≤ j
      · obtain ⟨y, hy⟩ := some_below m (by omega)
        rw [hy]; simp
      · have z := upE_add ds (some x) j (m - j)
        rw [show j + (m - j) = m by omega, ← eq, ← upE_add] at z
        rw [z]
        exact ih _ (by omega)
  exact fun m => all m m (Nat.le_refl _)
def rooted (ds : List D) : Bool := (List.range ds.length).all fun x => (upE ds ds.length (par ds x)).isNone
def rooted2 (ds : List D) : Bool := (List.range ds.length).all fun x => (upE ds ds.length (some x)).isNone
theorem rooted_same {ds : List D} (h : Fine ds) : rooted ds = rooted2 ds := by
  rw [Bool.eq_iff_iff]
  unfold rooted rooted2
  simp only [List.all_eq_true, List.mem_range, Option.isNone_iff_eq_none]
  constructor
  · intro k x hx
    cases e : upE ds ds.length (some x) with
    | none => rfl
    | some v =>
      have := long_path h hx e (ds.length + 1)
      rw [upE_succ] at this
      exact (this (k x hx)).elim
  · intro k x hx
    rw [← upE_succ]
    unfold upE
    rw [k x hx]
    rfl
def isForest : D → Bool
  | .tup ds => !ds.isEmpty && (ds.all (okE ds.length) && rooted ds)
  | _ => false
/-- a rank makes a forest -/
theorem rank_forest {ds : List D} (h : Fine ds) (ne : ds ≠ []) (r : Nat → Nat) (h1 : ∀ x, x < ds.length → r x < ds.length) (h2 : ∀ x y, x < ds.length → par ds x = some y → r y < r x) : isForest (.tup ds) = true := by
  have go : ∀ x k y, x < ds.length → upE ds k (some x) = some y → r y + k ≤ r x := by
    intro x k
    induction k with
    | zero => intro y hx e; cases e; omega
    | succ k ih =>
      intro y hx e
      unfold upE at e
      obtain ⟨z, e1, e2⟩ := Option.bind_eq_some_iff.mp e
      have := ih z hx e1
      have := h2 z y (upE_lt h hx e1) e2
      omega
  have e1 : ds.isEmpty = false := by cases ds <;> simp_all
  show (!ds.isEmpty && (ds.all (okE ds.length) && rooted ds)) = true
  rw [e1, fine_all h, rooted_same h]
  simp only [Bool.not_false, Bool.true_and]
  unfold rooted2
  simp only [List.all_eq_true, List.mem_range, Option.isNone_iff_eq_none]
  intro x hx
  cases e : upE ds ds.length (some x) with
  | none => rfl
  | some v =>
    have := go x _ v hx e
    have := h1 x hx
    omega
/-! ### is_rooted -/
def rt_step : List IS := [.if_ (.cmp .isn (.var 2) (.cst .non)) [.asg 2 false (.idx (.var 0) (.var 2))] []]
def rt_turn : List IS := [.asg 2 false (.idx (.var 0) (.var 1)), .for_ [3] (.rng1 (.blt .len (.cons (.var 0) .nil))) rt_step, .if_ (.cmp .isn (.var 2) (.cst .non)) [.ret (.cst (.bl false))] []]
def f_is_rooted : Df := ⟨1, 4, false, [.for_ [1] (.rng1 (.blt .len (.cons (.var 0) .nil))) rt_turn, .ret (.cst (.bl true))]⟩
theorem rng_get {n i : Nat} {d : D} (h : ((List.range n).map fun (k : Nat) => D.int (0 + (k : Int)))[i]? = some d) : i < n ∧ d = .int (i : Int) := by
  rw [List.getElem?_map] at h
  obtain ⟨k, h1, h2⟩ := Option.map_eq_some_iff.mp h
  have hi : i < n := by have := lt_of_get h1; simpa using this
  rw [List.getElem?_range hi] at h1
  cases h1
  exact ⟨hi, by rw [← h2]; simp⟩
theorem rooted_ok {Φ : Fn} {wn : Nat} {ds : List D} (h : Fine ds) (hl : ds.length ≤ 100000) : runD Φ wn f_is_rooted none [.tup ds] = some (.ok (.val (.bl (rooted ds))) none) := by
  have hr : -100000 ≤ (ds.length : Int) ∧ (ds.length : Int) ≤ 100000 := by omega
  obtain ⟨r, o, e, h1, h2⟩ := run_go (Φ := Φ) (wn := wn) (d := f_is_rooted) (io := none) (ds := [.tup ds]) (env := [.im (.tup ds), .un, .un, .un]) (Q := fun r o => r = .val (.bl (rooted ds)) ∧ o = none) rfl (by
    refine ex_cons (for_st (ds := (List.range ds.length).map fun (k : Nat) => D.int (0 + (k : Int))) (env1 := [.im (.tup ds), .un, .un, .un]) (by simp [ev, evA, evO, evC, evI, evF, exS, exB, Ms.seq, Mo.bnd, Mo.ret, Mo.lift, Mo.opd, RV.opd, Mo.set, RV.set, Mo.tst, Mo.imm, Mo.imms, Mo.nox, opds, OB.toD, atD, cmpD, binD, bltD, prepR, preps, storeR, storesR, nxOf, Mo.fl, isNon, tysD, tyD, intD, intsD, seqD, lstD, methD, isMut, mutD, callD, permL, bindT, slcD, startE, ioE, runD, hr]) ?_)
    refine for_go0 (fun i env => ∃ s1 s2 s3, env = [.im (.tup ds), s1, s2, s3] ∧ ∀ x, x < i → upE ds ds.length (par ds x) = none) ⟨_, _, _, rfl, fun x hx => by omega⟩ ?_ ?_
    · rintro i d env hd ⟨s1, s2, s3, rfl, hi⟩
      obtain ⟨hlt, rfl⟩ := rng_get hd
      refine ⟨[.im (.tup ds), .im (.int (i : Int)), s2, s3], by simp [bindT], ?_⟩
      refine ex_cons ?_
      have g := get_par h hlt
      have g' : L2.atI ds (i : Int) = some (hereD (par ds i)) := by rw [atI_nat, g]
      refine asg_val (d := hereD (par ds i)) (env1 := [.im (.tup ds), .im (.int (i : Int)), s2, s3]) (by simp [ev, evA, evO, evC, evI, evF, exS, exB, Ms.seq, Mo.bnd, Mo.ret, Mo.lift, Mo.opd, RV.opd, Mo.set, RV.set, Mo.tst, Mo.imm, Mo.imms, Mo.nox, opds, OB.toD, atD, cmpD, binD, bltD, prepR, preps, storeR, storesR, nxOf, Mo.fl, isNon, tysD, tyD, intD, intsD, seqD, lstD, methD, isMut, mutD, callD, permL, bindT, slcD, startE, ioE, runD, g']) ⟨rfl, by simp⟩ ?_
      refine ex_cons (for_st (ds := (List.range ds.length).map fun (k : Nat) => D.int (0 + (k : Int))) (env1 := [.im (.tup ds), .im (.int (i : Int)), .im (hereD (par ds i)), s3]) (by simp [ev, evA, evO, evC, evI, evF, exS, exB, Ms.seq, Mo.bnd, Mo.ret, Mo.lift, Mo.opd, RV.opd, Mo.set, RV.set, Mo.tst, Mo.imm, Mo.imms, Mo.nox, opds, OB.toD, atD, cmpD, binD, bltD, prepR, preps, storeR, storesR, nxOf, Mo.fl, isNon, tysD, tyD, intD, intsD, seqD, lstD, methD, isMut, mutD, callD, permL, bindT, slcD, startE, ioE, runD, hr]) ?_)
      refine for_go0 (fun j env => ∃ s3, env = [.im (.tup ds), .im (.int (i : Int)), .im (hereD (upE ds j (par ds i))), s3]) ⟨_, rfl⟩ ?_ ?_
      · rintro j d env hd ⟨s3, rfl⟩
        obtain ⟨hj, rfl⟩ := rng_get hd
        refine ⟨[.im (.tup ds), .im (.int (i : Int)), .im (hereD (upE ds j (par ds i))), .im (.int (j : Int))], by simp [bindT], ?_⟩
        cases e : upE ds j (par ds i) with
        | none => simp [ev, evA, evO, evC, evI, evF, exS, exB, Ms.seq, Mo.bnd, Mo.ret, Mo.lift, Mo.opd, RV.opd, Mo.set, RV.set, Mo.tst, Mo.imm, Mo.imms, Mo.nox, opds, OB.toD, atD, cmpD, binD, bltD, prepR, preps, storeR, storesR, nxOf, Mo.fl, isNon, tysD, tyD, intD, intsD, seqD, lstD, methD, isMut, mutD, callD, permL, bindT, slcD, startE, ioE, runD, rt_step, hereD, GoX, upE, e]
        | some y =>
          have hy : y < ds.length := by rw [← upE_succ] at e; exact upE_lt h hlt e
          have gy : L2.atI ds (y : Int) = some (hereD (par ds y)) := by rw [atI_nat, get_par h hy]
          simp [ev, evA, evO, evC, evI, evF, exS, exB, Ms.seq, Mo.bnd, Mo.ret, Mo.lift, Mo.opd, RV.opd, Mo.set, RV.set, Mo.tst, Mo.imm, Mo.imms, Mo.nox, opds, OB.toD, atD, cmpD, binD, bltD, prepR, preps, storeR, storesR, nxOf, Mo.fl, isNon, tysD, tyD, intD, intsD, seqD, lstD, methD, isMut, mutD, callD, permL, bindT, slcD, startE, ioE, runD, rt_step, hereD, GoX, upE, e, gy]
      · rintro env ⟨s3, rfl⟩
        simp only [List.length_map, List.length_range]
        refine ex_cons ?_
        cases e : upE ds ds.length (par ds i) with
        | none =>
          simp only [hereD]
          simp [ev, evA, evO, evC, evI, evF, exS, exB, Ms.seq, Mo.bnd, Mo.ret, Mo.lift, Mo.opd, RV.opd, Mo.set, RV.set, Mo.tst, Mo.imm, Mo.imms, Mo.nox, opds, OB.toD, atD, cmpD, binD, bltD, prepR, preps, storeR, storesR, nxOf, Mo.fl, isNon, tysD, tyD, intD, intsD, seqD, lstD, methD, isMut, mutD, callD, permL, bindT, slcD, startE, ioE, runD, GoX]
          intro x hx
          by_cases hxi : x < i
          · exact hi x hxi
          · rw [show x = i by omega]; exact e
        | some y =>
          simp only [hereD]
          have : rooted ds = false := by
            unfold rooted
            rw [List.all_eq_false]
            exact ⟨i, List.mem_range.mpr hlt, by rw [e]; simp⟩
          simp [ev, evA, evO, evC, evI, evF, exS, exB, Ms.seq, Mo.bnd, Mo.ret, Mo.lift, Mo.opd, RV.opd, Mo.set, RV.set, Mo.tst, Mo.imm, Mo.imms, Mo.nox, opds, OB.toD, atD, cmpD, binD, bltD, prepR, preps, storeR, storesR, nxOf, Mo.fl, isNon, tysD, tyD, intD, intsD, seqD, lstD, methD, isMut, mutD, callD, permL, bindT, slcD, startE, ioE, runD, GoX, this, f_is_rooted]
    · rintro env ⟨s1, s2, s3, rfl, hi⟩
      have : rooted ds = true := by
        unfold rooted
        rw [List.all_eq_true]
        intro x hx
        rw [hi x (by simpa using hx)]
        rfl
      simp [ev, evA, evO, evC, evI, evF, exS, exB, Ms.seq, Mo.bnd, Mo.ret, Mo.lift, Mo.opd, RV.opd, Mo.set, RV.set, Mo.tst, Mo.imm, Mo.imms, Mo.nox, opds, OB.toD, atD, cmpD, binD, bltD, prepR, preps, storeR, storesR, nxOf, Mo.fl, isNon, tysD, tyD, intD, intsD, seqD, lstD, methD, isMut, mutD, callD, permL, bindT, slcD, startE, ioE, runD, GoX, this, f_is_rooted])
  rw [e, h1, h2]
end HB

set_option Elab.async false
set_option linter.all false
set_option maxRecDepth 100000
set_option maxHeartbeats 4000000
/-! HBLib3: is_forest; the other way of judging a forest. -/
namespace HB
open PySem PySem.Spec PyProof.Rows L2

def noFrzs : List D → Bool
  | [] => true
  | d :: ds => noFrz d && noFrzs ds
/-- data that a judging def may be given -/
def Ask (d : D) : Prop := noFrz d = true ∧ ∀ ds, d = .tup ds → ds.length ≤ 1000 ∧ ∀ e ∈ ds, noFrz e = true
theorem eq_nil (ds : List D) : eqD (.tup ds) (.tup []) = some ds.isEmpty := by simp [eqD]
theorem bls_map {α : Type} (g : α → Bool) : ∀ l : List α, blsD (l.map fun x => D.bl (g x)) = some (l.map g)
  | [] => rfl
  | x :: l => by simp [blsD, bls_map g l]
theorem fm_map {α β : Type} (g : α → β) : ∀ l : List α, (l.filterMap fun x => some (g x)) = l.map g
  | [] => rfl
  | x :: l => by simp [fm_map g l]
theorem all_map {α : Type} (g : α → Bool) (l : List α) : (l.map g).all id = l.all g := by
  induction l with
  | nil => rfl
  | cons x l ih => simp [ih]
def cp_isf (ii : Nat) : IE := .comp [1] [1] (.seq (.var 0)) .no (.or (.cmp .is (.var 1) (.cst .non)) (.call ii false (.cons (.var 1) (.cons (.cst (.int 0)) (.cons (.bin .sub (.blt .len (.cons (.var 0) .nil)) (.cst (.int 1))) .nil)))))
def f_is_forest (ii ir : Nat) : Df := ⟨1, 2, false, [.if_ (.or (.not (.isi (.var 0) [.tuple])) (.cmp .eq (.var 0) (.tup .nil))) [.ret (.cst (.bl false))] [], .if_ (.not (.blt .all (.cons (cp_isf ii) .nil))) [.ret (.cst (.bl false))] [], .ret (.call ir false (.cons (.var 0) .nil))]⟩
theorem forest_ok {Φ : Fn} {wn ii ir : Nat} (hi : ∀ d lo hi, noFrz d = true → Φ ii none [d, .int lo, .int hi] = some (.ok (.val (.bl (isI d lo hi))) none)) (hr : ∀ ds, Fine ds → ds.length ≤ 100000 → Φ ir none [.tup ds] = some (.ok (.val (.bl (rooted ds))) none))
    {d : D} (hd : Ask d) : runD Φ wn (f_is_forest ii ir) none [d] = some (.ok (.val (.bl (isForest d))) none) := by
  obtain ⟨h1, h2⟩ := hd
  cases d with
  | frz ds => cases h1
  | tup ds =>
    obtain ⟨hl, he⟩ := h2 ds rfl
    cases ds with
    | nil => simp [ev, evA, evO, evC, evI, evF, exS, exB, Ms.seq, Mo.bnd, Mo.ret, Mo.lift, Mo.opd, RV.opd, Mo.set, RV.set, Mo.tst, Mo.imm, Mo.imms, Mo.nox, opds, OB.toD, atD, cmpD, binD, bltD, prepR, preps, storeR, storesR, nxOf, Mo.fl, isNon, tysD, tyD, intD, intsD, seqD, lstD, methD, isMut, mutD, callD, permL, bindT, slcD, startE, ioE, runD, f_is_forest, eq_nil, isForest, LIM]
    | cons x xs =>
      generalize hds : x :: xs = ds at *
      have ne : ds.isEmpty = false := by rw [← hds]; rfl
      have cp : ev Φ (cp_isf ii) [.im (.tup ds), .un] = some (.ok (.fr (.lst (ds.map fun d => D.bl (okE ds.length d)))) [.im (.tup ds), .un]) := by
        rw [← fm_map]
        refine comp_is ds _ (by simp [ev, evA, evO, evC, evI, evF, exS, exB, Ms.seq, Mo.bnd, Mo.ret, Mo.lift, Mo.opd, RV.opd, Mo.set, RV.set, Mo.tst, Mo.imm, Mo.imms, Mo.nox, opds, OB.toD, atD, cmpD, binD, bltD, prepR, preps, storeR, storesR, nxOf, Mo.fl, isNon, tysD, tyD, intD, intsD, seqD, lstD, methD, isMut, mutD, callD, permL, bindT, slcD, startE, ioE, runD]) (by unfold LIM; omega) (by simp [unown, back]) fun d hd => ⟨[.im (.tup ds), .im d], by simp [unown, bindT], by simp [unown], .inr ⟨_, rfl, by simp [ev, evA, evO, evC, evI, evF, exS, exB, Ms.seq, Mo.bnd, Mo.ret, Mo.lift, Mo.opd, RV.opd, Mo.set, RV.set, Mo.tst, Mo.imm, Mo.imms, Mo.nox, opds, OB.toD, atD, cmpD, binD, bltD, prepR, preps, storeR, storesR, nxOf, Mo.fl, isNon, tysD, tyD, intD, intsD, seqD, lstD, methD, isMut, mutD, callD, permL, bindT, slcD, startE, ioE, runD], ?_⟩⟩
        have hz := hi d 0 ((ds.length : Int) - 1) (he d hd)
        cases d <;> simp [ev, evA, evO, evC, evI, evF, exS, exB, Ms.seq, Mo.bnd, Mo.ret, Mo.lift, Mo.opd, RV.opd, Mo.set, RV.set, Mo.tst, Mo.imm, Mo.imms, Mo.nox, opds, OB.toD, atD, cmpD, binD, bltD, prepR, preps, storeR, storesR, nxOf, Mo.fl, isNon, tysD, tyD, intD, intsD, seqD, lstD, methD, isMut, mutD, callD, permL, bindT, slcD, startE, ioE, runD, okE, hz]
      have b2 : (blsD (ds.map fun d => D.bl (okE ds.length d))).map (fun bs => RV.val (.bl (bs.all id))) = some (.val (.bl (ds.all (okE ds.length)))) := by
        rw [bls_map, Option.map_some, all_map]
      by_cases ha : ds.all (okE ds.length) = true
      · have hz := hr ds (fine_of ha) (by omega)
        have hf : isForest (.tup ds) = rooted ds := by show (!ds.isEmpty && (ds.all (okE ds.length) && rooted ds)) = _; rw [ne, ha]; rfl
        rw [hf]
        simp [ev, evA, evO, evC, evI, evF, exS, exB, Ms.seq, Mo.bnd, Mo.ret, Mo.lift, Mo.opd, RV.opd, Mo.set, RV.set, Mo.tst, Mo.imm, Mo.imms, Mo.nox, opds, OB.toD, atD, cmpD, binD, bltD, prepR, preps, storeR, storesR, nxOf, Mo.fl, isNon, tysD, tyD, intD, intsD, seqD, lstD, methD, isMut, mutD, callD, permL, bindT, slcD, startE, ioE, runD, f_is_forest, eq_nil, ne, cp, b2, LIM, hz, ha]
      · have hf : isForest (.tup ds) = false := by show (!ds.isEmpty && (ds.all (okE ds.length) && rooted ds)) = _; rw [Bool.not_eq_true] at ha; rw [ha]; simp
        rw [hf]
        rw [Bool.not_eq_true] at ha
        simp [ev, evA, evO, evC, evI, evF, exS, exB, Ms.seq, Mo.bnd, Mo.ret, Mo.lift, Mo.opd, RV.opd, Mo.set, RV.set, Mo.tst, Mo.imm, Mo.imms, Mo.nox, opds, OB.toD, atD, cmpD, binD, bltD, prepR, preps, storeR, storesR, nxOf, Mo.fl, isNon, tysD, tyD, intD, intsD, seqD, lstD, methD, isMut, mutD, callD, permL, bindT, slcD, startE, ioE, runD, f_is_forest, eq_nil, ne, cp, b2, LIM, ha]
  | _ => simp [ev, evA, evO, evC, evI, evF, exS, exB, Ms.seq, Mo.bnd, Mo.ret, Mo.lift, Mo.opd, RV.opd, Mo.set, RV.set, Mo.tst, Mo.imm, Mo.imms, Mo.nox, opds, OB.toD, atD, cmpD, binD, bltD, prepR, preps, storeR, storesR, nxOf, Mo.fl, isNon, tysD, tyD, intD, intsD, seqD, lstD, methD, isMut, mutD, callD, permL, bindT, slcD, startE, ioE, runD, f_is_forest, isForest]
end HB

set_option Elab.async false
set_option linter.all false
set_option maxRecDepth 100000
set_option maxHeartbeats 4000000
/-! HBLib4: the law's own way of judging a forest. -/
namespace HB
open PySem PySem.Spec PyProof.Rows L2

def dI (l : List Nat) : List D := l.map fun (k : Nat) => D.int (k : Int)
theorem flat_dI : ∀ l : List Nat, flatDs (dI l) = some (l.map fun (k : Nat) => V.int (k : Int))
  | [] => rfl
  | k :: l => by
    have := flat_dI l
    unfold dI at this ⊢
    simp [flatDs, flatD, this]
theorem mem_dI (y : Nat) (l : List Nat) : memD (.int (y : Int)) (dI l) = some (decide (y ∈ l)) := by
  unfold memD
  rw [flat_dI]
  simp only [flatD]
  congr 1
  unfold inV
  induction l with
  | nil => simp
  | cons x l ih =>
    show (((x : Int) == (y : Int)) || (l.map fun (k : Nat) => V.int (k : Int)).any fun z => eqV z (.int (y : Int))) = _
    rw [ih]
    by_cases h : x = y
    · subst h; simp
    · have h' : ((x : Int) == (y : Int)) = false := by simp; omega
      rw [h', Bool.false_or]
      simp [Ne.symm h]
def natOf : D → Nat
  | .int i => i.toNat
  | _ => 0
theorem dI_filter (p : Nat → Bool) : ∀ L : List Nat, dI (L.filter p) = (dI L).filterMap fun d => if p (natOf d) = true then some d else none
  | [] => rfl
  | x :: L => by
    have ih := dI_filter p L
    have e : dI (x :: L) = D.int (x : Int) :: dI L := rfl
    rw [e, List.filterMap_cons]
    have n : natOf (D.int (x : Int)) = x := by simp [natOf]
    rw [n]
    by_cases h : p x = true
    · rw [List.filter_cons_of_pos h, if_pos h]
      simp only
      rw [← ih]
      rfl
    · rw [List.filter_cons_of_neg h, if_neg h]
      exact ih
def lefts (ds : List D) (k : Nat) : List Nat := (List.range ds.length).filter fun x => (upE ds k (some x)).isSome
theorem lefts_0 (ds : List D) : lefts ds 0 = List.range ds.length := by
  unfold lefts
  rw [List.filter_eq_self]
  intro x _
  rfl
theorem lefts_succ {ds : List D} (h : Fine ds) (k : Nat) : (lefts ds k).filter (fun x => match par ds x with
    | some y => decide (y ∈ lefts ds k)
    | none => false) = lefts ds (k + 1) := by
  unfold lefts
  rw [List.filter_filter]
  apply List.filter_congr
  intro x hx
  have hx' : x < ds.length := by simpa using hx
  rw [upE_succ]
  cases e : par ds x with
  | none => simp [upE_none]
  | some y =>
    have hy := par_lt h e
    have e2 : upE ds (k + 1) (some x) = upE ds k (some y) := by rw [upE_succ, e]
    simp only [List.mem_filter, List.mem_range, hy, true_and]
    cases e3 : upE ds k (some y) with
    | none => simp
    | some z =>
      have : upE ds k (some x) ≠ none := fun q => by
        have : upE ds (k + 1) (some x) = (upE ds k (some x)).bind (par ds) := rfl
        rw [q, e2, e3] at this
        cases this
      cases e4 : upE ds k (some x) with
      | none => exact (this e4).elim
      | some w => simp
theorem lefts_nil {ds : List D} : (lefts ds ds.length).isEmpty = rooted2 ds := by
  rw [Bool.eq_iff_iff]
  unfold lefts rooted2
  rw [List.isEmpty_iff, List.filter_eq_nil_iff, List.all_eq_true]
  constructor
  · intro q x hx
    have := q x hx
    cases e : upE ds ds.length (some x) with
    | none => rfl
    | some y => rw [e] at this; simp at this
  · intro q x hx
    have := q x hx
    cases e : upE ds ds.length (some x) with
    | none => simp
    | some y => rw [e] at this; simp at this
def li_turn : List IS := [.if_ (.cmp .isn (.var 1) (.cst .non)) [.if_ (.or (.not (.isi (.var 1) [.int])) (.or (.isi (.var 1) [.bool]) (.not (.chn .le .lt (.cst (.int 0)) (.var 1) (.blt .len (.cons (.var 0) .nil)))))) [.ret (.cst (.bl false))] []] []]
def cp_li : IE := .comp [1] [1] (.seq (.var 2)) (.yes (.and (.cmp .isn (.idx (.var 0) (.var 1)) (.cst .non)) (.cmp .mem (.idx (.var 0) (.var 1)) (.var 2)))) (.var 1)
def li_round : List IS := [.asg 2 false cp_li]
def f_law_is : Df := ⟨1, 4, false, [.if_ (.or (.not (.isi (.var 0) [.tuple])) (.cmp .eq (.var 0) (.tup .nil))) [.ret (.cst (.bl false))] [], .for_ [1] (.seq (.var 0)) li_turn, .asg 2 false (.blt .listRng (.cons (.blt .len (.cons (.var 0) .nil)) .nil)), .for_ [3] (.rng1 (.blt .len (.cons (.var 0) .nil))) li_round, .ret (.cmp .eq (.var 2) (.lst .nil))]⟩
theorem eq_dI (l : List Nat) : eqD (.lst (dI l)) (.lst []) = some l.isEmpty := by
  cases l with
  | nil => rfl
  | cons x l => simp [eqD, dI]
theorem cp_li_is {Φ : Fn} {ds : List D} {L : List Nat} {s1 s3 : Sl} (h : Fine ds) (hl : ds.length ≤ 1000) (hL : L.length ≤ 1000) (hb : ∀ x ∈ L, x < ds.length) :
    ev Φ cp_li [.im (.tup ds), s1, .im (.lst (dI L)), s3] = some (.ok (.fr (.lst (dI (L.filter fun x => match par ds x with
      | some y => decide (y ∈ L)
      | none => false)))) [.im (.tup ds), s1, .im (.lst (dI L)), s3]) := by
  rw [dI_filter]
  refine comp_is (dI L) _ (by simp [ev, evA, evO, evC, evI, evF, exS, exB, Ms.seq, Mo.bnd, Mo.ret, Mo.lift, Mo.opd, RV.opd, Mo.set, RV.set, Mo.tst, Mo.imm, Mo.imms, Mo.nox, opds, OB.toD, atD, cmpD, binD, bltD, prepR, preps, storeR, storesR, nxOf, Mo.fl, isNon, tysD, tyD, intD, intsD, seqD, lstD, methD, isMut, mutD, callD, permL, bindT, slcD, startE, ioE, runD]) (by unfold LIM dI; simp; omega) (by simp [unown, back]) fun d hd => ?_
  obtain ⟨x, hx, rfl⟩ := List.mem_map.mp hd
  have hxl := hb x hx
  have g : L2.atI ds (x : Int) = some (hereD (par ds x)) := by rw [atI_nat, get_par h hxl]
  refine ⟨[.im (.tup ds), .im (.int (x : Int)), .im (.lst (dI L)), s3], by simp [unown, bindT], by simp [unown], ?_⟩
  cases e : par ds x with
  | none =>
    rw [e] at g
    exact .inl ⟨by simp [e, natOf], by simp [ev, evA, evO, evC, evI, evF, exS, exB, Ms.seq, Mo.bnd, Mo.ret, Mo.lift, Mo.opd, RV.opd, Mo.set, RV.set, Mo.tst, Mo.imm, Mo.imms, Mo.nox, opds, OB.toD, atD, cmpD, binD, bltD, prepR, preps, storeR, storesR, nxOf, Mo.fl, isNon, tysD, tyD, intD, intsD, seqD, lstD, methD, isMut, mutD, callD, permL, bindT, slcD, startE, ioE, runD, g, hereD]⟩
  | some y =>
    rw [e] at g
    have m := mem_dI y L
    by_cases hm : y ∈ L
    · exact .inr ⟨_, by simp [e, hm, natOf]; rfl, by simp [ev, evA, evO, evC, evI, evF, exS, exB, Ms.seq, Mo.bnd, Mo.ret, Mo.lift, Mo.opd, RV.opd, Mo.set, RV.set, Mo.tst, Mo.imm, Mo.imms, Mo.nox, opds, OB.toD, atD, cmpD, binD, bltD, prepR, preps, storeR, storesR, nxOf, Mo.fl, isNon, tysD, tyD, intD, intsD, seqD, lstD, methD, isMut, mutD, callD, permL, bindT, slcD, startE, ioE, runD, g, hereD, m, hm], by simp [ev, evA, evO, evC, evI, evF, exS, exB, Ms.seq, Mo.bnd, Mo.ret, Mo.lift, Mo.opd, RV.opd, Mo.set, RV.set, Mo.tst, Mo.imm, Mo.imms, Mo.nox, opds, OB.toD, atD, cmpD, binD, bltD, prepR, preps, storeR, storesR, nxOf, Mo.fl, isNon, tysD, tyD, intD, intsD, seqD, lstD, methD, isMut, mutD, callD, permL, bindT, slcD, startE, ioE, runD]⟩
    · exact .inl ⟨by simp [e, hm, natOf], by simp [ev, evA, evO, evC, evI, evF, exS, exB, Ms.seq, Mo.bnd, Mo.ret, Mo.lift, Mo.opd, RV.opd, Mo.set, RV.set, Mo.tst, Mo.imm, Mo.imms, Mo.nox, opds, OB.toD, atD, cmpD, binD, bltD, prepR, preps, storeR, storesR, nxOf, Mo.fl, isNon, tysD, tyD, intD, intsD, seqD, lstD, methD, isMut, mutD, callD, permL, bindT, slcD, startE, ioE, runD, g, hereD, m, hm]⟩
theorem listRng_is (n : Nat) : ((List.range n).map fun (k : Nat) => D.int (k : Int)) = dI (List.range n) := rfl
theorem law_is_ok {Φ : Fn} {wn : Nat} {d : D} (hd : Ask d) : runD Φ wn f_law_is none [d] = some (.ok (.val (.bl (isForest d))) none) := by
  obtain ⟨h1, h2⟩ := hd
  cases d with
  | frz ds => cases h1
  | tup ds =>
    obtain ⟨hl, he⟩ := h2 ds rfl
    cases ds with
    | nil => simp [ev, evA, evO, evC, evI, evF, exS, exB, Ms.seq, Mo.bnd, Mo.ret, Mo.lift, Mo.opd, RV.opd, Mo.set, RV.set, Mo.tst, Mo.imm, Mo.imms, Mo.nox, opds, OB.toD, atD, cmpD, binD, bltD, prepR, preps, storeR, storesR, nxOf, Mo.fl, isNon, tysD, tyD, intD, intsD, seqD, lstD, methD, isMut, mutD, callD, permL, bindT, slcD, startE, ioE, runD, f_law_is, eq_nil, isForest, LIM]
    | cons x xs =>
      generalize hds : x :: xs = ds at *
      have ne : ds.isEmpty = false := by rw [← hds]; rfl
      have hr : -100000 ≤ (ds.length : Int) ∧ (ds.length : Int) ≤ 100000 := by omega
      have hf : isForest (.tup ds) = (ds.all (okE ds.length) && rooted ds) := by show (!ds.isEmpty && (ds.all (okE ds.length) && rooted ds)) = _; rw [ne]; rfl
      obtain ⟨r, o, e, k1, k2⟩ := run_go (Φ := Φ) (wn := wn) (d := f_law_is) (io := none) (ds := [.tup ds]) (env := [.im (.tup ds), .un, .un, .un]) (Q := fun r o => r = .val (.bl (isForest (.tup ds))) ∧ o = none) rfl (by
        refine ex_cons (if_go (b := false) (env1 := [.im (.tup ds), .un, .un, .un]) (by simp [ev, evA, evO, evC, evI, evF, exS, exB, Ms.seq, Mo.bnd, Mo.ret, Mo.lift, Mo.opd, RV.opd, Mo.set, RV.set, Mo.tst, Mo.imm, Mo.imms, Mo.nox, opds, OB.toD, atD, cmpD, binD, bltD, prepR, preps, storeR, storesR, nxOf, Mo.fl, isNon, tysD, tyD, intD, intsD, seqD, lstD, methD, isMut, mutD, callD, permL, bindT, slcD, startE, ioE, runD, eq_nil, ne, LIM]) ?_)
        rw [if_neg Bool.false_ne_true]
        refine ex_nil ?_
        refine ex_cons (for_st (ds := ds) (env1 := [.im (.tup ds), .un, .un, .un]) (by simp [ev, evA, evO, evC, evI, evF, exS, exB, Ms.seq, Mo.bnd, Mo.ret, Mo.lift, Mo.opd, RV.opd, Mo.set, RV.set, Mo.tst, Mo.imm, Mo.imms, Mo.nox, opds, OB.toD, atD, cmpD, binD, bltD, prepR, preps, storeR, storesR, nxOf, Mo.fl, isNon, tysD, tyD, intD, intsD, seqD, lstD, methD, isMut, mutD, callD, permL, bindT, slcD, startE, ioE, runD]) ?_)
        refine for_go0 (fun i env => ∃ s1, env = [.im (.tup ds), s1, .un, .un] ∧ ∀ (j : Nat) (d : D), j < i → ds[j]? = some d → okE ds.length d = true) ⟨_, rfl, fun j d hj => by omega⟩ ?_ ?_
        · rintro i d env hdi ⟨s1, rfl, hi⟩
          refine ⟨[.im (.tup ds), .im d, .un, .un], by simp [bindT], ?_⟩
          have hm := List.mem_of_getElem? hdi
          have hn := he d hm
          by_cases hk : okE ds.length d = true
          · have next : ∀ (j : Nat) (e : D), j < i + 1 → ds[j]? = some e → okE ds.length e = true := fun j e hj hje => by
              by_cases hji : j < i
              · exact hi j e hji hje
              · have : j = i := by omega
                subst this
                rw [hdi] at hje; cases hje; exact hk
            rcases okE_is hk with z | ⟨y, z, hy⟩
            · subst z
              simp [ev, evA, evO, evC, evI, evF, exS, exB, Ms.seq, Mo.bnd, Mo.ret, Mo.lift, Mo.opd, RV.opd, Mo.set, RV.set, Mo.tst, Mo.imm, Mo.imms, Mo.nox, opds, OB.toD, atD, cmpD, binD, bltD, prepR, preps, storeR, storesR, nxOf, Mo.fl, isNon, tysD, tyD, intD, intsD, seqD, lstD, methD, isMut, mutD, callD, permL, bindT, slcD, startE, ioE, runD, li_turn, GoX, f_law_is]
              exact next
            · subst z
              have c1 : (0 : Int) ≤ (y : Int) := by omega
              have c2 : ((y : Int) < (ds.length : Int)) := by omega
              simp [ev, evA, evO, evC, evI, evF, exS, exB, Ms.seq, Mo.bnd, Mo.ret, Mo.lift, Mo.opd, RV.opd, Mo.set, RV.set, Mo.tst, Mo.imm, Mo.imms, Mo.nox, opds, OB.toD, atD, cmpD, binD, bltD, prepR, preps, storeR, storesR, nxOf, Mo.fl, isNon, tysD, tyD, intD, intsD, seqD, lstD, methD, isMut, mutD, callD, permL, bindT, slcD, startE, ioE, runD, li_turn, GoX, f_law_is, c2]
              exact next
          · have : isForest (.tup ds) = false := by
              rw [hf]
              have : ds.all (okE ds.length) = false := by
                rw [List.all_eq_false]
                exact ⟨d, hm, hk⟩
              rw [this]; rfl
            rw [this]
            cases d with
            | frz _ => cases hn
            | non => exact (hk rfl).elim
            | int v =>
              have c : ¬ (0 ≤ v ∧ v < (ds.length : Int)) := fun c => hk (by simp [okE, isNon, isI]; omega)
              by_cases c1 : (0 : Int) ≤ v
              · have c2 : ¬ v < (ds.length : Int) := fun q => c ⟨c1, q⟩
                simp [ev, evA, evO, evC, evI, evF, exS, exB, Ms.seq, Mo.bnd, Mo.ret, Mo.lift, Mo.opd, RV.opd, Mo.set, RV.set, Mo.tst, Mo.imm, Mo.imms, Mo.nox, opds, OB.toD, atD, cmpD, binD, bltD, prepR, preps, storeR, storesR, nxOf, Mo.fl, isNon, tysD, tyD, intD, intsD, seqD, lstD, methD, isMut, mutD, callD, permL, bindT, slcD, startE, ioE, runD, li_turn, GoX, f_law_is, c1, c2]
              · simp [ev, evA, evO, evC, evI, evF, exS, exB, Ms.seq, Mo.bnd, Mo.ret, Mo.lift, Mo.opd, RV.opd, Mo.set, RV.set, Mo.tst, Mo.imm, Mo.imms, Mo.nox, opds, OB.toD, atD, cmpD, binD, bltD, prepR, preps, storeR, storesR, nxOf, Mo.fl, isNon, tysD, tyD, intD, intsD, seqD, lstD, methD, isMut, mutD, callD, permL, bindT, slcD, startE, ioE, runD, li_turn, GoX, f_law_is, c1]
            | _ => simp [ev, evA, evO, evC, evI, evF, exS, exB, Ms.seq, Mo.bnd, Mo.ret, Mo.lift, Mo.opd, RV.opd, Mo.set, RV.set, Mo.tst, Mo.imm, Mo.imms, Mo.nox, opds, OB.toD, atD, cmpD, binD, bltD, prepR, preps, storeR, storesR, nxOf, Mo.fl, isNon, tysD, tyD, intD, intsD, seqD, lstD, methD, isMut, mutD, callD, permL, bindT, slcD, startE, ioE, runD, li_turn, GoX, f_law_is]
        · rintro env ⟨s1, rfl, hi⟩
          have hall : ds.all (okE ds.length) = true := by
            rw [List.all_eq_true]
            intro d hd
            obtain ⟨j, hj, e⟩ := List.mem_iff_getElem.mp hd
            exact hi j d hj (by rw [List.getElem?_eq_getElem hj, e])
          have fine := fine_of hall
          rw [hf, hall, Bool.true_and, rooted_same fine]
          refine ex_cons (asg_fi (o := .lst (dI (lefts ds 0))) (env1 := [.im (.tup ds), s1, .un, .un]) (by rw [lefts_0]; simp [ev, evA, evO, evC, evI, evF, exS, exB, Ms.seq, Mo.bnd, Mo.ret, Mo.lift, Mo.opd, RV.opd, Mo.set, RV.set, Mo.tst, Mo.imm, Mo.imms, Mo.nox, opds, OB.toD, atD, cmpD, binD, bltD, prepR, preps, storeR, storesR, nxOf, Mo.fl, isNon, tysD, tyD, intD, intsD, seqD, lstD, methD, isMut, mutD, callD, permL, bindT, slcD, startE, ioE, runD, hr, listRng_is]) ⟨rfl, by simp⟩ ?_)
          refine ex_cons (for_st (ds := (List.range ds.length).map fun (k : Nat) => D.int (0 + (k : Int))) (env1 := [.im (.tup ds), s1, .im (.lst (dI (lefts ds 0))), .un]) (by simp [ev, evA, evO, evC, evI, evF, exS, exB, Ms.seq, Mo.bnd, Mo.ret, Mo.lift, Mo.opd, RV.opd, Mo.set, RV.set, Mo.tst, Mo.imm, Mo.imms, Mo.nox, opds, OB.toD, atD, cmpD, binD, bltD, prepR, preps, storeR, storesR, nxOf, Mo.fl, isNon, tysD, tyD, intD, intsD, seqD, lstD, methD, isMut, mutD, callD, permL, bindT, slcD, startE, ioE, runD, hr]) ?_)
          refine for_go0 (fun i env => ∃ s1 s3, env = [.im (.tup ds), s1, .im (.lst (dI (lefts ds i))), s3]) ⟨_, _, rfl⟩ ?_ ?_
          · rintro i d env hdi ⟨s1, s3, rfl⟩
            refine ⟨[.im (.tup ds), s1, .im (.lst (dI (lefts ds i))), .im d], by simp [bindT], ?_⟩
            have sub : ∀ x ∈ lefts ds i, x < ds.length := fun x hx => by
              unfold lefts at hx
              simpa using (List.mem_filter.mp hx).1
            have len : (lefts ds i).length ≤ 1000 := by
              have := List.length_filter_le (fun x => (upE ds i (some x)).isSome) (List.range ds.length)
              unfold lefts
              simp only [List.length_range] at this
              omega
            refine ex_cons (asg_fi (cp_li_is fine hl len sub) ⟨rfl, by simp⟩ (ex_nil ?_))
            rw [lefts_succ fine]
            exact ⟨s1, _, rfl⟩
          · rintro env ⟨s1, s3, rfl⟩
            simp only [List.length_map, List.length_range]
            have q := eq_dI (lefts ds ds.length)
            rw [lefts_nil] at q
            refine ex_cons (ret_val (d := .bl (rooted2 ds)) (env1 := [.im (.tup ds), s1, .im (.lst (dI (lefts ds ds.length))), s3]) (by simp [ev, evA, evO, evC, evI, evF, exS, exB, Ms.seq, Mo.bnd, Mo.ret, Mo.lift, Mo.opd, RV.opd, Mo.set, RV.set, Mo.tst, Mo.imm, Mo.imms, Mo.nox, opds, OB.toD, atD, cmpD, binD, bltD, prepR, preps, storeR, storesR, nxOf, Mo.fl, isNon, tysD, tyD, intD, intsD, seqD, lstD, methD, isMut, mutD, callD, permL, bindT, slcD, startE, ioE, runD, q, LIM]) ⟨none, rfl, rfl, rfl⟩))
      rw [e, k1, k2]
  | _ => simp [ev, evA, evO, evC, evI, evF, exS, exB, Ms.seq, Mo.bnd, Mo.ret, Mo.lift, Mo.opd, RV.opd, Mo.set, RV.set, Mo.tst, Mo.imm, Mo.imms, Mo.nox, opds, OB.toD, atD, cmpD, binD, bltD, prepR, preps, storeR, storesR, nxOf, Mo.fl, isNon, tysD, tyD, intD, intsD, seqD, lstD, methD, isMut, mutD, callD, permL, bindT, slcD, startE, ioE, runD, f_law_is, isForest]
end HB

set_option Elab.async false
set_option linter.all false
set_option maxRecDepth 100000
set_option maxHeartbeats 4000000
/-! HBLib5: what can be shown; bent plans; a judging asked twice. -/
namespace HB
open PySem PySem.Spec PyProof.Rows L2

/-! ### the length of what is shown -/
theorem from_len : ∀ (ts : List Str) (k : Nat) (acc : Str), (textFrom k acc ts).length ≤ acc.length + piled ts
  | [], k, acc => by simp [textFrom, piled_nil]
  | t :: ts, k, acc => by
    have h := from_len ts (k + 1) (acc ++ (if k > 0 then ", " else "" : String) ++ t)
    have e : (acc ++ (if k > 0 then ", " else "" : String) ++ t).length ≤ acc.length + 2 + t.length := by
      rw [strLen_append, strLen_append]
      have : ((if k > 0 then ", " else "" : String) : Str).length ≤ 2 := by split <;> decide
      omega
    rw [piled_cons]
    unfold textFrom
    omega
theorem list_len (ts : List Str) : (listText ts).length ≤ piled ts + 2 := by
  unfold listText
  rw [strLen_append]
  have h := from_len ts 0 "["
  have e1 : (("[" : String) : Str).length = 1 := rfl
  have e2 : (("]" : String) : Str).length = 1 := rfl
  omega
theorem tuple_len (ts : List Str) : (tupleText ts).length ≤ piled ts + 3 := by
  unfold tupleText
  rw [strLen_append, strLen_append]
  have e1 : (("(" : String) : Str).length = 1 := rfl
  have e2 : ((if ts.length == 1 then ",)" else ")" : String) : Str).length ≤ 2 := by split <;> decide
  by_cases h : ts = []
  · subst h
    have : (Str.join ", " []).length = 0 := rfl
    rw [this]; omega
  · have := join_length_add ts h
    omega
theorem piled_le {c : Nat} : ∀ {ts : List Str}, (∀ t ∈ ts, t.length ≤ c) → piled ts ≤ (c + 2) * ts.length
  | [], _ => by simp [piled_nil]
  | t :: ts, h => by
    have h1 := h t List.mem_cons_self
    have h2 := piled_le (ts := ts) fun x hx => h x (List.mem_cons_of_mem _ hx)
    rw [piled_cons, List.length_cons, Nat.mul_succ]
    omega
/-- a thing that is small to show -/
def Small (d : D) : Prop := noFrz d = true ∧ reprOk d = true ∧ (toPy d).showable = true ∧ (toPy d).depth ≤ 2 ∧ (toPy d).shown.length ≤ 60
theorem small_non : Small .non := ⟨rfl, rfl, rfl, by decide, by decide⟩
theorem small_bl (b : Bool) : Small (.bl b) := by cases b <;> exact ⟨rfl, rfl, rfl, by decide, by decide⟩
theorem small_int {i : Int} (h : i.natAbs < 10 ^ 40) : Small (.int i) := by
  refine ⟨rfl, rfl, ?_, by simp [toPy, PyData.depth], ?_⟩
  · simp only [toPy, PyData.showable, decide_eq_true_eq]
    by_cases hz : i.natAbs = 0
    · rw [hz]; decide
    · rw [Nat.log2_lt hz]
      have : (10 : Nat) ^ 40 ≤ 2 ^ 1920 := by decide +kernel
      omega
  · have e := int_text_length_le10 (a := i) (k := 40) (by decide) h
    show (Str.ofString (toString i)).length ≤ 60
    rw [PySem.ofString_length]
    omega
theorem small_mem {ds : List D} (h : ∀ d ∈ ds, Small d) : reprOks ds = true ∧ PyData.showableAll (toPys ds) = true ∧ PyData.depthAll (toPys ds) ≤ 2 ∧ (∀ t ∈ PyData.shownAll (toPys ds), t.length ≤ 60) ∧ (PyData.shownAll (toPys ds)).length = ds.length := by
  induction ds with
  | nil => exact ⟨rfl, rfl, by decide, (fun t ht => by simp [toPys, PyData.shownAll] at ht), rfl⟩
  | cons d ds ih =>
    obtain ⟨h1, h2, h3, h4, h5⟩ := ih fun x hx => h x (List.mem_cons_of_mem _ hx)
    obtain ⟨k1, k2, k3, k4, k5⟩ := h d List.mem_cons_self
    refine ⟨by simp [reprOks, k2, h1], by simp [toPys, PyData.showableAll, k3, h2], by simp only [toPys, PyData.depthAll]; omega, fun t ht => ?_, by simp [toPys, PyData.shownAll, h5]⟩
    simp only [toPys, PyData.shownAll, List.mem_cons] at ht
    rcases ht with e | ht
    · subst e; exact k5
    · exact h4 t ht
theorem repr_tup {ds : List D} (h : ∀ d ∈ ds, Small d) (hl : ds.length ≤ 1000) : ∃ t, reprD (.tup ds) = some t := by
  obtain ⟨h1, h2, h3, h4, h5⟩ := small_mem h
  refine ⟨_, if_pos ?_⟩
  have p := piled_le h4
  have l := tuple_len (PyData.shownAll (toPys ds))
  rw [h5] at p
  simp only [Bool.and_eq_true, decide_eq_true_eq]
  refine ⟨⟨⟨h1, h2⟩, ?_⟩, ?_⟩
  · show PyData.depthAll (toPys ds) + 1 ≤ 64; omega
  · show (tupleText (PyData.shownAll (toPys ds))).length ≤ 100000; omega
theorem repr_lst {ds : List D} (h : ∀ d ∈ ds, Small d) (hl : ds.length ≤ 1000) : ∃ t, reprD (.lst ds) = some t := by
  obtain ⟨h1, h2, h3, h4, h5⟩ := small_mem h
  refine ⟨_, if_pos ?_⟩
  have p := piled_le h4
  have l := list_len (PyData.shownAll (toPys ds))
  rw [h5] at p
  simp only [Bool.and_eq_true, decide_eq_true_eq]
  refine ⟨⟨⟨h1, h2⟩, ?_⟩, ?_⟩
  · show PyData.depthAll (toPys ds) + 1 ≤ 64; omega
  · show (listText (PyData.shownAll (toPys ds))).length ≤ 100000; omega
theorem repr_small {d : D} (h : Small d) : ∃ t, reprD d = some t := by
  obtain ⟨k1, k2, k3, k4, k5⟩ := h
  refine ⟨_, if_pos ?_⟩
  simp only [Bool.and_eq_true, decide_eq_true_eq]
  exact ⟨⟨⟨k2, k3⟩, by omega⟩, by unfold LIM; omega⟩
/-! ### judged twice -/
def f_law_right (i_f i_l : Nat) : Df := ⟨1, 4, false, [.asg 1 false (.blt .repr (.cons (.var 0) .nil)), .asg 2 false (.lst (.cons (.call i_f false (.cons (.var 0) .nil)) (.cons (.callK i_f [0] (.cons (.var 0) .nil)) .nil))), .asg 3 false (.call i_l false (.cons (.var 0) .nil)), .ret (.and (.cmp .eq (.var 2) (.lst (.cons (.var 3) (.cons (.var 3) .nil)))) (.and (.isi (.idx (.var 2) (.cst (.int 0))) [.bool]) (.cmp .eq (.blt .repr (.cons (.var 0) .nil)) (.var 1))))]⟩
theorem eq_bls (a : Bool) : eqD (.lst [.bl a, .bl a]) (.lst [.bl a, .bl a]) = some true := by cases a <;> decide +kernel
theorem right_ok {Φ : Fn} {wn i_f i_l : Nat} {d : D} {b : Bool} {t : Str} (h1 : Φ i_f none [d] = some (.ok (.val (.bl b)) none)) (h2 : Φ i_l none [d] = some (.ok (.val (.bl b)) none)) (hr : reprD d = some t) : runD Φ wn (f_law_right i_f i_l) none [d] = some (.ok (.val (.bl true)) none) := by
  have e := eq_bls b
  have e2 : eqD (.str t) (.str t) = some true := by simp [eqD]
  simp [ev, evA, evO, evC, evI, evF, exS, exB, Ms.seq, Mo.bnd, Mo.ret, Mo.lift, Mo.opd, RV.opd, Mo.set, RV.set, Mo.tst, Mo.imm, Mo.imms, Mo.nox, opds, OB.toD, atD, cmpD, binD, bltD, prepR, preps, storeR, storesR, nxOf, Mo.fl, isNon, tysD, tyD, intD, intsD, seqD, lstD, methD, isMut, mutD, callD, permL, bindT, slcD, startE, ioE, runD, f_law_right, h1, h2, hr, e, e2, LIM]
end HB

set_option Elab.async false
set_option linter.all false
set_option maxRecDepth 100000
set_option maxHeartbeats 4000000
/-! HBLib6: bent plans. -/
namespace HB
open PySem PySem.Spec PyProof.Rows L2

theorem cut_mem {ds : List D} {lo hi : Option Int} {d : D} (h : d ∈ cutD ds lo hi) : d ∈ ds := List.mem_of_mem_drop (List.mem_of_mem_take h)
theorem cut_len (ds : List D) (lo hi : Option Int) : (cutD ds lo hi).length ≤ ds.length := by
  unfold cutD
  rw [List.length_take, List.length_drop]
  omega
theorem at_some {ds : List D} {i : Int} (h0 : 0 ≤ i) (h1 : i < (ds.length : Int)) : ∃ x, L2.atI ds i = some x ∧ x ∈ ds := by
  obtain ⟨k, rfl⟩ := Int.eq_ofNat_of_zero_le h0
  have hk : k < ds.length := by omega
  exact ⟨ds[k], by rw [atI_nat]; simp [hk], List.getElem_mem hk⟩
def oddD (n : Nat) (s : Int) : List D := [.non, .int (-1), .int (n : Int), .bl true, .bl false, .str ("0" : PySem.Str), .tup [.int 0], .lst [.int 0], .int (10 ^ 39), .int s, .str ("" : PySem.Str), .dK [] []]
theorem odd_small {n : Nat} {s : Int} (hn : n ≤ 1000) (h0 : 0 ≤ s) (h1 : s < 10 ^ 20) : ∀ d ∈ oddD n s, Small d := by
  intro d hd
  simp only [oddD, List.mem_cons, List.not_mem_nil, or_false] at hd
  rcases hd with rfl | rfl | rfl | rfl | rfl | rfl | rfl | rfl | rfl | rfl | rfl | rfl
  · exact small_non
  · exact small_int (by decide)
  · exact small_int (by omega)
  · exact small_bl _
  · exact small_bl _
  · exact ⟨rfl, rfl, rfl, by decide, by decide +kernel⟩
  · exact ⟨rfl, rfl, by decide +kernel, by decide, by decide +kernel⟩
  · exact ⟨rfl, rfl, by decide +kernel, by decide, by decide +kernel⟩
  · exact small_int (by decide +kernel)
  · exact small_int (by omega)
  · exact ⟨rfl, rfl, rfl, by decide, by decide +kernel⟩
  · exact ⟨rfl, rfl, rfl, by decide, by decide +kernel⟩
def bt_0 (i : Nat) : IE := .bin .add (.bin .add (.slc (.var 1) .no (.yes (.var 2))) (.tup (.cons (.idx (.var 3) (.call i true (.cons (.var 0) (.cons (.cst (.int 12)) .nil)))) .nil))) (.slc (.var 1) (.yes (.bin .add (.var 2) (.cst (.int 1)))) .no)
def bt_1 (i : Nat) : IE := .bin .add (.bin .add (.slc (.var 1) .no (.yes (.var 2))) (.tup (.cons (.call i true (.cons (.var 0) (.cons (.blt .len (.cons (.var 1) .nil)) .nil))) .nil))) (.slc (.var 1) (.yes (.bin .add (.var 2) (.cst (.int 1)))) .no)
def bt_2 : IE := .bin .add (.slc (.var 1) .no (.yes (.var 2))) (.slc (.var 1) (.yes (.bin .add (.var 2) (.cst (.int 1)))) .no)
def bt_3 : IE := .bin .add (.slc (.var 1) (.yes (.var 2)) .no) (.slc (.var 1) .no (.yes (.var 2)))
def bt_o : IE := .lst (.cons (.cst .non) (.cons (.neg (.cst (.int 1))) (.cons (.blt .len (.cons (.var 1) .nil)) (.cons (.cst (.bl true)) (.cons (.cst (.bl false)) (.cons (.cst (.str ("0" : PySem.Str))) (.cons (.tup (.cons (.cst (.int 0)) .nil)) (.cons (.lst (.cons (.cst (.int 0)) .nil)) (.cons (.bin .pow (.cst (.int 10)) (.cst (.int 39))) (.cons (.var 2) (.cons (.cst (.str ("" : PySem.Str))) (.cons .dct0 .nil))))))))))))
def f_law_bent (i : Nat) : Df := ⟨2, 5, true, [.asg 2 false (.call i true (.cons (.var 0) (.cons (.blt .len (.cons (.var 1) .nil)) .nil))), .asg 3 false bt_o, .asg 4 false (.call i true (.cons (.var 0) (.cons (.cst (.int 4)) .nil))), .if_ (.cmp .eq (.var 4) (.cst (.int 0))) [.ret (bt_0 i)] [], .if_ (.cmp .eq (.var 4) (.cst (.int 1))) [.ret (bt_1 i)] [], .if_ (.cmp .eq (.var 4) (.cst (.int 2))) [.ret bt_2] [], .ret bt_3]⟩
theorem eq_int (a b : Int) : eqD (.int a) (.int b) = some (a == b) := by simp [eqD]
theorem bent_ok {Φ : Fn} {wn i : Nat} (hD : DrawOk (Φ i)) {n : Nat} {o : OB} {ds : List D} (hw : Well n o) (hn : n ≤ 900000) (hs : ∀ d ∈ ds, Small d) (h0 : 0 < ds.length) (hl : ds.length ≤ 500) :
    ∃ ds' o', runD Φ wn (f_law_bent i) (some o) [.tup ds] = some (.ok (.val (.tup ds')) (some o')) ∧ (∀ d ∈ ds', Small d) ∧ ds'.length ≤ 2 * ds.length + 1 ∧ Well (n + 3) o' := by
  obtain ⟨s, o1, e1, s0, s1, w1⟩ := hD n o (ds.length : Int) hw (by omega) (by omega) (by
    have : (1000 : Int) < 2 ^ 1000 := by decide +kernel
    omega)
  obtain ⟨y, o2, e2, y0, y1, w2⟩ := hD (n + 1) o1 4 w1 (by omega) (by decide) (by decide +kernel)
  have ho := odd_small (n := ds.length) (s := s) (by omega) s0 (by omega)
  have main : ∃ r q, runD Φ wn (f_law_bent i) (some o) [.tup ds] = some (.ok r q) ∧ ∃ ds' o', r = .val (.tup ds') ∧ q = some o' ∧ (∀ d ∈ ds', Small d) ∧ ds'.length ≤ 2 * ds.length + 1 ∧ Well (n + 3) o' := by
    refine run_go (env := [.ow o, .im (.tup ds), .un, .un, .un]) rfl ?_
    refine ex_cons (asg_val (d := .int s) (env1 := [.ow o1, .im (.tup ds), .un, .un, .un]) (by simp [ev, evA, evO, evC, evI, evF, exS, exB, Ms.seq, Mo.bnd, Mo.ret, Mo.lift, Mo.opd, RV.opd, Mo.set, RV.set, Mo.tst, Mo.imm, Mo.imms, Mo.nox, opds, OB.toD, atD, cmpD, binD, bltD, prepR, preps, storeR, storesR, nxOf, Mo.fl, isNon, tysD, tyD, intD, intsD, seqD, lstD, methD, isMut, mutD, callD, permL, bindT, slcD, startE, ioE, runD, e1]) ⟨rfl, by simp⟩ ?_)
    refine ex_cons (asg_fi (o := .lst (oddD ds.length s)) (env1 := [.ow o1, .im (.tup ds), .im (.int s), .un, .un]) (by simp [ev, evA, evO, evC, evI, evF, exS, exB, Ms.seq, Mo.bnd, Mo.ret, Mo.lift, Mo.opd, RV.opd, Mo.set, RV.set, Mo.tst, Mo.imm, Mo.imms, Mo.nox, opds, OB.toD, atD, cmpD, binD, bltD, prepR, preps, storeR, storesR, nxOf, Mo.fl, isNon, tysD, tyD, intD, intsD, seqD, lstD, methD, isMut, mutD, callD, permL, bindT, slcD, startE, ioE, runD, bt_o, oddD, LIM, bits_10]) ⟨rfl, by simp⟩ ?_)
    refine ex_cons (asg_val (d := .int y) (env1 := [.ow o2, .im (.tup ds), .im (.int s), .im (.lst (oddD ds.length s)), .un]) (by simp [ev, evA, evO, evC, evI, evF, exS, exB, Ms.seq, Mo.bnd, Mo.ret, Mo.lift, Mo.opd, RV.opd, Mo.set, RV.set, Mo.tst, Mo.imm, Mo.imms, Mo.nox, opds, OB.toD, atD, cmpD, binD, bltD, prepR, preps, storeR, storesR, nxOf, Mo.fl, isNon, tysD, tyD, intD, intsD, seqD, lstD, methD, isMut, mutD, callD, permL, bindT, slcD, startE, ioE, runD, e2]) ⟨rfl, by simp⟩ ?_)
    have c1 := cut_len ds none (some s)
    have c2 := cut_len ds (some (s + 1)) none
    have c3 := cut_len ds (some s) none
    have k1 : ∀ d ∈ cutD ds none (some s), Small d := fun d hd => hs d (cut_mem hd)
    have k2 : ∀ d ∈ cutD ds (some (s + 1)) none, Small d := fun d hd => hs d (cut_mem hd)
    have k3 : ∀ d ∈ cutD ds (some s) none, Small d := fun d hd => hs d (cut_mem hd)
    generalize hc1 : cutD ds none (some s) = C1 at c1 k1
    generalize hc2 : cutD ds (some (s + 1)) none = C2 at c2 k2
    generalize hc3 : cutD ds (some s) none = C3 at c3 k3
    have l1 : C1.length + 1 ≤ 100000 := by omega
    have l2 : C1.length + (1 + C2.length) ≤ 100000 := by omega
    have l3 : C1.length + C2.length ≤ 100000 := by omega
    have l4 : C3.length + C1.length ≤ 100000 := by omega
    have l5 : C1.length + 1 + C2.length ≤ 100000 := by omega
    by_cases y_0 : y = 0
    · subst y_0
      obtain ⟨z, o3, e3, z0, z1, w3⟩ := hD (n + 1 + 1) o2 12 w2 (by omega) (by decide) (by decide +kernel)
      obtain ⟨x, hx, mx⟩ := at_some (ds := oddD ds.length s) z0 (by simpa [oddD] using z1)
      refine ex_cons (if_go (b := true) (env1 := [.ow o2, .im (.tup ds), .im (.int s), .im (.lst (oddD ds.length s)), .im (.int 0)]) (by simp [ev, evA, evO, evC, evI, evF, exS, exB, Ms.seq, Mo.bnd, Mo.ret, Mo.lift, Mo.opd, RV.opd, Mo.set, RV.set, Mo.tst, Mo.imm, Mo.imms, Mo.nox, opds, OB.toD, atD, cmpD, binD, bltD, prepR, preps, storeR, storesR, nxOf, Mo.fl, isNon, tysD, tyD, intD, intsD, seqD, lstD, methD, isMut, mutD, callD, permL, bindT, slcD, startE, ioE, runD, eq_int]) ?_)
      rw [if_pos rfl]
      refine ex_cons (ret_val (d := .tup (C1 ++ [x] ++ C2)) (env1 := [.ow o3, .im (.tup ds), .im (.int s), .im (.lst (oddD ds.length s)), .im (.int 0)]) (by simp [ev, evA, evO, evC, evI, evF, exS, exB, Ms.seq, Mo.bnd, Mo.ret, Mo.lift, Mo.opd, RV.opd, Mo.set, RV.set, Mo.tst, Mo.imm, Mo.imms, Mo.nox, opds, OB.toD, atD, cmpD, binD, bltD, prepR, preps, storeR, storesR, nxOf, Mo.fl, isNon, tysD, tyD, intD, intsD, seqD, lstD, methD, isMut, mutD, callD, permL, bindT, slcD, startE, ioE, runD, bt_0, e3, hx, hc1, hc2, l1, l2, l5, LIM]) ⟨some o3, rfl, _, o3, rfl, rfl, fun d hd => ?_, by simp; omega, w3⟩)
      simp only [List.mem_append, List.mem_singleton] at hd
      rcases hd with (hd | hd) | hd
      · exact k1 d hd
      · subst hd; exact ho _ mx
      · exact k2 d hd
    · refine ex_cons (if_go (b := false) (env1 := [.ow o2, .im (.tup ds), .im (.int s), .im (.lst (oddD ds.length s)), .im (.int y)]) (by simp [ev, evA, evO, evC, evI, evF, exS, exB, Ms.seq, Mo.bnd, Mo.ret, Mo.lift, Mo.opd, RV.opd, Mo.set, RV.set, Mo.tst, Mo.imm, Mo.imms, Mo.nox, opds, OB.toD, atD, cmpD, binD, bltD, prepR, preps, storeR, storesR, nxOf, Mo.fl, isNon, tysD, tyD, intD, intsD, seqD, lstD, methD, isMut, mutD, callD, permL, bindT, slcD, startE, ioE, runD, eq_int, y_0]) ?_)
      rw [if_neg Bool.false_ne_true]
      refine ex_nil ?_
      by_cases y_1 : y = 1
      · subst y_1
        obtain ⟨z, o3, e3, z0, z1, w3⟩ := hD (n + 1 + 1) o2 (ds.length : Int) w2 (by omega) (by omega) (by
          have : (1000 : Int) < 2 ^ 1000 := by decide +kernel
          omega)
        refine ex_cons (if_go (b := true) (env1 := [.ow o2, .im (.tup ds), .im (.int s), .im (.lst (oddD ds.length s)), .im (.int 1)]) (by simp [ev, evA, evO, evC, evI, evF, exS, exB, Ms.seq, Mo.bnd, Mo.ret, Mo.lift, Mo.opd, RV.opd, Mo.set, RV.set, Mo.tst, Mo.imm, Mo.imms, Mo.nox, opds, OB.toD, atD, cmpD, binD, bltD, prepR, preps, storeR, storesR, nxOf, Mo.fl, isNon, tysD, tyD, intD, intsD, seqD, lstD, methD, isMut, mutD, callD, permL, bindT, slcD, startE, ioE, runD, eq_int]) ?_)
        rw [if_pos rfl]
        refine ex_cons (ret_val (d := .tup (C1 ++ [.int z] ++ C2)) (env1 := [.ow o3, .im (.tup ds), .im (.int s), .im (.lst (oddD ds.length s)), .im (.int 1)]) (by simp [ev, evA, evO, evC, evI, evF, exS, exB, Ms.seq, Mo.bnd, Mo.ret, Mo.lift, Mo.opd, RV.opd, Mo.set, RV.set, Mo.tst, Mo.imm, Mo.imms, Mo.nox, opds, OB.toD, atD, cmpD, binD, bltD, prepR, preps, storeR, storesR, nxOf, Mo.fl, isNon, tysD, tyD, intD, intsD, seqD, lstD, methD, isMut, mutD, callD, permL, bindT, slcD, startE, ioE, runD, bt_1, e3, hc1, hc2, l1, l2, l5, LIM]) ⟨some o3, rfl, _, o3, rfl, rfl, fun d hd => ?_, by simp; omega, w3⟩)
        simp only [List.mem_append, List.mem_singleton] at hd
        rcases hd with (hd | hd) | hd
        · exact k1 d hd
        · subst hd; exact small_int (by omega)
        · exact k2 d hd
      · refine ex_cons (if_go (b := false) (env1 := [.ow o2, .im (.tup ds), .im (.int s), .im (.lst (oddD ds.length s)), .im (.int y)]) (by simp [ev, evA, evO, evC, evI, evF, exS, exB, Ms.seq, Mo.bnd, Mo.ret, Mo.lift, Mo.opd, RV.opd, Mo.set, RV.set, Mo.tst, Mo.imm, Mo.imms, Mo.nox, opds, OB.toD, atD, cmpD, binD, bltD, prepR, preps, storeR, storesR, nxOf, Mo.fl, isNon, tysD, tyD, intD, intsD, seqD, lstD, methD, isMut, mutD, callD, permL, bindT, slcD, startE, ioE, runD, eq_int, y_1]) ?_)
        rw [if_neg Bool.false_ne_true]
        refine ex_nil ?_
        by_cases y_2 : y = 2
        · subst y_2
          refine ex_cons (if_go (b := true) (env1 := [.ow o2, .im (.tup ds), .im (.int s), .im (.lst (oddD ds.length s)), .im (.int 2)]) (by simp [ev, evA, evO, evC, evI, evF, exS, exB, Ms.seq, Mo.bnd, Mo.ret, Mo.lift, Mo.opd, RV.opd, Mo.set, RV.set, Mo.tst, Mo.imm, Mo.imms, Mo.nox, opds, OB.toD, atD, cmpD, binD, bltD, prepR, preps, storeR, storesR, nxOf, Mo.fl, isNon, tysD, tyD, intD, intsD, seqD, lstD, methD, isMut, mutD, callD, permL, bindT, slcD, startE, ioE, runD, eq_int]) ?_)
          rw [if_pos rfl]
          refine ex_cons (ret_val (d := .tup (C1 ++ C2)) (env1 := [.ow o2, .im (.tup ds), .im (.int s), .im (.lst (oddD ds.length s)), .im (.int 2)]) (by simp [ev, evA, evO, evC, evI, evF, exS, exB, Ms.seq, Mo.bnd, Mo.ret, Mo.lift, Mo.opd, RV.opd, Mo.set, RV.set, Mo.tst, Mo.imm, Mo.imms, Mo.nox, opds, OB.toD, atD, cmpD, binD, bltD, prepR, preps, storeR, storesR, nxOf, Mo.fl, isNon, tysD, tyD, intD, intsD, seqD, lstD, methD, isMut, mutD, callD, permL, bindT, slcD, startE, ioE, runD, bt_2, hc1, hc2, l3, LIM]) ⟨some o2, rfl, _, o2, rfl, rfl, fun d hd => ?_, by simp; omega, w2.mono (by omega)⟩)
          simp only [List.mem_append] at hd
          rcases hd with hd | hd
          · exact k1 d hd
          · exact k2 d hd
        · refine ex_cons (if_go (b := false) (env1 := [.ow o2, .im (.tup ds), .im (.int s), .im (.lst (oddD ds.length s)), .im (.int y)]) (by simp [ev, evA, evO, evC, evI, evF, exS, exB, Ms.seq, Mo.bnd, Mo.ret, Mo.lift, Mo.opd, RV.opd, Mo.set, RV.set, Mo.tst, Mo.imm, Mo.imms, Mo.nox, opds, OB.toD, atD, cmpD, binD, bltD, prepR, preps, storeR, storesR, nxOf, Mo.fl, isNon, tysD, tyD, intD, intsD, seqD, lstD, methD, isMut, mutD, callD, permL, bindT, slcD, startE, ioE, runD, eq_int, y_2]) ?_)
          rw [if_neg Bool.false_ne_true]
          refine ex_nil ?_
          refine ex_cons (ret_val (d := .tup (C3 ++ C1)) (env1 := [.ow o2, .im (.tup ds), .im (.int s), .im (.lst (oddD ds.length s)), .im (.int y)]) (by simp [ev, evA, evO, evC, evI, evF, exS, exB, Ms.seq, Mo.bnd, Mo.ret, Mo.lift, Mo.opd, RV.opd, Mo.set, RV.set, Mo.tst, Mo.imm, Mo.imms, Mo.nox, opds, OB.toD, atD, cmpD, binD, bltD, prepR, preps, storeR, storesR, nxOf, Mo.fl, isNon, tysD, tyD, intD, intsD, seqD, lstD, methD, isMut, mutD, callD, permL, bindT, slcD, startE, ioE, runD, bt_3, hc1, hc3, l4, LIM]) ⟨some o2, rfl, _, o2, rfl, rfl, fun d hd => ?_, by simp; omega, w2.mono (by omega)⟩)
          simp only [List.mem_append] at hd
          rcases hd with hd | hd
          · exact k3 d hd
          · exact k1 d hd
  obtain ⟨r, q, e, ds', o', rfl, rfl, h1, h2, h3⟩ := main
  exact ⟨ds', o', e, h1, h2, h3⟩
end HB

set_option Elab.async false
set_option linter.all false
set_option maxRecDepth 100000
set_option maxHeartbeats 4000000
/-! HBLib7: drawn plans. -/
namespace HB
open PySem PySem.Spec PyProof.Rows L2

theorem pick_perm {α : Type} : ∀ {l : List α} {i : Nat} (h : i < l.length), (l[i] :: l.eraseIdx i).Perm l
  | x :: l, 0, _ => .refl _
  | x :: l, i + 1, h => by
    have hi : i < l.length := by simpa using h
    have ih := pick_perm (l := l) (i := i) hi
    exact (List.Perm.swap x l[i] (l.eraseIdx i)).trans (List.Perm.cons x ih)
/-- nothing, or a place ahead of k -/
def LowV (k : Nat) (d : D) : Prop := d = .non ∨ ∃ p : Nat, d = .int (p : Int) ∧ p < k
def Low (F : List D) : Prop := ∀ (j : Nat) (d : D), F[j]? = some d → LowV j d
theorem low_app {F : List D} {d : D} (h : Low F) (k : LowV F.length d) : Low (F ++ [d]) := by
  intro j e he
  by_cases hj : j < F.length
  · rw [List.getElem?_append_left hj] at he
    exact h j e he
  · rw [List.getElem?_append_right (by omega)] at he
    have hj2 : j - F.length < 1 := by have := lt_of_get he; simpa using this
    have : j = F.length := by omega
    subst this
    simp at he
    subst he
    exact k
theorem low_fine {F : List D} (h : Low F) : Fine F := by
  intro d hd
  obtain ⟨j, hj, e⟩ := List.mem_iff_getElem.mp hd
  rcases h j d (by rw [List.getElem?_eq_getElem hj, e]) with z | ⟨p, z, hp⟩
  · exact .inl z
  · exact .inr ⟨p, z, by omega⟩
theorem low_forest {F : List D} (h : Low F) (ne : F ≠ []) : isForest (.tup F) = true := by
  refine rank_forest (low_fine h) ne id (fun x hx => hx) fun x y hx e => ?_
  have g := get_par (low_fine h) hx
  rw [e] at g
  rcases h x _ g with z | ⟨p, z, hp⟩
  · cases z
  · simp only [hereD] at z
    cases z
    show y < x
    omega
def pl_e1 (i : Nat) : IE := .ite (.cmp .gt (.var 5) (.cst (.int 0))) (.idx (.lst (.cons (.cst .non) (.cons (.bin .sub (.var 5) (.cst (.int 1))) (.cons (.call i true (.cons (.var 0) (.cons (.blt .max2 (.cons (.cst (.int 1)) (.cons (.var 5) .nil))) .nil))) .nil)))) (.call i true (.cons (.var 0) (.cons (.cst (.int 3)) .nil)))) (.cst .non)
def pl_e2 (i : Nat) : IE := .idx (.lst (.cons (.bin .sub (.var 5) (.cst (.int 1))) (.cons (.blt .max2 (.cons (.cst (.int 0)) (.cons (.bin .sub (.var 5) (.cst (.int 2))) .nil))) .nil))) (.call i true (.cons (.var 0) (.cons (.cst (.int 2)) .nil)))
def pl_e3 (i : Nat) : IE := .idx (.lst (.cons (.cst (.int 0)) (.cons (.cst (.int 0)) (.cons (.cst .non) (.cons (.call i true (.cons (.var 0) (.cons (.var 5) .nil))) .nil))))) (.call i true (.cons (.var 0) (.cons (.cst (.int 4)) .nil)))
def pl_t1 (i : Nat) : List IS := [.asg 6 false (pl_e1 i), .if_ (.and (.cmp .gt (.var 5) (.cst (.int 0))) (.cmp .eq (.var 3) (.cst (.int 0)))) [.asg 6 false (pl_e2 i)] [], .if_ (.and (.cmp .gt (.var 5) (.cst (.int 0))) (.cmp .eq (.var 3) (.cst (.int 1)))) [.asg 6 false (pl_e3 i)] [], .expr (.meth .append (.var 4) (.cons (.var 6) .nil))]
def pl_t2 (i : Nat) : List IS := [.expr (.meth .append (.var 7) (.cons (.meth .popAt (.var 8) (.cons (.call i true (.cons (.var 0) (.cons (.blt .len (.cons (.var 8) .nil)) .nil))) .nil)) .nil))]
def pl_t3 : List IS := [.setI (.var 9) (.idx (.var 7) (.var 5)) (.ite (.cmp .is (.idx (.var 4) (.var 5)) (.cst .non)) (.cst .non) (.idx (.var 7) (.idx (.var 4) (.var 5))))]
def f_law_forest (i : Nat) : Df := ⟨2, 10, true, [.asg 2 false (.bin .add (.cst (.int 1)) (.call i true (.cons (.var 0) (.cons (.var 1) .nil)))), .asg 3 false (.call i true (.cons (.var 0) (.cons (.cst (.int 4)) .nil))), .asg 4 true (.lst .nil), .for_ [5] (.rng1 (.var 2)) (pl_t1 i), .if_ (.cmp .eq (.call i true (.cons (.var 0) (.cons (.cst (.int 3)) .nil))) (.cst (.int 0))) [.ret (.blt .tuple (.cons (.var 4) .nil))] [], .asgN [7, 8] [true, true] (.cons (.lst .nil) (.cons (.blt .listRng (.cons (.var 2) .nil)) .nil)), .for_ [5] (.rng1 (.var 2)) (pl_t2 i), .asg 9 true (.bin .mul (.lst (.cons (.cst .non) .nil)) (.var 2)), .for_ [5] (.rng1 (.var 2)) pl_t3, .ret (.blt .tuple (.cons (.var 9) .nil))]⟩
section
variable {Φ : Fn} {wn i : Nat} {n : Nat} {o : OB}
theorem one_lt (k : Nat) (hk : k ≤ 1000) : (k : Int) < 2 ^ 1000 := by
  have : (1001 : Int) < 2 ^ 1000 := by decide +kernel
  omega
theorem e1_ok (hD : DrawOk (Φ i)) (hw : Well n o) (hn : n ≤ 900000) {k : Nat} (hk : k ≤ 100) {a1 a2 a3 a4 a6 a7 a8 a9 : Sl} : ∃ v o', ev Φ (pl_e1 i) [.ow o, a1, a2, a3, a4, .im (.int (k : Int)), a6, a7, a8, a9] = some (.ok (.val v) [.ow o', a1, a2, a3, a4, .im (.int (k : Int)), a6, a7, a8, a9]) ∧ LowV k v ∧ Well (n + 2) o' := by
  by_cases h0 : 0 < k
  · obtain ⟨d, o1, e1, d0, d1, w1⟩ := hD n o (k : Int) hw (by omega) (by omega) (one_lt k (by omega))
    obtain ⟨y, o2, e2, y0, y1, w2⟩ := hD (n + 1) o1 3 w1 (by omega) (by decide) (by decide +kernel)
    have hmax : (if 1 < (k : Int) then (k : Int) else 1) = (k : Int) := by split <;> omega
    obtain ⟨x, hx, mx⟩ := at_some (ds := [.non, .int ((k : Int) - 1), .int d]) y0 (by simpa using y1)
    have h0' : (0 : Int) < (k : Int) := by omega
    refine ⟨x, o2, by simp [ev, evA, evO, evC, evI, evF, exS, exB, Ms.seq, Mo.bnd, Mo.ret, Mo.lift, Mo.opd, RV.opd, Mo.set, RV.set, Mo.tst, Mo.imm, Mo.imms, Mo.nox, opds, OB.toD, atD, cmpD, binD, bltD, prepR, preps, storeR, storesR, nxOf, Mo.fl, isNon, tysD, tyD, intD, intsD, seqD, lstD, methD, isMut, mutD, callD, permL, bindT, slcD, startE, ioE, runD, pl_e1, h0', hmax, e1, e2, hx, LIM, h0], ?_, w2⟩
    simp only [List.mem_cons, List.not_mem_nil, or_false] at mx
    rcases mx with rfl | rfl | rfl
    · exact .inl rfl
    · exact .inr ⟨k - 1, by congr 1; omega, by omega⟩
    · exact .inr ⟨d.toNat, by congr 1; omega, by omega⟩
  · have : k = 0 := by omega
    subst this
    exact ⟨.non, o, by simp [ev, evA, evO, evC, evI, evF, exS, exB, Ms.seq, Mo.bnd, Mo.ret, Mo.lift, Mo.opd, RV.opd, Mo.set, RV.set, Mo.tst, Mo.imm, Mo.imms, Mo.nox, opds, OB.toD, atD, cmpD, binD, bltD, prepR, preps, storeR, storesR, nxOf, Mo.fl, isNon, tysD, tyD, intD, intsD, seqD, lstD, methD, isMut, mutD, callD, permL, bindT, slcD, startE, ioE, runD, pl_e1], .inl rfl, hw.mono (by omega)⟩
theorem e2_ok (hD : DrawOk (Φ i)) (hw : Well n o) (hn : n ≤ 900000) {k : Nat} (hk : k ≤ 100) (h0 : 0 < k) {a1 a2 a3 a4 a6 a7 a8 a9 : Sl} : ∃ v o', ev Φ (pl_e2 i) [.ow o, a1, a2, a3, a4, .im (.int (k : Int)), a6, a7, a8, a9] = some (.ok (.val v) [.ow o', a1, a2, a3, a4, .im (.int (k : Int)), a6, a7, a8, a9]) ∧ LowV k v ∧ Well (n + 1) o' := by
  obtain ⟨y, o2, e2, y0, y1, w2⟩ := hD n o 2 hw (by omega) (by decide) (by decide +kernel)
  obtain ⟨x, hx, mx⟩ := at_some (ds := [.int ((k : Int) - 1), .int (if (0 : Int) < (k : Int) - 2 then (k : Int) - 2 else 0)]) y0 (by simpa using y1)
  simp at hx
  refine ⟨x, o2, by simp [ev, evA, evO, evC, evI, evF, exS, exB, Ms.seq, Mo.bnd, Mo.ret, Mo.lift, Mo.opd, RV.opd, Mo.set, RV.set, Mo.tst, Mo.imm, Mo.imms, Mo.nox, opds, OB.toD, atD, cmpD, binD, bltD, prepR, preps, storeR, storesR, nxOf, Mo.fl, isNon, tysD, tyD, intD, intsD, seqD, lstD, methD, isMut, mutD, callD, permL, bindT, slcD, startE, ioE, runD, pl_e2, e2, hx, LIM], ?_, w2⟩
  simp only [List.mem_cons, List.not_mem_nil, or_false] at mx
  rcases mx with rfl | rfl
  · exact .inr ⟨k - 1, by congr 1; omega, by omega⟩
  · refine .inr ⟨k - 2, ?_, by omega⟩
    congr 1
    split <;> omega
theorem e3_ok (hD : DrawOk (Φ i)) (hw : Well n o) (hn : n ≤ 900000) {k : Nat} (hk : k ≤ 100) (h0 : 0 < k) {a1 a2 a3 a4 a6 a7 a8 a9 : Sl} : ∃ v o', ev Φ (pl_e3 i) [.ow o, a1, a2, a3, a4, .im (.int (k : Int)), a6, a7, a8, a9] = some (.ok (.val v) [.ow o', a1, a2, a3, a4, .im (.int (k : Int)), a6, a7, a8, a9]) ∧ LowV k v ∧ Well (n + 2) o' := by
  obtain ⟨d, o1, e1, d0, d1, w1⟩ := hD n o (k : Int) hw (by omega) (by omega) (one_lt k (by omega))
  obtain ⟨y, o2, e2, y0, y1, w2⟩ := hD (n + 1) o1 4 w1 (by omega) (by decide) (by decide +kernel)
  obtain ⟨x, hx, mx⟩ := at_some (ds := [.int 0, .int 0, .non, .int d]) y0 (by simpa using y1)
  refine ⟨x, o2, by simp [ev, evA, evO, evC, evI, evF, exS, exB, Ms.seq, Mo.bnd, Mo.ret, Mo.lift, Mo.opd, RV.opd, Mo.set, RV.set, Mo.tst, Mo.imm, Mo.imms, Mo.nox, opds, OB.toD, atD, cmpD, binD, bltD, prepR, preps, storeR, storesR, nxOf, Mo.fl, isNon, tysD, tyD, intD, intsD, seqD, lstD, methD, isMut, mutD, callD, permL, bindT, slcD, startE, ioE, runD, pl_e3, e1, e2, hx, LIM], ?_, w2⟩
  simp only [List.mem_cons, List.not_mem_nil, or_false] at mx
  rcases mx with rfl | rfl | rfl | rfl
  · exact .inr ⟨0, rfl, h0⟩
  · exact .inr ⟨0, rfl, h0⟩
  · exact .inl rfl
  · exact .inr ⟨d.toNat, by congr 1; omega, by omega⟩
end
end HB

set_option Elab.async false
set_option linter.all false
set_option maxRecDepth 100000
set_option maxHeartbeats 4000000
/-! HBLib8: drawn plans, whole. -/
namespace HB
open PySem PySem.Spec PyProof.Rows L2

theorem erase_map {α β : Type} (f : α → β) : ∀ (l : List α) (i : Nat), (l.map f).eraseIdx i = (l.eraseIdx i).map f
  | [], _ => rfl
  | x :: l, 0 => rfl
  | x :: l, i + 1 => by
    show f x :: (l.map f).eraseIdx i = f x :: (l.eraseIdx i).map f
    rw [erase_map f l i]
section
variable {Φ : Fn} {wn i : Nat} {n : Nat} {o : OB}
theorem t1_ok (hD : DrawOk (Φ i)) (hw : Well n o) (hn : n ≤ 800000) {k : Nat} (hk : k ≤ 100) {F : List D} (hF : F.length ≤ 1000) {dm ds : D} {way : Int} {a6 : Sl} {N C Bk : Evn → Prop} {R : RV → Evn → Prop}
    (q : ∀ o' v a, LowV k v → Well (n + 5) o' → N [.ow o', .im dm, .im ds, .im (.int way), .ow (.lst (F ++ [v])), .im (.int (k : Int)), a, .un, .un, .un]) :
    GoX N C Bk R (exB Φ wn true (pl_t1 i) [.ow o, .im dm, .im ds, .im (.int way), .ow (.lst F), .im (.int (k : Int)), a6, .un, .un, .un]) := by
  obtain ⟨v, o1, e1, l1, w1⟩ := e1_ok (i := i) hD hw (by omega) hk (a1 := .im dm) (a2 := .im ds) (a3 := .im (.int way)) (a4 := .ow (.lst F)) (a6 := a6) (a7 := .un) (a8 := .un) (a9 := .un)
  have lim : F.length < LIM := by unfold LIM; omega
  have last : ∀ o' v a, LowV k v → Well (n + 5) o' → a = Sl.im v → GoX N C Bk R (exB Φ wn true [.expr (.meth .append (.var 4) (.cons (.var 6) .nil))] [.ow o', .im dm, .im ds, .im (.int way), .ow (.lst F), .im (.int (k : Int)), a, .un, .un, .un]) := fun o' v a lv w ea => by
    subst ea
    exact ex_cons (expr_go (r := .val .non) (env1 := [.ow o', .im dm, .im ds, .im (.int way), .ow (.lst (F ++ [v])), .im (.int (k : Int)), .im v, .un, .un, .un]) (by simp [ev, evA, evO, evC, evI, evF, exS, exB, Ms.seq, Mo.bnd, Mo.ret, Mo.lift, Mo.opd, RV.opd, Mo.set, RV.set, Mo.tst, Mo.imm, Mo.imms, Mo.nox, opds, OB.toD, atD, cmpD, binD, bltD, prepR, preps, storeR, storesR, nxOf, Mo.fl, isNon, tysD, tyD, intD, intsD, seqD, lstD, methD, isMut, mutD, callD, permL, bindT, slcD, startE, ioE, runD, lim]) (ex_nil (q o' v _ lv w)))
  have third : ∀ m o' v, LowV k v → Well m o' → m ≤ n + 3 → GoX N C Bk R (exB Φ wn true [.if_ (.and (.cmp .gt (.var 5) (.cst (.int 0))) (.cmp .eq (.var 3) (.cst (.int 1)))) [.asg 6 false (pl_e3 i)] [], .expr (.meth .append (.var 4) (.cons (.var 6) .nil))] [.ow o', .im dm, .im ds, .im (.int way), .ow (.lst F), .im (.int (k : Int)), .im v, .un, .un, .un]) := fun m o' v lv w hm => by
    by_cases c : 0 < k ∧ way = 1
    · obtain ⟨c1, rfl⟩ := c
      obtain ⟨v3, o3, e3, l3, w3⟩ := e3_ok (i := i) hD w (by omega) hk c1 (a1 := .im dm) (a2 := .im ds) (a3 := .im (.int 1)) (a4 := .ow (.lst F)) (a6 := .im v) (a7 := .un) (a8 := .un) (a9 := .un)
      have c1' : (0 : Int) < (k : Int) := by omega
      refine ex_cons (if_go (b := true) (env1 := [.ow o', .im dm, .im ds, .im (.int 1), .ow (.lst F), .im (.int (k : Int)), .im v, .un, .un, .un]) (by simp [ev, evA, evO, evC, evI, evF, exS, exB, Ms.seq, Mo.bnd, Mo.ret, Mo.lift, Mo.opd, RV.opd, Mo.set, RV.set, Mo.tst, Mo.imm, Mo.imms, Mo.nox, opds, OB.toD, atD, cmpD, binD, bltD, prepR, preps, storeR, storesR, nxOf, Mo.fl, isNon, tysD, tyD, intD, intsD, seqD, lstD, methD, isMut, mutD, callD, permL, bindT, slcD, startE, ioE, runD, eq_int, c1', c1]) ?_)
      rw [if_pos rfl]
      exact ex_cons (asg_val e3 ⟨rfl, by simp⟩ (ex_nil (last o3 v3 _ l3 (w3.mono (by omega)) rfl)))
    · refine ex_cons (if_go (b := false) (env1 := [.ow o', .im dm, .im ds, .im (.int way), .ow (.lst F), .im (.int (k : Int)), .im v, .un, .un, .un]) ?_ ?_)
      · by_cases c1 : 0 < k
        · have c2 : ¬ way = 1 := fun z => c ⟨c1, z⟩
          simp [ev, evA, evO, evC, evI, evF, exS, exB, Ms.seq, Mo.bnd, Mo.ret, Mo.lift, Mo.opd, RV.opd, Mo.set, RV.set, Mo.tst, Mo.imm, Mo.imms, Mo.nox, opds, OB.toD, atD, cmpD, binD, bltD, prepR, preps, storeR, storesR, nxOf, Mo.fl, isNon, tysD, tyD, intD, intsD, seqD, lstD, methD, isMut, mutD, callD, permL, bindT, slcD, startE, ioE, runD, eq_int, c1, c2]
        · simp [ev, evA, evO, evC, evI, evF, exS, exB, Ms.seq, Mo.bnd, Mo.ret, Mo.lift, Mo.opd, RV.opd, Mo.set, RV.set, Mo.tst, Mo.imm, Mo.imms, Mo.nox, opds, OB.toD, atD, cmpD, binD, bltD, prepR, preps, storeR, storesR, nxOf, Mo.fl, isNon, tysD, tyD, intD, intsD, seqD, lstD, methD, isMut, mutD, callD, permL, bindT, slcD, startE, ioE, runD, eq_int, c1]
      · rw [if_neg Bool.false_ne_true]
        exact ex_nil (last o' v _ lv (w.mono (by omega)) rfl)
  unfold pl_t1
  refine ex_cons (asg_val e1 ⟨rfl, by simp⟩ ?_)
  show GoX N C Bk R (exB Φ wn true _ [.ow o1, .im dm, .im ds, .im (.int way), .ow (.lst F), .im (.int (k : Int)), .im v, .un, .un, .un])
  by_cases c : 0 < k ∧ way = 0
  · obtain ⟨c1, rfl⟩ := c
    obtain ⟨v2, o2, e2, l2, w2⟩ := e2_ok (i := i) hD w1 (by omega) hk c1 (a1 := .im dm) (a2 := .im ds) (a3 := .im (.int 0)) (a4 := .ow (.lst F)) (a6 := .im v) (a7 := .un) (a8 := .un) (a9 := .un)
    have c1' : (0 : Int) < (k : Int) := by omega
    refine ex_cons (if_go (b := true) (env1 := [.ow o1, .im dm, .im ds, .im (.int 0), .ow (.lst F), .im (.int (k : Int)), .im v, .un, .un, .un]) (by simp [ev, evA, evO, evC, evI, evF, exS, exB, Ms.seq, Mo.bnd, Mo.ret, Mo.lift, Mo.opd, RV.opd, Mo.set, RV.set, Mo.tst, Mo.imm, Mo.imms, Mo.nox, opds, OB.toD, atD, cmpD, binD, bltD, prepR, preps, storeR, storesR, nxOf, Mo.fl, isNon, tysD, tyD, intD, intsD, seqD, lstD, methD, isMut, mutD, callD, permL, bindT, slcD, startE, ioE, runD, eq_int, c1', c1]) ?_)
    rw [if_pos rfl]
    exact ex_cons (asg_val e2 ⟨rfl, by simp⟩ (ex_nil (third _ o2 v2 l2 w2 (by omega))))
  · refine ex_cons (if_go (b := false) (env1 := [.ow o1, .im dm, .im ds, .im (.int way), .ow (.lst F), .im (.int (k : Int)), .im v, .un, .un, .un]) ?_ ?_)
    · by_cases c1 : 0 < k
      · have c2 : ¬ way = 0 := fun z => c ⟨c1, z⟩
        simp [ev, evA, evO, evC, evI, evF, exS, exB, Ms.seq, Mo.bnd, Mo.ret, Mo.lift, Mo.opd, RV.opd, Mo.set, RV.set, Mo.tst, Mo.imm, Mo.imms, Mo.nox, opds, OB.toD, atD, cmpD, binD, bltD, prepR, preps, storeR, storesR, nxOf, Mo.fl, isNon, tysD, tyD, intD, intsD, seqD, lstD, methD, isMut, mutD, callD, permL, bindT, slcD, startE, ioE, runD, eq_int, c1, c2]
      · simp [ev, evA, evO, evC, evI, evF, exS, exB, Ms.seq, Mo.bnd, Mo.ret, Mo.lift, Mo.opd, RV.opd, Mo.set, RV.set, Mo.tst, Mo.imm, Mo.imms, Mo.nox, opds, OB.toD, atD, cmpD, binD, bltD, prepR, preps, storeR, storesR, nxOf, Mo.fl, isNon, tysD, tyD, intD, intsD, seqD, lstD, methD, isMut, mutD, callD, permL, bindT, slcD, startE, ioE, runD, eq_int, c1]
    · rw [if_neg Bool.false_ne_true]
      exact ex_nil (third _ o1 v l1 w1 (by omega))
theorem t2_ok (hD : DrawOk (Φ i)) (hw : Well n o) (hn : n ≤ 800000) {k : Nat} {A B : List Nat} (hA : A.length ≤ 1000) (hB : 0 < B.length ∧ B.length ≤ 1000) {dm ds dw : D} {F : List D} {a6 : Sl} {N C Bk : Evn → Prop} {R : RV → Evn → Prop}
    (q : ∀ (o' : OB) (z : Nat) (hz : z < B.length), Well (n + 1) o' → N [.ow o', .im dm, .im ds, .im dw, .ow (.lst F), .im (.int (k : Int)), a6, .ow (.lst (dI (A ++ [B[z]]))), .ow (.lst (dI (B.eraseIdx z))), .un]) :
    GoX N C Bk R (exB Φ wn true (pl_t2 i) [.ow o, .im dm, .im ds, .im dw, .ow (.lst F), .im (.int (k : Int)), a6, .ow (.lst (dI A)), .ow (.lst (dI B)), .un]) := by
  obtain ⟨d, o1, e1, d0, d1, w1⟩ := hD n o (B.length : Int) hw (by omega) (by omega) (one_lt _ (by omega))
  obtain ⟨z, rfl⟩ := Int.eq_ofNat_of_zero_le d0
  have hz : z < B.length := by omega
  have lB : (dI B).length = B.length := by simp [dI]
  have g : (dI B)[z]? = some (.int (B[z] : Int)) := by simp [dI, hz]
  have er : (dI B).eraseIdx z = dI (B.eraseIdx z) := erase_map _ B z
  have ap : dI A ++ [D.int (B[z] : Int)] = dI (A ++ [B[z]]) := by simp [dI]
  have lA : (dI A).length < LIM := by simp [dI, LIM]; omega
  have hz2 : (z : Int) ≤ 100000 := by omega
  unfold pl_t2
  exact ex_cons (expr_go (r := .val .non) (env1 := [.ow o1, .im dm, .im ds, .im dw, .ow (.lst F), .im (.int (k : Int)), a6, .ow (.lst (dI (A ++ [B[z]]))), .ow (.lst (dI (B.eraseIdx z))), .un]) (by simp [ev, evA, evO, evC, evI, evF, exS, exB, Ms.seq, Mo.bnd, Mo.ret, Mo.lift, Mo.opd, RV.opd, Mo.set, RV.set, Mo.tst, Mo.imm, Mo.imms, Mo.nox, opds, OB.toD, atD, cmpD, binD, bltD, prepR, preps, storeR, storesR, nxOf, Mo.fl, isNon, tysD, tyD, intD, intsD, seqD, lstD, methD, isMut, mutD, callD, permL, bindT, slcD, startE, ioE, runD, lB, e1, g, er, ap, lA, hz2]) (ex_nil (q o1 z hz w1)))
/-- where a place goes -/
def img (A : List Nat) : D → D
  | .int p => .int (A.getD p.toNat 0 : Nat)
  | _ => .non
theorem t3_ok {k : Nat} {A : List Nat} {F T : List D} (hk : k < A.length) (hF : F.length = A.length) (hL : Low F) (hT : T.length = A.length) (hA : ∀ x ∈ A, x < A.length) {dm ds dw : D} {a6 a8 : Sl} {N C Bk : Evn → Prop} {R : RV → Evn → Prop}
    (q : N [.ow o, .im dm, .im ds, .im dw, .ow (.lst F), .im (.int (k : Int)), a6, .ow (.lst (dI A)), a8, .ow (.lst (T.set A[k] (img A (F[k]'(by omega)))))]) :
    GoX N C Bk R (exB Φ wn true pl_t3 [.ow o, .im dm, .im ds, .im dw, .ow (.lst F), .im (.int (k : Int)), a6, .ow (.lst (dI A)), a8, .ow (.lst T)]) := by
  have gA : L2.atI (dI A) (k : Int) = some (.int (A[k] : Int)) := by rw [atI_nat]; simp [dI, hk]
  have hkF : k < F.length := by omega
  have gF : L2.atI F (k : Int) = some (F[k]) := by rw [atI_nat]; simp [hkF]
  have hx : A[k] < T.length := by rw [hT]; exact hA _ (List.getElem_mem hk)
  have hix : ixN T.length (A[k] : Int) = some A[k] := by
    unfold ixN
    rw [if_pos (by omega), if_pos (by omega)]
    simp
  unfold pl_t3
  refine ex_cons (set_go (d := img A F[k]) (env1 := [.ow o, .im dm, .im ds, .im dw, .ow (.lst F), .im (.int (k : Int)), a6, .ow (.lst (dI A)), a8, .ow (.lst T)]) (j := 9) (env2 := [.ow o, .im dm, .im ds, .im dw, .ow (.lst F), .im (.int (k : Int)), a6, .ow (.lst (dI A)), a8, .ow (.lst T)]) (kk := (A[k] : Int)) (env3 := [.ow o, .im dm, .im ds, .im dw, .ow (.lst F), .im (.int (k : Int)), a6, .ow (.lst (dI A)), a8, .ow (.lst T)]) (ds := T) (n := A[k]) ?_ (by simp [ev, evA, evO, evC, evI, evF, exS, exB, Ms.seq, Mo.bnd, Mo.ret, Mo.lift, Mo.opd, RV.opd, Mo.set, RV.set, Mo.tst, Mo.imm, Mo.imms, Mo.nox, opds, OB.toD, atD, cmpD, binD, bltD, prepR, preps, storeR, storesR, nxOf, Mo.fl, isNon, tysD, tyD, intD, intsD, seqD, lstD, methD, isMut, mutD, callD, permL, bindT, slcD, startE, ioE, runD]) (by simp [ev, evA, evO, evC, evI, evF, exS, exB, Ms.seq, Mo.bnd, Mo.ret, Mo.lift, Mo.opd, RV.opd, Mo.set, RV.set, Mo.tst, Mo.imm, Mo.imms, Mo.nox, opds, OB.toD, atD, cmpD, binD, bltD, prepR, preps, storeR, storesR, nxOf, Mo.fl, isNon, tysD, tyD, intD, intsD, seqD, lstD, methD, isMut, mutD, callD, permL, bindT, slcD, startE, ioE, runD, gA]) (by simp) hix (ex_nil ?_))
  · rcases hL k F[k] (List.getElem?_eq_getElem hkF) with z | ⟨p, z, hp⟩
    · rw [z] at gF ⊢
      simp [ev, evA, evO, evC, evI, evF, exS, exB, Ms.seq, Mo.bnd, Mo.ret, Mo.lift, Mo.opd, RV.opd, Mo.set, RV.set, Mo.tst, Mo.imm, Mo.imms, Mo.nox, opds, OB.toD, atD, cmpD, binD, bltD, prepR, preps, storeR, storesR, nxOf, Mo.fl, isNon, tysD, tyD, intD, intsD, seqD, lstD, methD, isMut, mutD, callD, permL, bindT, slcD, startE, ioE, runD, gF, img]
    · rw [z] at gF ⊢
      have hp2 : p < A.length := by omega
      have gp : L2.atI (dI A) (p : Int) = some (.int (A[p] : Int)) := by rw [atI_nat]; simp [dI, hp2]
      simp [ev, evA, evO, evC, evI, evF, exS, exB, Ms.seq, Mo.bnd, Mo.ret, Mo.lift, Mo.opd, RV.opd, Mo.set, RV.set, Mo.tst, Mo.imm, Mo.imms, Mo.nox, opds, OB.toD, atD, cmpD, binD, bltD, prepR, preps, storeR, storesR, nxOf, Mo.fl, isNon, tysD, tyD, intD, intsD, seqD, lstD, methD, isMut, mutD, callD, permL, bindT, slcD, startE, ioE, runD, gF, img, gp, hp2]
  · exact q
end
theorem perm_forest {A : List Nat} {F T : List D} (hn : A.Nodup) (hA : ∀ x, x < A.length → x ∈ A) (hA2 : ∀ x ∈ A, x < A.length) (hF : F.length = A.length) (hT : T.length = A.length) (hL : Low F) (h0 : 0 < A.length)
    (h : ∀ (j : Nat) (hj : j < A.length), T[A[j]]? = some (img A (F[j]'(by omega)))) : Fine T ∧ isForest (.tup T) = true := by
  -- each place, by its rank
  have at_x : ∀ x, x < A.length → ∃ (j : Nat) (hj : j < A.length), A.idxOf x = j ∧ A[j] = x := fun x hx => by
    have m := hA x hx
    have l := List.idxOf_lt_length_iff.mpr m
    exact ⟨A.idxOf x, l, rfl, List.getElem_idxOf l⟩
  have val : ∀ (j : Nat) (hj : j < A.length), img A (F[j]'(by omega)) = .non ∨ ∃ (p : Nat) (hp : p < j), img A (F[j]'(by omega)) = .int (A[p]'(by omega) : Int) := fun j hj => by
    have hjF : j < F.length := by omega
    rcases hL j F[j] (List.getElem?_eq_getElem hjF) with z | ⟨p, z, hp⟩
    · rw [z]; exact .inl rfl
    · have hp2 : p < A.length := by omega
      refine .inr ⟨p, hp, ?_⟩
      simp [img, z, hp2]
  have fine : Fine T := by
    intro d hd
    obtain ⟨x, hx, e⟩ := List.mem_iff_getElem.mp hd
    obtain ⟨j, hj, _, ej⟩ := at_x x (by omega)
    have g := h j hj
    rw [ej, List.getElem?_eq_getElem hx, e] at g
    rcases val j hj with z | ⟨p, hp, z⟩
    · rw [z] at g; exact .inl (Option.some.inj g)
    · rw [z] at g
      refine .inr ⟨A[p], Option.some.inj g, ?_⟩
      rw [hT]
      exact hA2 _ (List.getElem_mem _)
  refine ⟨fine, rank_forest fine (fun z => by rw [z] at hT; simp at hT; omega) (fun x => A.idxOf x) (fun x hx => ?_) fun x y hx e => ?_⟩
  · obtain ⟨j, hj, e, _⟩ := at_x x (by omega)
    rw [e, hT]; exact hj
  · obtain ⟨j, hj, ei, ej⟩ := at_x x (by omega)
    have g := h j hj
    rw [ej, get_par fine hx, e] at g
    rcases val j hj with z | ⟨p, hp, z⟩
    · rw [z] at g; simp [hereD] at g
    · rw [z] at g
      simp only [hereD, Option.some.injEq, D.int.injEq] at g
      have : y = A[p]'(by omega) := by omega
      rw [ei, this, hn.idxOf_getElem p (by omega)]
      exact hp
section
variable {Φ : Fn} {wn i : Nat} {n : Nat} {o : OB}
theorem rep_non (S : Nat) : (List.replicate S [D.non]).flatten = List.replicate S D.non := by
  induction S with
  | zero => rfl
  | succ S ih => rw [List.replicate_succ, List.flatten_cons, ih]; rfl
theorem plan_ok (hD : DrawOk (Φ i)) (hw : Well n o) (hn : n ≤ 500000) {m : Int} (hm : 0 < m ∧ m ≤ 60) :
    ∃ ds o', runD Φ wn (f_law_forest i) (some o) [.int m] = some (.ok (.val (.tup ds)) (some o')) ∧ Fine ds ∧ ds ≠ [] ∧ ds.length ≤ 60 ∧ isForest (.tup ds) = true ∧ Well (n + 400) o' := by
  obtain ⟨d, o1, e1, d0, d1, w1⟩ := hD n o m hw (by omega) hm.1 (by
    have : (1000 : Int) < 2 ^ 1000 := by decide +kernel
    omega)
  obtain ⟨way, o2, e2, y0, y1, w2⟩ := hD (n + 1) o1 4 w1 (by omega) (by decide) (by decide +kernel)
  obtain ⟨S, hS⟩ : ∃ S : Nat, 1 + d = (S : Int) := ⟨(1 + d).toNat, by omega⟩
  have S1 : 1 ≤ S ∧ S ≤ 60 := by omega
  have hr : -100000 ≤ (S : Int) ∧ (S : Int) ≤ 100000 := by omega
  have rl : ((List.range S).map fun (k : Nat) => D.int (0 + (k : Int))).length = S := by simp
  have main : ∃ r q, runD Φ wn (f_law_forest i) (some o) [.int m] = some (.ok r q) ∧ ∃ ds o', r = .val (.tup ds) ∧ q = some o' ∧ Fine ds ∧ ds ≠ [] ∧ ds.length ≤ 60 ∧ isForest (.tup ds) = true ∧ Well (n + 400) o' := by
    refine run_go (env := [.ow o, .im (.int m), .un, .un, .un, .un, .un, .un, .un, .un]) rfl ?_
    refine ex_cons (asg_val (d := .int (S : Int)) (env1 := [.ow o1, .im (.int m), .un, .un, .un, .un, .un, .un, .un, .un]) (by simp [ev, evA, evO, evC, evI, evF, exS, exB, Ms.seq, Mo.bnd, Mo.ret, Mo.lift, Mo.opd, RV.opd, Mo.set, RV.set, Mo.tst, Mo.imm, Mo.imms, Mo.nox, opds, OB.toD, atD, cmpD, binD, bltD, prepR, preps, storeR, storesR, nxOf, Mo.fl, isNon, tysD, tyD, intD, intsD, seqD, lstD, methD, isMut, mutD, callD, permL, bindT, slcD, startE, ioE, runD, e1, hS]) ⟨rfl, by simp⟩ ?_)
    refine ex_cons (asg_val (d := .int way) (env1 := [.ow o2, .im (.int m), .im (.int (S : Int)), .un, .un, .un, .un, .un, .un, .un]) (by simp [ev, evA, evO, evC, evI, evF, exS, exB, Ms.seq, Mo.bnd, Mo.ret, Mo.lift, Mo.opd, RV.opd, Mo.set, RV.set, Mo.tst, Mo.imm, Mo.imms, Mo.nox, opds, OB.toD, atD, cmpD, binD, bltD, prepR, preps, storeR, storesR, nxOf, Mo.fl, isNon, tysD, tyD, intD, intsD, seqD, lstD, methD, isMut, mutD, callD, permL, bindT, slcD, startE, ioE, runD, e2]) ⟨rfl, by simp⟩ ?_)
    refine ex_cons (asg_fr (o := .lst []) (env1 := [.ow o2, .im (.int m), .im (.int (S : Int)), .im (.int way), .un, .un, .un, .un, .un, .un]) (by simp [ev, evA, evO, evC, evI, evF, exS, exB, Ms.seq, Mo.bnd, Mo.ret, Mo.lift, Mo.opd, RV.opd, Mo.set, RV.set, Mo.tst, Mo.imm, Mo.imms, Mo.nox, opds, OB.toD, atD, cmpD, binD, bltD, prepR, preps, storeR, storesR, nxOf, Mo.fl, isNon, tysD, tyD, intD, intsD, seqD, lstD, methD, isMut, mutD, callD, permL, bindT, slcD, startE, ioE, runD, LIM]) ⟨rfl, by simp⟩ ?_)
    refine ex_cons (for_st (ds := (List.range S).map fun (k : Nat) => D.int (0 + (k : Int))) (env1 := [.ow o2, .im (.int m), .im (.int (S : Int)), .im (.int way), .ow (.lst []), .un, .un, .un, .un, .un]) (by simp [ev, evA, evO, evC, evI, evF, exS, exB, Ms.seq, Mo.bnd, Mo.ret, Mo.lift, Mo.opd, RV.opd, Mo.set, RV.set, Mo.tst, Mo.imm, Mo.imms, Mo.nox, opds, OB.toD, atD, cmpD, binD, bltD, prepR, preps, storeR, storesR, nxOf, Mo.fl, isNon, tysD, tyD, intD, intsD, seqD, lstD, methD, isMut, mutD, callD, permL, bindT, slcD, startE, ioE, runD, hr]) ?_)
    refine for_go0 (fun k env => ∃ o' F s5 a6, env = [.ow o', .im (.int m), .im (.int (S : Int)), .im (.int way), .ow (.lst F), s5, a6, .un, .un, .un] ∧ F.length = k ∧ Low F ∧ Well (n + 1 + 1 + 5 * k) o') ⟨o2, [], _, _, rfl, rfl, fun j d h => by simp at h, w2⟩ ?_ ?_
    · rintro k d env hd ⟨o', F, s5, a6, rfl, hl, hL, w⟩
      obtain ⟨hk, rfl⟩ := rng_get hd
      refine ⟨[.ow o', .im (.int m), .im (.int (S : Int)), .im (.int way), .ow (.lst F), .im (.int (k : Int)), a6, .un, .un, .un], by simp [bindT], ?_⟩
      refine t1_ok (i := i) hD w (by omega) (by omega) (by omega) fun o3 v a lv w3 => ?_
      exact ⟨o3, F ++ [v], _, _, rfl, by simp [hl], low_app hL (by rw [hl]; exact lv), w3.mono (by omega)⟩
    · rintro env ⟨o', F, s5, a6, rfl, hl, hL, w⟩
      rw [rl] at hl w
      have neF : F ≠ [] := fun z => by rw [z] at hl; simp at hl; omega
      obtain ⟨y, o3, e3, z0, z1, w3⟩ := hD _ o' 3 w (by omega) (by decide) (by decide +kernel)
      by_cases hy : y = 0
      · subst hy
        refine ex_cons (if_go (b := true) (env1 := [.ow o3, .im (.int m), .im (.int (S : Int)), .im (.int way), .ow (.lst F), s5, a6, .un, .un, .un]) (by simp [ev, evA, evO, evC, evI, evF, exS, exB, Ms.seq, Mo.bnd, Mo.ret, Mo.lift, Mo.opd, RV.opd, Mo.set, RV.set, Mo.tst, Mo.imm, Mo.imms, Mo.nox, opds, OB.toD, atD, cmpD, binD, bltD, prepR, preps, storeR, storesR, nxOf, Mo.fl, isNon, tysD, tyD, intD, intsD, seqD, lstD, methD, isMut, mutD, callD, permL, bindT, slcD, startE, ioE, runD, e3, eq_int]) ?_)
        rw [if_pos rfl]
        exact ex_cons (ret_val (d := .tup F) (env1 := [.ow o3, .im (.int m), .im (.int (S : Int)), .im (.int way), .ow (.lst F), s5, a6, .un, .un, .un]) (by simp [ev, evA, evO, evC, evI, evF, exS, exB, Ms.seq, Mo.bnd, Mo.ret, Mo.lift, Mo.opd, RV.opd, Mo.set, RV.set, Mo.tst, Mo.imm, Mo.imms, Mo.nox, opds, OB.toD, atD, cmpD, binD, bltD, prepR, preps, storeR, storesR, nxOf, Mo.fl, isNon, tysD, tyD, intD, intsD, seqD, lstD, methD, isMut, mutD, callD, permL, bindT, slcD, startE, ioE, runD]) ⟨some o3, rfl, F, o3, rfl, rfl, low_fine hL, neF, by omega, low_forest hL neF, w3.mono (by omega)⟩)
      · refine ex_cons (if_go (b := false) (env1 := [.ow o3, .im (.int m), .im (.int (S : Int)), .im (.int way), .ow (.lst F), s5, a6, .un, .un, .un]) (by simp [ev, evA, evO, evC, evI, evF, exS, exB, Ms.seq, Mo.bnd, Mo.ret, Mo.lift, Mo.opd, RV.opd, Mo.set, RV.set, Mo.tst, Mo.imm, Mo.imms, Mo.nox, opds, OB.toD, atD, cmpD, binD, bltD, prepR, preps, storeR, storesR, nxOf, Mo.fl, isNon, tysD, tyD, intD, intsD, seqD, lstD, methD, isMut, mutD, callD, permL, bindT, slcD, startE, ioE, runD, e3, eq_int, hy]) ?_)
        rw [if_neg Bool.false_ne_true]
        refine ex_nil ?_
        refine ex_cons ?_
        rw [exS]
        refine fl_go (a := [.fr (.lst []), .fr (.lst (dI (List.range S)))]) (e := [.ow o3, .im (.int m), .im (.int (S : Int)), .im (.int way), .ow (.lst F), s5, a6, .un, .un, .un]) (by simp [ev, evA, evO, evC, evI, evF, exS, exB, Ms.seq, Mo.bnd, Mo.ret, Mo.lift, Mo.opd, RV.opd, Mo.set, RV.set, Mo.tst, Mo.imm, Mo.imms, Mo.nox, opds, OB.toD, atD, cmpD, binD, bltD, prepR, preps, storeR, storesR, nxOf, Mo.fl, isNon, tysD, tyD, intD, intsD, seqD, lstD, methD, isMut, mutD, callD, permL, bindT, slcD, startE, ioE, runD, LIM, hr, listRng_is]) ?_
        show GoX _ _ _ _ (nxOf (storesR true [7, 8] [.fr (.lst []), .fr (.lst (dI (List.range S)))] [.ow o3, .im (.int m), .im (.int (S : Int)), .im (.int way), .ow (.lst F), s5, a6, .un, .un, .un]))
        have st : storesR true [7, 8] [.fr (.lst []), .fr (.lst (dI (List.range S)))] [.ow o3, .im (.int m), .im (.int (S : Int)), .im (.int way), .ow (.lst F), s5, a6, .un, .un, .un] = some [.ow o3, .im (.int m), .im (.int (S : Int)), .im (.int way), .ow (.lst F), s5, a6, .ow (.lst (dI [])), .ow (.lst (dI (List.range S))), .un] := by simp [storesR, storeR, dI]
        rw [st]
        refine ex_cons (for_st (ds := (List.range S).map fun (k : Nat) => D.int (0 + (k : Int))) (env1 := [.ow o3, .im (.int m), .im (.int (S : Int)), .im (.int way), .ow (.lst F), s5, a6, .ow (.lst (dI [])), .ow (.lst (dI (List.range S))), .un]) (by simp [ev, evA, evO, evC, evI, evF, exS, exB, Ms.seq, Mo.bnd, Mo.ret, Mo.lift, Mo.opd, RV.opd, Mo.set, RV.set, Mo.tst, Mo.imm, Mo.imms, Mo.nox, opds, OB.toD, atD, cmpD, binD, bltD, prepR, preps, storeR, storesR, nxOf, Mo.fl, isNon, tysD, tyD, intD, intsD, seqD, lstD, methD, isMut, mutD, callD, permL, bindT, slcD, startE, ioE, runD, hr]) ?_)
        refine for_go0 (fun k env => ∃ o' A B s5, env = [.ow o', .im (.int m), .im (.int (S : Int)), .im (.int way), .ow (.lst F), s5, a6, .ow (.lst (dI A)), .ow (.lst (dI B)), .un] ∧ A.length = k ∧ (A ++ B).Perm (List.range S) ∧ Well (n + 1 + 1 + 5 * S + 1 + k) o') ⟨o3, [], List.range S, _, rfl, rfl, .refl _, w3⟩ ?_ ?_
        · rintro k d env hd ⟨o', A, B, s5, rfl, hA, hp, w⟩
          obtain ⟨hk, rfl⟩ := rng_get hd
          have lp := hp.length_eq
          simp only [List.length_append, List.length_range] at lp
          refine ⟨[.ow o', .im (.int m), .im (.int (S : Int)), .im (.int way), .ow (.lst F), .im (.int (k : Int)), a6, .ow (.lst (dI A)), .ow (.lst (dI B)), .un], by simp [bindT], ?_⟩
          refine t2_ok (i := i) hD w (by omega) (by omega) ⟨by omega, by omega⟩ fun o4 z hz w4 => ?_
          refine ⟨o4, A ++ [B[z]], B.eraseIdx z, _, rfl, by simp [hA], ?_, w4.mono (by omega)⟩
          rw [List.append_assoc]
          exact (List.Perm.append_left A (pick_perm hz)).trans hp
        · rintro env ⟨o4, A, B, s5, rfl, hA, hp, w⟩
          rw [rl] at hA w
          have lp := hp.length_eq
          simp only [List.length_append, List.length_range] at lp
          have hB : B = [] := List.length_eq_zero_iff.mp (by omega)
          subst hB
          rw [List.append_nil] at hp
          have nd : A.Nodup := hp.nodup_iff.mpr List.nodup_range
          have mA : ∀ x, x < A.length → x ∈ A := fun x hx => hp.mem_iff.mpr (by simp; omega)
          have mA2 : ∀ x ∈ A, x < A.length := fun x hx => by
            have := hp.mem_iff.mp hx
            simp at this; omega
          refine ex_cons (asg_fr (o := .lst (List.replicate S D.non)) (env1 := [.ow o4, .im (.int m), .im (.int (S : Int)), .im (.int way), .ow (.lst F), s5, a6, .ow (.lst (dI A)), .ow (.lst (dI [])), .un]) (by
            have k1 : (S : Int) ≤ 100000 ∧ -100000 ≤ (S : Int) ∧ S ≤ 100000 := ⟨by omega, by omega, by omega⟩
            simp [ev, evA, evO, evC, evI, evF, exS, exB, Ms.seq, Mo.bnd, Mo.ret, Mo.lift, Mo.opd, RV.opd, Mo.set, RV.set, Mo.tst, Mo.imm, Mo.imms, Mo.nox, opds, OB.toD, atD, cmpD, binD, bltD, prepR, preps, storeR, storesR, nxOf, Mo.fl, isNon, tysD, tyD, intD, intsD, seqD, lstD, methD, isMut, mutD, callD, permL, bindT, slcD, startE, ioE, runD, k1, rep_non, LIM]) ⟨rfl, by simp⟩ ?_)
          refine ex_cons (for_st (ds := (List.range S).map fun (k : Nat) => D.int (0 + (k : Int))) (env1 := [.ow o4, .im (.int m), .im (.int (S : Int)), .im (.int way), .ow (.lst F), s5, a6, .ow (.lst (dI A)), .ow (.lst (dI [])), .ow (.lst (List.replicate S D.non))]) (by simp [ev, evA, evO, evC, evI, evF, exS, exB, Ms.seq, Mo.bnd, Mo.ret, Mo.lift, Mo.opd, RV.opd, Mo.set, RV.set, Mo.tst, Mo.imm, Mo.imms, Mo.nox, opds, OB.toD, atD, cmpD, binD, bltD, prepR, preps, storeR, storesR, nxOf, Mo.fl, isNon, tysD, tyD, intD, intsD, seqD, lstD, methD, isMut, mutD, callD, permL, bindT, slcD, startE, ioE, runD, hr]) ?_)
          refine for_go0 (fun k env => ∃ T s5, env = [.ow o4, .im (.int m), .im (.int (S : Int)), .im (.int way), .ow (.lst F), s5, a6, .ow (.lst (dI A)), .ow (.lst (dI [])), .ow (.lst T)] ∧ T.length = A.length ∧ ∀ (j : Nat) (hj : j < A.length), j < k → T[A[j]]? = some (img A (F[j]'(by omega)))) ⟨_, _, rfl, by simp [hA], fun j _ hj => by omega⟩ ?_ ?_
          · rintro k d env hd ⟨T, s5, rfl, hT, hj⟩
            obtain ⟨hk, rfl⟩ := rng_get hd
            have hkA : k < A.length := by omega
            refine ⟨[.ow o4, .im (.int m), .im (.int (S : Int)), .im (.int way), .ow (.lst F), .im (.int (k : Int)), a6, .ow (.lst (dI A)), .ow (.lst (dI [])), .ow (.lst T)], by simp [bindT], ?_⟩
            refine t3_ok (o := o4) hkA (by omega) hL hT mA2 ⟨_, _, rfl, by simp [hT], fun j hjA hjk => ?_⟩
            by_cases e : j = k
            · subst e
              rw [List.getElem?_set_self (by rw [hT]; exact mA2 _ (List.getElem_mem hjA))]
            · rw [List.getElem?_set_ne (fun z => e ((List.getElem_inj nd).mp z).symm)]
              exact hj j hjA (by omega)
          · rintro env ⟨T, s5, rfl, hT, hj⟩
            rw [rl] at hj
            obtain ⟨fine, ff⟩ := perm_forest nd mA mA2 (by omega) hT hL (by omega) fun j hjA => hj j hjA (by omega)
            exact ex_cons (ret_val (d := .tup T) (env1 := [.ow o4, .im (.int m), .im (.int (S : Int)), .im (.int way), .ow (.lst F), s5, a6, .ow (.lst (dI A)), .ow (.lst (dI [])), .ow (.lst T)]) (by simp [ev, evA, evO, evC, evI, evF, exS, exB, Ms.seq, Mo.bnd, Mo.ret, Mo.lift, Mo.opd, RV.opd, Mo.set, RV.set, Mo.tst, Mo.imm, Mo.imms, Mo.nox, opds, OB.toD, atD, cmpD, binD, bltD, prepR, preps, storeR, storesR, nxOf, Mo.fl, isNon, tysD, tyD, intD, intsD, seqD, lstD, methD, isMut, mutD, callD, permL, bindT, slcD, startE, ioE, runD]) ⟨some o4, rfl, T, o4, rfl, rfl, fine, (fun z => by rw [z] at hT; simp at hT; omega), by omega, ff, w.mono (by omega)⟩)
  obtain ⟨r, q, e, ds, o', rfl, rfl, h⟩ := main
  exact ⟨ds, o', e, h⟩
end
end HB

set_option Elab.async false
set_option linter.all false
set_option maxRecDepth 100000
set_option maxHeartbeats 0
namespace HB.k01
open PySem PySem.Spec PyProof.Rows L2
/-! the law's own def -/
def cp_ring : IE := .comp [8] [8] (.rng1 (.var 6)) .no (.bin .mod (.blt .int (.cons (.bin .add (.var 8) (.cst (.int 1))) .nil)) (.var 6))
def lw_odd : IE := .lst (.cons (.cst .non) (.cons (.tup .nil) (.cons (.lst .nil) (.cons (.cst (.str ("" : PySem.Str))) (.cons (.cst (.str ("-" : PySem.Str))) (.cons (.cst (.int 5)) (.cons (.cst (.bl true)) (.cons .dct0 (.cons (.tup (.cons (.cst .non) (.cons (.cst (.str ("0" : PySem.Str))) .nil))) (.cons (.tup (.cons (.tup .nil) .nil)) (.cons (.lst (.cons (.cst .non) .nil)) (.cons (.tup (.cons (.cst (.int 0)) .nil)) (.cons (.tup (.cons (.cst (.int 1)) (.cons (.cst (.int 0)) .nil))) .nil)))))))))))))
def lw_turn : List IS := [.asg 4 false (.call 5 true (.cons (.var 2) (.cons (.idx (.lst (.cons (.cst (.int 4)) (.cons (.cst (.int 12)) (.cons (.cst (.int 60)) .nil)))) (.call 4 true (.cons (.var 2) (.cons (.cst (.int 3)) .nil)))) .nil))), .if_ (.cmp .isn (.call 2 false (.cons (.var 4) .nil)) (.cst (.bl true))) [.ret (.cst (.bl false))] [], .asg 5 false (.call 7 true (.cons (.var 2) (.cons (.var 4) .nil))), .if_ (.or (.not (.call 8 false (.cons (.var 5) .nil))) (.and (.cmp .ne (.var 5) (.tup .nil)) (.not (.call 8 false (.cons (.call 7 true (.cons (.var 2) (.cons (.var 5) .nil))) .nil))))) [.ret (.cst (.bl false))] [], .asg 6 false (.blt .len (.cons (.var 4) .nil)), .asg 7 false (.blt .tuple (.cons cp_ring .nil)), .if_ (.or (.not (.call 8 false (.cons (.var 7) .nil))) (.not (.call 8 false (.cons (.blt .list (.cons (.var 4) .nil)) .nil)))) [.ret (.cst (.bl false))] []]
def lw_at : List IS := [.asg 2 true (.call 3 false (.cons (.var 0) (.cons (.var 1) .nil))), .for_ [3] (.rng1 (.cst (.int 5))) lw_turn, .asg 9 true lw_odd, .expr (.meth .append (.var 9) (.cons (.tup (.cons (.cst .non) (.cons (.cst .non) .nil))) .nil)), .if_ (.not (.call 8 false (.cons (.idx (.var 9) (.call 4 true (.cons (.var 2) (.cons (.cst (.int 14)) .nil)))) .nil))) [.ret (.cst (.bl false))] []]
def f_law : Df := ⟨1, 10, false, [.for_ [1] (.rng1 (.blt .max2 (.cons (.cst (.int 1)) (.cons (.blt .min2 (.cons (.cst (.int 6)) (.cons (.blt .len (.cons (.var 0) .nil)) .nil))) .nil)))) lw_at, .ret (.cmp .is (.call 2 false (.cons (.tup (.cons (.cst .non) .nil)) .nil)) (.cst (.bl true)))]⟩
def Good (d : D) : Prop := Ask d ∧ ∃ t, reprD d = some t
/-- what the law's def is told of the others -/
structure Env1 (Φ : Fn) : Prop where
  isf : ∀ d, Ask d → Φ 2 none [d] = some (.ok (.val (.bl (isForest d))) none)
  rgt : ∀ d, Good d → Φ 8 none [d] = some (.ok (.val (.bl true)) none)
  wel : ∀ (zs : List Int) (k : Nat), k ≤ 1000 → ∃ o, Φ 3 none [.frz (zs.map .int), .int (k : Int)] = some (.ok (.fr o) none) ∧ Well 0 o
  drw : DrawOk (Φ 4)
  pln : ∀ (n : Nat) (o : OB) (m : Int), Well n o → n ≤ 500000 → 0 < m ∧ m ≤ 60 → ∃ ds o', Φ 5 (some o) [.int m] = some (.ok (.val (.tup ds)) (some o')) ∧ Fine ds ∧ ds ≠ [] ∧ ds.length ≤ 60 ∧ isForest (.tup ds) = true ∧ Well (n + 400) o'
  bnt : ∀ (n : Nat) (o : OB) (ds : List D), Well n o → n ≤ 900000 → (∀ d ∈ ds, Small d) → 0 < ds.length → ds.length ≤ 500 → ∃ ds' o', Φ 7 (some o) [.tup ds] = some (.ok (.val (.tup ds')) (some o')) ∧ (∀ d ∈ ds', Small d) ∧ ds'.length ≤ 2 * ds.length + 1 ∧ Well (n + 3) o'
theorem good_tup {ds : List D} (h : ∀ d ∈ ds, Small d) (hl : ds.length ≤ 1000) : Good (.tup ds) := ⟨⟨rfl, fun es e => by cases e; exact ⟨hl, fun d hd => (h d hd).1⟩⟩, repr_tup h hl⟩
theorem good_lst {ds : List D} (h : ∀ d ∈ ds, Small d) (hl : ds.length ≤ 1000) : Good (.lst ds) := ⟨⟨rfl, fun es e => nomatch e⟩, repr_lst h hl⟩
theorem good_one {d : D} (h : Small d) (hn : ∀ ds, d ≠ .tup ds) : Good d := ⟨⟨h.1, fun es e => (hn es e).elim⟩, repr_small h⟩
theorem fine_small {ds : List D} (h : Fine ds) (hl : ds.length ≤ 1000) : ∀ d ∈ ds, Small d := fun d hd => by
  rcases h d hd with e | ⟨i, e, hi⟩ <;> subst e
  · exact small_non
  · exact small_int (by omega)
def lodd : List D := [.non, .tup [], .lst [], .str ("" : PySem.Str), .str ("-" : PySem.Str), .int 5, .bl true, .dK [] [], .tup [.non, .str ("0" : PySem.Str)], .tup [.tup []], .lst [.non], .tup [.int 0], .tup [.int 1, .int 0], .tup [.non, .non]]
theorem small_0 : Small (.str ("0" : PySem.Str)) := ⟨rfl, rfl, rfl, by decide, by decide +kernel⟩
theorem odd_good : ∀ d ∈ lodd, Good d := by
  intro d hd
  simp only [lodd, List.mem_cons, List.not_mem_nil, or_false] at hd
  have i5 : ∀ {i : Int}, i.natAbs < 10 → Small (.int i) := fun h => small_int (by omega)
  rcases hd with rfl | rfl | rfl | rfl | rfl | rfl | rfl | rfl | rfl | rfl | rfl | rfl | rfl | rfl
  · exact good_one small_non (fun _ z => nomatch z)
  · exact good_tup (by simp) (by decide)
  · exact good_lst (by simp) (by decide)
  · exact good_one ⟨rfl, rfl, rfl, by decide, by decide +kernel⟩ (fun _ z => nomatch z)
  · exact good_one ⟨rfl, rfl, rfl, by decide, by decide +kernel⟩ (fun _ z => nomatch z)
  · exact good_one (i5 (by decide)) (fun _ z => nomatch z)
  · exact good_one (small_bl _) (fun _ z => nomatch z)
  · exact good_one ⟨rfl, rfl, rfl, by decide, by decide +kernel⟩ (fun _ z => nomatch z)
  · exact good_tup (by simp [small_non, small_0]) (by decide)
  · exact good_tup (by
      intro d hd
      simp at hd
      subst hd
      exact ⟨rfl, rfl, by decide +kernel, by decide, by decide +kernel⟩) (by decide)
  · exact good_lst (by simp [small_non]) (by decide)
  · exact good_tup (by simp [i5]) (by decide)
  · exact good_tup (by simp [i5]) (by decide)
  · exact good_tup (by simp [small_non]) (by decide)
section
variable {Φ : Fn} {wn : Nat}
theorem ring_is {S : Nat} (hS : 0 < S ∧ S ≤ 60) {a0 a1 a2 a3 a4 a5 a7 a8 a9 : Sl} : ∃ ds, ev Φ cp_ring [a0, a1, a2, a3, a4, a5, .im (.int (S : Int)), a7, a8, a9] = some (.ok (.fr (.lst ds)) [a0, a1, a2, a3, a4, a5, .im (.int (S : Int)), a7, a8, a9]) ∧ (∀ d ∈ ds, Small d) ∧ ds.length ≤ 1000 := by
  have hr : -100000 ≤ (S : Int) ∧ (S : Int) ≤ 100000 := by omega
  have hp : (0 : Int) < (S : Int) := by omega
  have hp' : 0 < S := hS.1
  refine ⟨_, comp_is ((List.range S).map fun (k : Nat) => D.int (0 + (k : Int))) (fun d => some (.int (((natOf d : Nat) + 1 : Int) % (S : Int)))) (by simp [ev, evA, evO, evC, evI, evF, exS, exB, Ms.seq, Mo.bnd, Mo.ret, Mo.lift, Mo.opd, RV.opd, Mo.set, RV.set, Mo.tst, Mo.imm, Mo.imms, Mo.nox, opds, OB.toD, atD, cmpD, binD, bltD, prepR, preps, storeR, storesR, nxOf, Mo.fl, isNon, tysD, tyD, intD, intsD, seqD, lstD, methD, isMut, mutD, callD, permL, bindT, slcD, startE, ioE, runD, hr]) (by simp [LIM]; omega) (by simp [unown, back]) fun d hd => ?_, fun d hd => ?_, ?_⟩
  · obtain ⟨k, hk, rfl⟩ := List.mem_map.mp hd
    refine ⟨[a0, a1, a2, a3, a4, a5, .im (.int (S : Int)), a7, .im (.int (0 + (k : Int))), a9], by simp [unown, bindT], by simp [unown], .inr ⟨_, rfl, by simp [ev, evA, evO, evC, evI, evF, exS, exB, Ms.seq, Mo.bnd, Mo.ret, Mo.lift, Mo.opd, RV.opd, Mo.set, RV.set, Mo.tst, Mo.imm, Mo.imms, Mo.nox, opds, OB.toD, atD, cmpD, binD, bltD, prepR, preps, storeR, storesR, nxOf, Mo.fl, isNon, tysD, tyD, intD, intsD, seqD, lstD, methD, isMut, mutD, callD, permL, bindT, slcD, startE, ioE, runD], by simp [ev, evA, evO, evC, evI, evF, exS, exB, Ms.seq, Mo.bnd, Mo.ret, Mo.lift, Mo.opd, RV.opd, Mo.set, RV.set, Mo.tst, Mo.imm, Mo.imms, Mo.nox, opds, OB.toD, atD, cmpD, binD, bltD, prepR, preps, storeR, storesR, nxOf, Mo.fl, isNon, tysD, tyD, intD, intsD, seqD, lstD, methD, isMut, mutD, callD, permL, bindT, slcD, startE, ioE, runD, hp, hp', natOf]⟩⟩
  · rw [fm_map] at hd
    obtain ⟨e, _, rfl⟩ := List.mem_map.mp hd
    have h1 := Int.emod_nonneg ((natOf e : Nat) + 1 : Int) (show (S : Int) ≠ 0 by omega)
    have h2 := Int.emod_lt_of_pos ((natOf e : Nat) + 1 : Int) hp
    exact small_int (by omega)
  · rw [fm_map]; simp; omega
theorem turn_ok (E : Env1 Φ) {n : Nat} {o : OB} (hw : Well n o) (hn : n ≤ 400000) {z a : D} {s3 s4 s5 s6 s7 s8 s9 : Sl} {N C Bk : Evn → Prop} {R : RV → Evn → Prop}
    (q : ∀ o' s4 s5 s6 s7, Well (n + 500) o' → N [.im z, .im a, .ow o', s3, s4, s5, s6, s7, s8, s9]) :
    GoX N C Bk R (exB Φ wn false lw_turn [.im z, .im a, .ow o, s3, s4, s5, s6, s7, s8, s9]) := by
  obtain ⟨y, o1, e1, y0, y1, w1⟩ := E.drw n o 3 hw (by omega) (by decide) (by decide +kernel)
  obtain ⟨m, hm, mm⟩ := at_some (ds := [.int 4, .int 12, .int 60]) y0 (by simpa using y1)
  obtain ⟨mi, hmi, rfl⟩ : ∃ mi : Int, (0 < mi ∧ mi ≤ 60) ∧ m = .int mi := by
    simp only [List.mem_cons, List.not_mem_nil, or_false] at mm
    rcases mm with rfl | rfl | rfl
    · exact ⟨4, by decide, rfl⟩
    · exact ⟨12, by decide, rfl⟩
    · exact ⟨60, by decide, rfl⟩
  obtain ⟨ds, o2, e2, fine, ne, hl, ff, w2⟩ := E.pln (n + 1) o1 mi w1 (by omega) hmi
  have sm := fine_small fine (by omega)
  have pos : 0 < ds.length := by cases ds with
    | nil => exact (ne rfl).elim
    | cons x xs => simp
  obtain ⟨b1, o3, e3, sb1, lb1, w3⟩ := E.bnt _ o2 ds w2 (by omega) sm pos (by omega)
  have f1 := E.isf (.tup ds) (good_tup sm (by omega)).1
  rw [ff] at f1
  have r1 := E.rgt (.tup b1) (good_tup sb1 (by omega))
  unfold lw_turn
  refine ex_cons (asg_val (d := .tup ds) (env1 := [.im z, .im a, .ow o2, s3, s4, s5, s6, s7, s8, s9]) (by simp [ev, evA, evO, evC, evI, evF, exS, exB, Ms.seq, Mo.bnd, Mo.ret, Mo.lift, Mo.opd, RV.opd, Mo.set, RV.set, Mo.tst, Mo.imm, Mo.imms, Mo.nox, opds, OB.toD, atD, cmpD, binD, bltD, prepR, preps, storeR, storesR, nxOf, Mo.fl, isNon, tysD, tyD, intD, intsD, seqD, lstD, methD, isMut, mutD, callD, permL, bindT, slcD, startE, ioE, runD, e1, hm, e2, LIM]) ⟨rfl, by simp⟩ ?_)
  refine ex_cons (if_go (b := false) (env1 := [.im z, .im a, .ow o2, s3, .im (.tup ds), s5, s6, s7, s8, s9]) (by simp [ev, evA, evO, evC, evI, evF, exS, exB, Ms.seq, Mo.bnd, Mo.ret, Mo.lift, Mo.opd, RV.opd, Mo.set, RV.set, Mo.tst, Mo.imm, Mo.imms, Mo.nox, opds, OB.toD, atD, cmpD, binD, bltD, prepR, preps, storeR, storesR, nxOf, Mo.fl, isNon, tysD, tyD, intD, intsD, seqD, lstD, methD, isMut, mutD, callD, permL, bindT, slcD, startE, ioE, runD, f1]) ?_)
  rw [if_neg Bool.false_ne_true]
  refine ex_nil ?_
  refine ex_cons (asg_val (d := .tup b1) (env1 := [.im z, .im a, .ow o3, s3, .im (.tup ds), s5, s6, s7, s8, s9]) (by simp [ev, evA, evO, evC, evI, evF, exS, exB, Ms.seq, Mo.bnd, Mo.ret, Mo.lift, Mo.opd, RV.opd, Mo.set, RV.set, Mo.tst, Mo.imm, Mo.imms, Mo.nox, opds, OB.toD, atD, cmpD, binD, bltD, prepR, preps, storeR, storesR, nxOf, Mo.fl, isNon, tysD, tyD, intD, intsD, seqD, lstD, methD, isMut, mutD, callD, permL, bindT, slcD, startE, ioE, runD, e3]) ⟨rfl, by simp⟩ ?_)
  have rest : ∀ o', Well (n + 1 + 400 + 3 + 3) o' → GoX N C Bk R (exB Φ wn false [.asg 6 false (.blt .len (.cons (.var 4) .nil)), .asg 7 false (.blt .tuple (.cons cp_ring .nil)), .if_ (.or (.not (.call 8 false (.cons (.var 7) .nil))) (.not (.call 8 false (.cons (.blt .list (.cons (.var 4) .nil)) .nil)))) [.ret (.cst (.bl false))] []] [.im z, .im a, .ow o', s3, .im (.tup ds), .im (.tup b1), s6, s7, s8, s9]) := fun o' w => by
    refine ex_cons (asg_val (d := .int (ds.length : Int)) (env1 := [.im z, .im a, .ow o', s3, .im (.tup ds), .im (.tup b1), s6, s7, s8, s9]) (by simp [ev, evA, evO, evC, evI, evF, exS, exB, Ms.seq, Mo.bnd, Mo.ret, Mo.lift, Mo.opd, RV.opd, Mo.set, RV.set, Mo.tst, Mo.imm, Mo.imms, Mo.nox, opds, OB.toD, atD, cmpD, binD, bltD, prepR, preps, storeR, storesR, nxOf, Mo.fl, isNon, tysD, tyD, intD, intsD, seqD, lstD, methD, isMut, mutD, callD, permL, bindT, slcD, startE, ioE, runD]) ⟨rfl, by simp⟩ ?_)
    obtain ⟨rs, er, sr, lr⟩ := ring_is (Φ := Φ) (S := ds.length) ⟨pos, hl⟩ (a0 := .im z) (a1 := .im a) (a2 := .ow o') (a3 := s3) (a4 := .im (.tup ds)) (a5 := .im (.tup b1)) (a7 := s7) (a8 := s8) (a9 := s9)
    refine ex_cons (asg_val (d := .tup rs) (env1 := [.im z, .im a, .ow o', s3, .im (.tup ds), .im (.tup b1), .im (.int (ds.length : Int)), s7, s8, s9]) (by simp [ev, evA, evO, evC, evI, evF, exS, exB, Ms.seq, Mo.bnd, Mo.ret, Mo.lift, Mo.opd, RV.opd, Mo.set, RV.set, Mo.tst, Mo.imm, Mo.imms, Mo.nox, opds, OB.toD, atD, cmpD, binD, bltD, prepR, preps, storeR, storesR, nxOf, Mo.fl, isNon, tysD, tyD, intD, intsD, seqD, lstD, methD, isMut, mutD, callD, permL, bindT, slcD, startE, ioE, runD, er]) ⟨rfl, by simp⟩ ?_)
    have g1 := E.rgt (.tup rs) (good_tup sr lr)
    have g2 := E.rgt (.lst ds) (good_lst sm (by omega))
    refine ex_cons (if_go (b := false) (env1 := [.im z, .im a, .ow o', s3, .im (.tup ds), .im (.tup b1), .im (.int (ds.length : Int)), .im (.tup rs), s8, s9]) (by simp [ev, evA, evO, evC, evI, evF, exS, exB, Ms.seq, Mo.bnd, Mo.ret, Mo.lift, Mo.opd, RV.opd, Mo.set, RV.set, Mo.tst, Mo.imm, Mo.imms, Mo.nox, opds, OB.toD, atD, cmpD, binD, bltD, prepR, preps, storeR, storesR, nxOf, Mo.fl, isNon, tysD, tyD, intD, intsD, seqD, lstD, methD, isMut, mutD, callD, permL, bindT, slcD, startE, ioE, runD, g1, g2]) ?_)
    rw [if_neg Bool.false_ne_true]
    exact ex_nil (ex_nil (q o' _ _ _ _ (w.mono (by omega))))
  by_cases hb : b1 = []
  · subst hb
    refine ex_cons (if_go (b := false) (env1 := [.im z, .im a, .ow o3, s3, .im (.tup ds), .im (.tup []), s6, s7, s8, s9]) (by simp [ev, evA, evO, evC, evI, evF, exS, exB, Ms.seq, Mo.bnd, Mo.ret, Mo.lift, Mo.opd, RV.opd, Mo.set, RV.set, Mo.tst, Mo.imm, Mo.imms, Mo.nox, opds, OB.toD, atD, cmpD, binD, bltD, prepR, preps, storeR, storesR, nxOf, Mo.fl, isNon, tysD, tyD, intD, intsD, seqD, lstD, methD, isMut, mutD, callD, permL, bindT, slcD, startE, ioE, runD, r1, eq_nil, LIM]) ?_)
    rw [if_neg Bool.false_ne_true]
    exact ex_nil (rest o3 (w3.mono (by omega)))
  · have nb : b1.isEmpty = false := by cases b1 <;> simp_all
    obtain ⟨b2, o4, e4, sb2, lb2, w4⟩ := E.bnt _ o3 b1 w3 (by omega) sb1 (by cases b1 <;> simp_all) (by omega)
    have r2 := E.rgt (.tup b2) (good_tup sb2 (by omega))
    refine ex_cons (if_go (b := false) (env1 := [.im z, .im a, .ow o4, s3, .im (.tup ds), .im (.tup b1), s6, s7, s8, s9]) (by simp [ev, evA, evO, evC, evI, evF, exS, exB, Ms.seq, Mo.bnd, Mo.ret, Mo.lift, Mo.opd, RV.opd, Mo.set, RV.set, Mo.tst, Mo.imm, Mo.imms, Mo.nox, opds, OB.toD, atD, cmpD, binD, bltD, prepR, preps, storeR, storesR, nxOf, Mo.fl, isNon, tysD, tyD, intD, intsD, seqD, lstD, methD, isMut, mutD, callD, permL, bindT, slcD, startE, ioE, runD, r1, eq_nil, nb, LIM, e4, r2]) ?_)
    rw [if_neg Bool.false_ne_true]
    exact ex_nil (rest o4 w4)
theorem at_ok (E : Env1 Φ) {zs : List Int} {k : Nat} (hk : k ≤ 1000) {s2 s3 s4 s5 s6 s7 s8 s9 : Sl} {N C Bk : Evn → Prop} {R : RV → Evn → Prop}
    (q : ∀ s2 s3 s4 s5 s6 s7 s8 s9, N [.im (.frz (zs.map .int)), .im (.int (k : Int)), s2, s3, s4, s5, s6, s7, s8, s9]) :
    GoX N C Bk R (exB Φ wn false lw_at [.im (.frz (zs.map .int)), .im (.int (k : Int)), s2, s3, s4, s5, s6, s7, s8, s9]) := by
  obtain ⟨o, e, w⟩ := E.wel zs k hk
  generalize zs.map D.int = zd at *
  unfold lw_at
  refine ex_cons (asg_fr (o := o) (env1 := [.im (.frz zd), .im (.int (k : Int)), s2, s3, s4, s5, s6, s7, s8, s9]) (by simp [ev, evA, evO, evC, evI, evF, exS, exB, Ms.seq, Mo.bnd, Mo.ret, Mo.lift, Mo.opd, RV.opd, Mo.set, RV.set, Mo.tst, Mo.imm, Mo.imms, Mo.nox, opds, OB.toD, atD, cmpD, binD, bltD, prepR, preps, storeR, storesR, nxOf, Mo.fl, isNon, tysD, tyD, intD, intsD, seqD, lstD, methD, isMut, mutD, callD, permL, bindT, slcD, startE, ioE, runD, e]) ⟨rfl, by simp⟩ ?_)
  refine ex_cons (for_st (ds := (List.range 5).map fun (k : Nat) => D.int (0 + (k : Int))) (env1 := [.im (.frz zd), .im (.int (k : Int)), .ow o, s3, s4, s5, s6, s7, s8, s9]) (by simp [ev, evA, evO, evC, evI, evF, exS, exB, Ms.seq, Mo.bnd, Mo.ret, Mo.lift, Mo.opd, RV.opd, Mo.set, RV.set, Mo.tst, Mo.imm, Mo.imms, Mo.nox, opds, OB.toD, atD, cmpD, binD, bltD, prepR, preps, storeR, storesR, nxOf, Mo.fl, isNon, tysD, tyD, intD, intsD, seqD, lstD, methD, isMut, mutD, callD, permL, bindT, slcD, startE, ioE, runD]) ?_)
  refine for_go0 (fun i env => ∃ o' s3 s4 s5 s6 s7 s8 s9, env = [.im (.frz zd), .im (.int (k : Int)), .ow o', s3, s4, s5, s6, s7, s8, s9] ∧ Well (500 * i) o') ⟨o, _, _, _, _, _, _, _, rfl, w⟩ ?_ ?_
  · rintro i d env hd ⟨o', s3, s4, s5, s6, s7, s8, s9, rfl, w⟩
    obtain ⟨hi, rfl⟩ := rng_get hd
    refine ⟨[.im (.frz zd), .im (.int (k : Int)), .ow o', .im (.int (i : Int)), s4, s5, s6, s7, s8, s9], by simp [bindT], ?_⟩
    exact turn_ok E w (by omega) fun o2 t4 t5 t6 t7 w2 => ⟨o2, _, _, _, _, _, _, _, rfl, w2.mono (by omega)⟩
  · rintro env ⟨o', s3, s4, s5, s6, s7, s8, s9, rfl, w⟩
    have w' : Well 3000 o' := w.mono (by simp)
    obtain ⟨y, o1, e1, y0, y1, w1⟩ := E.drw 3000 o' 14 w' (by omega) (by decide) (by decide +kernel)
    obtain ⟨x, hx, mx⟩ := at_some (ds := lodd) y0 (by simpa [lodd] using y1)
    have g := E.rgt x (odd_good x mx)
    refine ex_cons (asg_fr (o := .lst (lodd.dropLast)) (env1 := [.im (.frz zd), .im (.int (k : Int)), .ow o', s3, s4, s5, s6, s7, s8, s9]) (by simp [ev, evA, evO, evC, evI, evF, exS, exB, Ms.seq, Mo.bnd, Mo.ret, Mo.lift, Mo.opd, RV.opd, Mo.set, RV.set, Mo.tst, Mo.imm, Mo.imms, Mo.nox, opds, OB.toD, atD, cmpD, binD, bltD, prepR, preps, storeR, storesR, nxOf, Mo.fl, isNon, tysD, tyD, intD, intsD, seqD, lstD, methD, isMut, mutD, callD, permL, bindT, slcD, startE, ioE, runD, lw_odd, lodd, LIM]) ⟨rfl, by simp⟩ ?_)
    refine ex_cons (expr_go (r := .val .non) (env1 := [.im (.frz zd), .im (.int (k : Int)), .ow o', s3, s4, s5, s6, s7, s8, .ow (.lst lodd)]) (by simp [ev, evA, evO, evC, evI, evF, exS, exB, Ms.seq, Mo.bnd, Mo.ret, Mo.lift, Mo.opd, RV.opd, Mo.set, RV.set, Mo.tst, Mo.imm, Mo.imms, Mo.nox, opds, OB.toD, atD, cmpD, binD, bltD, prepR, preps, storeR, storesR, nxOf, Mo.fl, isNon, tysD, tyD, intD, intsD, seqD, lstD, methD, isMut, mutD, callD, permL, bindT, slcD, startE, ioE, runD, lodd, LIM]) ?_)
    refine ex_cons (if_go (b := false) (env1 := [.im (.frz zd), .im (.int (k : Int)), .ow o1, s3, s4, s5, s6, s7, s8, .ow (.lst lodd)]) (by simp [ev, evA, evO, evC, evI, evF, exS, exB, Ms.seq, Mo.bnd, Mo.ret, Mo.lift, Mo.opd, RV.opd, Mo.set, RV.set, Mo.tst, Mo.imm, Mo.imms, Mo.nox, opds, OB.toD, atD, cmpD, binD, bltD, prepR, preps, storeR, storesR, nxOf, Mo.fl, isNon, tysD, tyD, intD, intsD, seqD, lstD, methD, isMut, mutD, callD, permL, bindT, slcD, startE, ioE, runD, e1, hx, g]) ?_)
    rw [if_neg Bool.false_ne_true]
    exact ex_nil (ex_nil (q _ _ _ _ _ _ _ _))
theorem law_ok (E : Env1 Φ) (zs : List Int) (h : zs.length ≤ 63) : runD Φ wn f_law none [.frz (zs.map .int)] = some (.ok (.val (.bl true)) none) := by
  have g := E.isf (.tup [.non]) ⟨rfl, fun ds e => by cases e; exact ⟨by decide, by simp [noFrz]⟩⟩
  have t : isForest (.tup [.non]) = true := by decide +kernel
  rw [t] at g
  obtain ⟨K, hK, hK2⟩ : ∃ K : Nat, (if (1 : Int) < (if (zs.length : Int) < 6 then (zs.length : Int) else 6) then (if (zs.length : Int) < 6 then (zs.length : Int) else 6) else 1) = (K : Int) ∧ K ≤ 6 := by
    refine ⟨max 1 (min 6 zs.length), ?_, by omega⟩
    omega
  have hr : -100000 ≤ (K : Int) ∧ (K : Int) ≤ 100000 := by omega
  obtain ⟨r, o, e, h1, h2⟩ := run_go (Φ := Φ) (wn := wn) (d := f_law) (io := none) (ds := [.frz (zs.map .int)]) (env := [.im (.frz (zs.map .int)), .un, .un, .un, .un, .un, .un, .un, .un, .un]) (Q := fun r o => r = .val (.bl true) ∧ o = none) rfl (by
    refine ex_cons (for_st (ds := (List.range K).map fun (k : Nat) => D.int (0 + (k : Int))) (env1 := [.im (.frz (zs.map .int)), .un, .un, .un, .un, .un, .un, .un, .un, .un]) (by simp [ev, evA, evO, evC, evI, evF, exS, exB, Ms.seq, Mo.bnd, Mo.ret, Mo.lift, Mo.opd, RV.opd, Mo.set, RV.set, Mo.tst, Mo.imm, Mo.imms, Mo.nox, opds, OB.toD, atD, cmpD, binD, bltD, prepR, preps, storeR, storesR, nxOf, Mo.fl, isNon, tysD, tyD, intD, intsD, seqD, lstD, methD, isMut, mutD, callD, permL, bindT, slcD, startE, ioE, runD, hK, hr]) ?_)
    refine for_go0 (fun i env => ∃ s1 s2 s3 s4 s5 s6 s7 s8 s9, env = [.im (.frz (zs.map .int)), s1, s2, s3, s4, s5, s6, s7, s8, s9]) ⟨_, _, _, _, _, _, _, _, _, rfl⟩ ?_ ?_
    · rintro i d env hd ⟨s1, s2, s3, s4, s5, s6, s7, s8, s9, rfl⟩
      obtain ⟨hi, rfl⟩ := rng_get hd
      refine ⟨[.im (.frz (zs.map .int)), .im (.int (i : Int)), s2, s3, s4, s5, s6, s7, s8, s9], by simp [bindT], ?_⟩
      exact at_ok E (by omega) fun t2 t3 t4 t5 t6 t7 t8 t9 => ⟨_, _, _, _, _, _, _, _, _, rfl⟩
    · rintro env ⟨s1, s2, s3, s4, s5, s6, s7, s8, s9, rfl⟩
      exact ex_cons (ret_val (d := .bl true) (env1 := [.im (.frz (zs.map .int)), s1, s2, s3, s4, s5, s6, s7, s8, s9]) (by simp [ev, evA, evO, evC, evI, evF, exS, exB, Ms.seq, Mo.bnd, Mo.ret, Mo.lift, Mo.opd, RV.opd, Mo.set, RV.set, Mo.tst, Mo.imm, Mo.imms, Mo.nox, opds, OB.toD, atD, cmpD, binD, bltD, prepR, preps, storeR, storesR, nxOf, Mo.fl, isNon, tysD, tyD, intD, intsD, seqD, lstD, methD, isMut, mutD, callD, permL, bindT, slcD, startE, ioE, runD, g, LIM]) ⟨none, rfl, rfl, rfl⟩))
  rw [e, h1, h2]
end

abbrev R : PySem.W.OpenRow := PySem.W.OpenLaw.row PySem.Challenge.rw_heldbehind_k01_forests_judged
def top (i : Nat) : Stmt := PySem.Challenge.pw_heldbehind_k01_forests_judged.main.body.getD i (.Pass ⟨0, 0, 0, 0⟩)
def d_is_integer : DefI := { name := ("is_integer" : PySem.Str), st := top 1, N := [("value" : PySem.Str), ("least" : PySem.Str), ("most" : PySem.Str)], ps := [("value" : PySem.Str), ("least" : PySem.Str), ("most" : PySem.Str)], own := [], kl := [], df := f_is_integer }
def d_is_rooted : DefI := { name := ("is_rooted" : PySem.Str), st := top 3, N := [("forest" : PySem.Str), ("thing" : PySem.Str), ("here" : PySem.Str), ("step" : PySem.Str)], ps := [("forest" : PySem.Str)], own := [], kl := [], df := f_is_rooted }
def d_is_forest : DefI := { name := ("is_forest" : PySem.Str), st := top 4, N := [("value" : PySem.Str), ("holder" : PySem.Str)], ps := [("value" : PySem.Str)], own := [], kl := [([("value" : PySem.Str)], [0])], df := f_is_forest 0 1 }
def d__law_well : DefI := { name := ("_law_well" : PySem.Str), st := top 6, N := [("script" : PySem.Str), ("at" : PySem.Str), ("cell" : PySem.Str)], ps := [("script" : PySem.Str), ("at" : PySem.Str)], own := [], kl := [], df := f_well }
def d__law_draw : DefI := { name := ("_law_draw" : PySem.Str), st := top 7, N := [("well" : PySem.Str), ("most" : PySem.Str), ("digit" : PySem.Str), ("blend" : PySem.Str)], ps := [("well" : PySem.Str), ("most" : PySem.Str)], own := [], kl := [], df := f_draw }
def d__law_forest : DefI := { name := ("_law_forest" : PySem.Str), st := top 8, N := [("well" : PySem.Str), ("most" : PySem.Str), ("size" : PySem.Str), ("way" : PySem.Str), ("found" : PySem.Str), ("k" : PySem.Str), ("some" : PySem.Str), ("names" : PySem.Str), ("left" : PySem.Str), ("turned_here" : PySem.Str)], ps := [("well" : PySem.Str), ("most" : PySem.Str)], own := [("found" : PySem.Str), ("names" : PySem.Str), ("left" : PySem.Str), ("turned_here" : PySem.Str)], kl := [], df := f_law_forest 4 }
def d__law_is : DefI := { name := ("_law_is" : PySem.Str), st := top 9, N := [("thing_here" : PySem.Str), ("one" : PySem.Str), ("left" : PySem.Str), ("k" : PySem.Str)], ps := [("thing_here" : PySem.Str)], own := [], kl := [], df := f_law_is }
def d__law_bent : DefI := { name := ("_law_bent" : PySem.Str), st := top 10, N := [("well" : PySem.Str), ("plan" : PySem.Str), ("spot" : PySem.Str), ("odd" : PySem.Str), ("way" : PySem.Str)], ps := [("well" : PySem.Str), ("plan" : PySem.Str)], own := [], kl := [], df := f_law_bent 4 }
def d__law_right : DefI := { name := ("_law_right" : PySem.Str), st := top 11, N := [("thing_here" : PySem.Str), ("before" : PySem.Str), ("told" : PySem.Str), ("due" : PySem.Str)], ps := [("thing_here" : PySem.Str)], own := [], kl := [], df := f_law_right 2 6 }
def d_law : DefI := { name := ("law" : PySem.Str), st := top 12, N := [("script" : PySem.Str), ("at" : PySem.Str), ("well" : PySem.Str), ("turn" : PySem.Str), ("plan" : PySem.Str), ("bent" : PySem.Str), ("size" : PySem.Str), ("ring" : PySem.Str), ("k" : PySem.Str), ("odd" : PySem.Str)], ps := [("script" : PySem.Str)], own := [("well" : PySem.Str), ("odd" : PySem.Str)], kl := [], df := f_law }
def defs : List DefI := [d_is_integer, d_is_rooted, d_is_forest, d__law_well, d__law_draw, d__law_forest, d__law_is, d__law_bent, d__law_right, d_law]
def bls : List PySem.Str := [("range" : PySem.Str), ("len" : PySem.Str), ("isinstance" : PySem.Str), ("int" : PySem.Str), ("bool" : PySem.Str), ("list" : PySem.Str), ("tuple" : PySem.Str), ("abs" : PySem.Str), ("max" : PySem.Str), ("min" : PySem.Str), ("all" : PySem.Str), ("repr" : PySem.Str)]
def T : Tab := ⟨tabOf defs, [], bls⟩
theorem ok_is_integer : d_is_integer.Ok T := ⟨by kernel_rfl, ⟨rfl, rfl, rfl, by decide +kernel, rfl, by decide +kernel, by decide +kernel⟩, rfl, rfl, fun _ _ _ _ _ _ us hl => match us, hl with | [_, _, _], _ => rfl, fun q hq => nomatch hq⟩
theorem ok_is_rooted : d_is_rooted.Ok T := ⟨by kernel_rfl, ⟨rfl, rfl, rfl, by decide +kernel, rfl, by decide +kernel, by decide +kernel⟩, rfl, rfl, fun _ _ _ _ _ _ us hl => match us, hl with | [_], _ => rfl, fun q hq => nomatch hq⟩
theorem ok_is_forest : d_is_forest.Ok T := ⟨by kernel_rfl, ⟨rfl, rfl, rfl, by decide +kernel, rfl, by decide +kernel, by decide +kernel⟩, rfl, rfl, fun _ _ _ _ _ _ us hl => match us, hl with | [_], _ => rfl, fun q hq => by
    simp only [d_is_forest, List.mem_cons, List.not_mem_nil, or_false] at hq
    rcases hq with rfl
    all_goals exact fun _ _ _ _ _ _ us ws hl hp => match us, hl with
      | [a0], _ => by
        cases hp
        rfl⟩
theorem ok__law_well : d__law_well.Ok T := ⟨by kernel_rfl, ⟨rfl, rfl, rfl, by decide +kernel, rfl, by decide +kernel, by decide +kernel⟩, rfl, rfl, fun _ _ _ _ _ _ us hl => match us, hl with | [_, _], _ => rfl, fun q hq => nomatch hq⟩
theorem ok__law_draw : d__law_draw.Ok T := ⟨by kernel_rfl, ⟨rfl, rfl, rfl, by decide +kernel, rfl, by decide +kernel, by decide +kernel⟩, rfl, rfl, fun _ _ _ _ _ _ us hl => match us, hl with | [_, _], _ => rfl, fun q hq => nomatch hq⟩
theorem ok__law_forest : d__law_forest.Ok T := ⟨by kernel_rfl, ⟨rfl, rfl, rfl, by decide +kernel, rfl, by decide +kernel, by decide +kernel⟩, rfl, rfl, fun _ _ _ _ _ _ us hl => match us, hl with | [_, _], _ => rfl, fun q hq => nomatch hq⟩
theorem ok__law_is : d__law_is.Ok T := ⟨by kernel_rfl, ⟨rfl, rfl, rfl, by decide +kernel, rfl, by decide +kernel, by decide +kernel⟩, rfl, rfl, fun _ _ _ _ _ _ us hl => match us, hl with | [_], _ => rfl, fun q hq => nomatch hq⟩
theorem ok__law_bent : d__law_bent.Ok T := ⟨by kernel_rfl, ⟨rfl, rfl, rfl, by decide +kernel, rfl, by decide +kernel, by decide +kernel⟩, rfl, rfl, fun _ _ _ _ _ _ us hl => match us, hl with | [_, _], _ => rfl, fun q hq => nomatch hq⟩
theorem ok__law_right : d__law_right.Ok T := ⟨by kernel_rfl, ⟨rfl, rfl, rfl, by decide +kernel, rfl, by decide +kernel, by decide +kernel⟩, rfl, rfl, fun _ _ _ _ _ _ us hl => match us, hl with | [_], _ => rfl, fun q hq => nomatch hq⟩
theorem ok_law : d_law.Ok T := ⟨by kernel_rfl, ⟨rfl, rfl, rfl, by decide +kernel, rfl, by decide +kernel, by decide +kernel⟩, rfl, rfl, fun _ _ _ _ _ _ us hl => match us, hl with | [_], _ => rfl, fun q hq => nomatch hq⟩
theorem oks : ∀ d ∈ defs, d.Ok T := by
  intro d hd
  simp only [defs, List.mem_cons, List.not_mem_nil, or_false] at hd
  rcases hd with rfl | rfl | rfl | rfl | rfl | rfl | rfl | rfl | rfl | rfl
  · exact ok_is_integer
  · exact ok_is_rooted
  · exact ok_is_forest
  · exact ok__law_well
  · exact ok__law_draw
  · exact ok__law_forest
  · exact ok__law_is
  · exact ok__law_bent
  · exact ok__law_right
  · exact ok_law
def loose0 : List PySem.Str := [("is_integer" : PySem.Str), ("is_rooted" : PySem.Str), ("is_forest" : PySem.Str), ("_law_well" : PySem.Str), ("_law_draw" : PySem.Str), ("_law_forest" : PySem.Str), ("_law_is" : PySem.Str), ("_law_bent" : PySem.Str), ("_law_right" : PySem.Str)]
def loose : List PySem.Str := loose0
abbrev fa : List He.Fa := faOf defs bls
abbrev fn : List He.DefD := fnOfs defs
abbrev hk : PySem.W.Hook := hookS 4 fa fn
def ob (s : PySem.W.SharedT) : He.AlD × Bool := obsS 4 fa fn s
theorem ob_eq (s : PySem.W.SharedT) : ob s = hk.obs s.abs := obsS_eq s
theorem run (w : World) : HandSHeadRun.RunEq R (PySem.W.view R.prog [12]) hk ob 6000 loose w := by
  intro os
  kernel_rfl
theorem run_at (n i : Nat) (d : DefI) (h : defs[i]? = some d) : runF (prgOf defs) 4000 (n + 1) i = runD (runF (prgOf defs) 4000 n) 4000 d.df := by
  funext o ds
  show (match prgOf defs i with
    | some d => runD (runF (prgOf defs) 4000 n) 4000 d o ds
    | none => none) = _
  unfold prgOf
  rw [h]
  rfl
theorem env1 (n : Nat) : Env1 (runF (prgOf defs) 4000 (n + 4)) := by
  have isf : ∀ m d, Ask d → runF (prgOf defs) 4000 (m + 2) 2 none [d] = some (.ok (.val (.bl (isForest d))) none) := fun m d hd => by
    rw [run_at _ 2 _ rfl]
    exact forest_ok (fun d lo hi h => by rw [run_at _ 0 _ rfl]; exact int_ok h) (fun ds f l => by rw [run_at _ 1 _ rfl]; exact rooted_ok f l) hd
  have drw : ∀ m, DrawOk (runF (prgOf defs) 4000 (m + 1) 4) := fun m => by rw [run_at _ 4 _ rfl]; exact draw_ok
  refine ⟨fun d hd => isf (n + 2) d hd, fun d hd => ?_, fun zs k hk => ?_, drw _, fun m o mi hw hn hm => ?_, fun m o ds hw hn hs h0 hl => ?_⟩
  · obtain ⟨ha, t, ht⟩ := hd
    rw [run_at _ 8 _ rfl]
    exact right_ok (isf (n + 1) d ha) (by rw [run_at _ 6 _ rfl]; exact law_is_ok ha) ht
  · rw [run_at _ 3 _ rfl]; exact well_ok zs hk
  · rw [run_at _ 5 _ rfl]; exact plan_ok (drw _) hw hn hm
  · rw [run_at _ 7 _ rfl]; exact bent_ok (drw _) hw hn hs h0 hl
theorem pure_law (zs : List Int) (h : zs.length ≤ 63) : runF (prgOf defs) 4000 (12 + 1) 9 none [.frz (zs.map .int)] = some (.ok (.val (.bl true)) none) := by
  rw [run_at 12 9 _ rfl]
  exact law_ok (env1 8) zs h
end HB.k01
open PySem PySem.W PySem.Calls PyProof.Rows
theorem PySem.Challenge.cw_heldbehind_k01_forests_judged_holds : PySem.Challenge.rw_heldbehind_k01_forests_judged.Holds := by
  w_on; o_law
  refine HandSHeadRun.head_any (r := HB.k01.R) (q := view HB.k01.R.prog [12]) (H := HB.k01.hk) (ob := HB.k01.ob) (M := 6000) (loose := HB.k01.loose) (d := HandSHeadRun.topDef HB.k01.R.prog 12) (kwd := []) HB.k01.ob_eq
    (by kernel_rfl) (fun s => by kernel_rfl) HB.k01.run (by kernel_rfl) (by kernel_rfl) (by kernel_rfl) (by rfl) (by first | assumption | decide +kernel) (by decide +kernel) ⟨rfl, rfl, rfl, rfl, rfl, by decide +kernel⟩ ?hw ?hc
  case hw => w_witness2
  case hc =>
    exact HB.walk_hb (l := PySem.Challenge.rw_heldbehind_k01_forests_judged) (m := 63) 4 HB.k01.defs HB.k01.bls 4000 12 9 HB.k01.d_law rfl (by decide) (by kernel_rfl) ⟨rfl, by decide, by decide⟩ HB.k01.oks rfl rfl (by kernel_rfl) HB.k01.pure_law
