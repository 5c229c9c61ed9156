import PyProof.Rows.All
import Wide.All
import OpenK.AllK
import Wide.FinOn
import HandS.ForMost
import HandS.ForExc
import HandS.Star
import HandS.CallSlots
import PyProof.ReprRoads
import HandS.SetFor
import HandS.Deep
import HandS.Strs
import HandS.IsInst
import HandS.Style
import HandS.Wide
import HandS.TupAny
import HandS.Conv
import HandS.SortInts
import HandS.ExcIs
import HandS.HeadHook1
import HandS.Small
import HandS.DictComp
import HandS.NoneIn
import PyProof.Rows.RuleB_pow
import HandS.TupMul
import HandS.Iter
import KE.GoesEnum
import HandS.Exc
import HandS.Defaults
import HandS.Ends
import HandS.HeadEnd
import HandS.Head0
import HandS.Head1
import HandS.Head2
import HandS.HeadHook2
import HandS.HeadHook4
import PySem.Challenge.RW_heldbehind_k47_errors_of_changes
set_option Elab.async false
set_option linter.all false
set_option maxRecDepth 100000
set_option maxHeartbeats 2000000
/-! HBCore: plain data D, how a value of the heap bears it, the state of a body: a frozen heap below the true one, and the things that a body owns. -/
namespace HB
open PySem PySem.Spec PyProof.Rows L2

/-- plain data; frz: the script -/
inductive D where
  | non | bl (b : Bool) | int (i : Int) | str (x : Str)
  | lst (ds : List D) | tup (ds : List D) | frz (ds : List D)
  | dK (ks : List Key) (ds : List D) | dT (ks : List (List Key)) (ds : List D)
  | exc (c : Nat)
/-- what an owned thing holds -/
inductive OB where
  | lst (ds : List D) | dK (ks : List Key) (ds : List D) | dT (ks : List (List Key)) (ds : List D)
def OB.toD : OB → D
  | .lst ds => .lst ds
  | .dK ks ds => .dK ks ds
  | .dT ks ds => .dT ks ds
/-- a slot: not known, data, an owned thing -/
inductive Sl where
  | un | im (d : D) | ow (o : OB)
abbrev Evn := List Sl
/-- a value: data, the thing owned by a slot, a thing just made -/
inductive RV where
  | val (d : D) | bo (i : Nat) | fr (o : OB)

abbrev Fg := PySem.W.Frag
def Le (H H' : Hp) : Prop := ∀ b o, H b = some o → H' b = some o
theorem Le.refl (H : Hp) : Le H H := fun _ _ h => h
theorem Le.trans {H H1 H2 : Hp} (a : Le H H1) (b : Le H1 H2) : Le H H2 := fun x o h => b x o (a x o h)
theorem Le.new {H : Hp} {p : Addr} {o : HO} (h : H p = none) : Le H (upd H p o) := fun a u e => by
  rw [upd_ne (ne_of_none e h)]; exact e
theorem Le.none {H H' : Hp} (e : Le H H') {p : Addr} (h : H' p = Option.none) : H p = Option.none := by
  cases q : H p with
  | none => rfl
  | some o => rw [e p o q] at h; cases h
theorem Le.rd {H H' : Hp} (e : Le H H') {a : Addr} {u : HO} (h : Rd H a u) : Rd H' a u := by
  rcases h with h | ⟨o, h⟩
  · exact .inl (e a _ h)
  · exact .inr ⟨o, e a _ h⟩
theorem Le.sql {K : Fg} {H H' : Hp} (e : Le H H') {a : Addr} {xs : List V} (h : SqL K H a xs) : SqL K H' a xs := by
  rcases h with h | h
  · exact .inl (e.rd h)
  · exact .inr h
theorem Le.sqt {K : Fg} {H H' : Hp} (e : Le H H') {a : Addr} {xs : List V} (h : SqT K H a xs) : SqT K H' a xs := by
  rcases h with h | h
  · exact .inl (e.rd h)
  · exact .inr h

mutual
/-- v bears the data d in H -/
def Rp (K : Fg) (H : Hp) : D → V → Prop
  | .non, v => v = .non
  | .bl b, v => v = .bl b
  | .int i, v => v = .int i
  | .str x, v => v = .str x
  | .lst ds, v => ∃ a xs, v = .ref a ∧ H a = some (.lst xs) ∧ RpAll K H ds xs
  | .tup ds, v => ∃ a xs, v = .ref a ∧ SqT K H a xs ∧ RpAll K H ds xs
  | .frz ds, v => ∃ a xs, v = .ref a ∧ SqL K H a xs ∧ RpAll K H ds xs
  | .dK ks ds, v => ∃ a xs, v = .ref a ∧ H a = some (.dK (ks.zip xs)) ∧ ks.length = xs.length ∧ RpAll K H ds xs
  | .dT ks ds, v => ∃ a xs, v = .ref a ∧ H a = some (.dT (ks.zip xs)) ∧ ks.length = xs.length ∧ RpAll K H ds xs
  | .exc _, v => ∃ a, v = .ref a
def RpAll (K : Fg) (H : Hp) : List D → List V → Prop
  | [], xs => xs = []
  | d :: ds, xs => ∃ y ys, xs = y :: ys ∧ Rp K H d y ∧ RpAll K H ds ys
end
mutual
theorem Rp.mono {K : Fg} {H H' : Hp} (e : Le H H') : ∀ (d : D) (v : V), Rp K H d v → Rp K H' d v
  | .non, _, h => h
  | .bl _, _, h => h
  | .int _, _, h => h
  | .str _, _, h => h
  | .lst ds, _, ⟨a, xs, h1, h2, h3⟩ => ⟨a, xs, h1, e _ _ h2, RpAll.mono e ds xs h3⟩
  | .tup ds, _, ⟨a, xs, h1, h2, h3⟩ => ⟨a, xs, h1, e.sqt h2, RpAll.mono e ds xs h3⟩
  | .frz ds, _, ⟨a, xs, h1, h2, h3⟩ => ⟨a, xs, h1, e.sql h2, RpAll.mono e ds xs h3⟩
  | .dK _ ds, _, ⟨a, xs, h1, h2, h4, h3⟩ => ⟨a, xs, h1, e _ _ h2, h4, RpAll.mono e ds xs h3⟩
  | .dT _ ds, _, ⟨a, xs, h1, h2, h4, h3⟩ => ⟨a, xs, h1, e _ _ h2, h4, RpAll.mono e ds xs h3⟩
  | .exc _, _, h => h
theorem RpAll.mono {K : Fg} {H H' : Hp} (e : Le H H') : ∀ (ds : List D) (xs : List V), RpAll K H ds xs → RpAll K H' ds xs
  | [], _, h => h
  | d :: ds, _, ⟨y, ys, h1, h2, h3⟩ => ⟨y, ys, h1, Rp.mono e d y h2, RpAll.mono e ds ys h3⟩
end
section
variable {K : Fg} {H : Hp}
theorem RpAll.length : ∀ {ds : List D} {xs : List V}, RpAll K H ds xs → ds.length = xs.length
  | [], _, h => by cases h; rfl
  | d :: ds, _, ⟨y, ys, h1, _, h3⟩ => by subst h1; simp [RpAll.length h3]
theorem RpAll.get : ∀ {ds : List D} {xs : List V} {i : Nat} {d : D}, RpAll K H ds xs → ds[i]? = some d → ∃ x, xs[i]? = some x ∧ Rp K H d x
  | [], _, _, _, _, h => by simp at h
  | d :: ds, _, 0, _, ⟨y, ys, h1, h2, h3⟩, h => by subst h1; simp at h; subst h; exact ⟨y, rfl, h2⟩
  | d :: ds, _, i + 1, _, ⟨y, ys, h1, h2, h3⟩, h => by subst h1; simpa using RpAll.get (i := i) h3 (by simpa using h)
theorem RpAll.get' : ∀ {ds : List D} {xs : List V} {i : Nat} {x : V}, RpAll K H ds xs → xs[i]? = some x → ∃ d, ds[i]? = some d ∧ Rp K H d x
  | [], _, _, _, e, h => by cases e; simp at h
  | d :: ds, _, 0, _, ⟨y, ys, h1, h2, h3⟩, h => by subst h1; simp at h; subst h; exact ⟨d, rfl, h2⟩
  | d :: ds, _, i + 1, _, ⟨y, ys, h1, h2, h3⟩, h => by subst h1; simpa using RpAll.get' (i := i) h3 (by simpa using h)
theorem RpAll.app : ∀ {ds es : List D} {xs ys : List V}, RpAll K H ds xs → RpAll K H es ys → RpAll K H (ds ++ es) (xs ++ ys)
  | [], _, _, _, h, k => by cases h; exact k
  | d :: ds, _, _, _, ⟨y, ys, h1, h2, h3⟩, k => by subst h1; exact ⟨y, ys ++ _, rfl, h2, RpAll.app h3 k⟩
theorem RpAll.one {d : D} {v : V} (h : Rp K H d v) : RpAll K H [d] [v] := ⟨v, [], rfl, h, rfl⟩
theorem RpAll.nil : RpAll K H [] [] := rfl
theorem RpAll.cons {d : D} {ds : List D} {v : V} {vs : List V} (h : Rp K H d v) (k : RpAll K H ds vs) : RpAll K H (d :: ds) (v :: vs) := ⟨v, vs, rfl, h, k⟩
theorem RpAll.take : ∀ {ds : List D} {xs : List V} (n : Nat), RpAll K H ds xs → RpAll K H (ds.take n) (xs.take n)
  | _, _, 0, _ => rfl
  | [], _, n + 1, h => by cases h; exact (rfl : RpAll K H [] [])
  | d :: ds, _, n + 1, ⟨y, ys, h1, h2, h3⟩ => by subst h1; exact ⟨y, _, rfl, h2, RpAll.take n h3⟩
theorem RpAll.drop : ∀ {ds : List D} {xs : List V} (n : Nat), RpAll K H ds xs → RpAll K H (ds.drop n) (xs.drop n)
  | _, _, 0, h => h
  | [], _, n + 1, h => by cases h; exact (rfl : RpAll K H [] [])
  | d :: ds, _, n + 1, ⟨y, ys, h1, h2, h3⟩ => by subst h1; exact RpAll.drop n h3
theorem RpAll.rev {ds : List D} {xs : List V} (h : RpAll K H ds xs) : RpAll K H ds.reverse xs.reverse := by
  induction ds generalizing xs with
  | nil => cases h; exact (rfl : RpAll K H [] [])
  | cons d ds ih =>
    obtain ⟨y, ys, h1, h2, h3⟩ := h
    subst h1
    rw [List.reverse_cons, List.reverse_cons]
    exact RpAll.app (ih h3) (RpAll.one h2)
theorem RpAll.set : ∀ {ds : List D} {xs : List V} {d : D} {x : V} (i : Nat), RpAll K H ds xs → Rp K H d x → RpAll K H (ds.set i d) (xs.set i x)
  | [], _, _, _, _, h, _ => by cases h; exact (rfl : RpAll K H [] [])
  | d :: ds, _, _, x, 0, ⟨y, ys, h1, h2, h3⟩, k => by subst h1; exact ⟨x, ys, rfl, k, h3⟩
  | d :: ds, _, _, _, i + 1, ⟨y, ys, h1, h2, h3⟩, k => by subst h1; exact ⟨y, _, rfl, h2, RpAll.set i h3 k⟩
theorem RpAll.erase : ∀ {ds : List D} {xs : List V} (i : Nat), RpAll K H ds xs → RpAll K H (ds.eraseIdx i) (xs.eraseIdx i)
  | [], _, _, h => by cases h; exact (rfl : RpAll K H [] [])
  | d :: ds, _, 0, ⟨y, ys, h1, h2, h3⟩ => by subst h1; exact h3
  | d :: ds, _, i + 1, ⟨y, ys, h1, h2, h3⟩ => by subst h1; exact ⟨y, _, rfl, h2, RpAll.erase i h3⟩
theorem RpAll.rep {ds : List D} {xs : List V} (h : RpAll K H ds xs) : ∀ n, RpAll K H (List.replicate n ds).flatten (List.replicate n xs).flatten
  | 0 => rfl
  | n + 1 => by
    rw [List.replicate_succ, List.replicate_succ, List.flatten_cons, List.flatten_cons]
    exact RpAll.app h (RpAll.rep h n)
end
/-- the data at an owned address -/
def OBat (K : Fg) (Hb H : Hp) (a : Addr) : OB → Prop
  | .lst ds => ∃ xs, H a = some (.lst xs) ∧ RpAll K Hb ds xs
  | .dK ks ds => ∃ xs, H a = some (.dK (ks.zip xs)) ∧ ks.length = xs.length ∧ RpAll K Hb ds xs
  | .dT ks ds => ∃ xs, H a = some (.dT (ks.zip xs)) ∧ ks.length = xs.length ∧ RpAll K Hb ds xs
theorem OBat.there {K : Fg} {Hb H : Hp} {a : Addr} : ∀ {o : OB}, OBat K Hb H a o → ∃ u, H a = some u
  | .lst _, ⟨_, h, _⟩ => ⟨_, h⟩
  | .dK _ _, ⟨_, h, _⟩ => ⟨_, h⟩
  | .dT _ _, ⟨_, h, _⟩ => ⟨_, h⟩
theorem OBat.mono {K : Fg} {Hb Hb' H H' : Hp} {a : Addr} (e : Le Hb Hb') (h : H' a = H a) : ∀ {o : OB}, OBat K Hb H a o → OBat K Hb' H' a o
  | .lst _, ⟨xs, h1, h2⟩ => ⟨xs, h.trans h1, h2.mono e⟩
  | .dK _ _, ⟨xs, h1, h3, h2⟩ => ⟨xs, h.trans h1, h3, h2.mono e⟩
  | .dT _ _, ⟨xs, h1, h3, h2⟩ => ⟨xs, h.trans h1, h3, h2.mono e⟩
/-- an owned thing is frozen -/
theorem OBat.froze {K : Fg} {Hb Hb' H : Hp} {a : Addr} {o : OB} (e : Le Hb Hb') (h : OBat K Hb H a o) (k : Hb' a = H a) : Rp K Hb' o.toD (.ref a) := by
  cases o with
  | lst ds => obtain ⟨xs, h1, h2⟩ := h; exact ⟨a, xs, rfl, k.trans h1, h2.mono e⟩
  | dK ks ds => obtain ⟨xs, h1, h3, h2⟩ := h; exact ⟨a, xs, rfl, k.trans h1, h3, h2.mono e⟩
  | dT ks ds => obtain ⟨xs, h1, h3, h2⟩ := h; exact ⟨a, xs, rfl, k.trans h1, h3, h2.mono e⟩
/-- data seen through the true heap: its parts stand in the frozen one -/
def Vw (K : Fg) (Hb H : Hp) : D → V → Prop
  | .lst ds, v => ∃ a xs, v = .ref a ∧ H a = some (.lst xs) ∧ RpAll K Hb ds xs
  | .dK ks ds, v => ∃ a xs, v = .ref a ∧ H a = some (.dK (ks.zip xs)) ∧ ks.length = xs.length ∧ RpAll K Hb ds xs
  | .dT ks ds, v => ∃ a xs, v = .ref a ∧ H a = some (.dT (ks.zip xs)) ∧ ks.length = xs.length ∧ RpAll K Hb ds xs
  | d, v => Rp K Hb d v
theorem Vw.of {K : Fg} {Hb H : Hp} (e : Le Hb H) {d : D} {v : V} (h : Rp K Hb d v) : Vw K Hb H d v := by
  cases d with
  | lst ds => obtain ⟨a, xs, h1, h2, h3⟩ := h; exact ⟨a, xs, h1, e _ _ h2, h3⟩
  | dK ks ds => obtain ⟨a, xs, h1, h2, h4, h3⟩ := h; exact ⟨a, xs, h1, e _ _ h2, h4, h3⟩
  | dT ks ds => obtain ⟨a, xs, h1, h2, h4, h3⟩ := h; exact ⟨a, xs, h1, e _ _ h2, h4, h3⟩
  | _ => exact h
theorem Vw.ob {K : Fg} {Hb H : Hp} {a : Addr} {o : OB} (h : OBat K Hb H a o) : Vw K Hb H o.toD (.ref a) := by
  cases o with
  | lst ds => obtain ⟨xs, h1, h2⟩ := h; exact ⟨a, xs, rfl, h1, h2⟩
  | dK ks ds => obtain ⟨xs, h1, h3, h2⟩ := h; exact ⟨a, xs, rfl, h1, h3, h2⟩
  | dT ks ds => obtain ⟨xs, h1, h3, h2⟩ := h; exact ⟨a, xs, rfl, h1, h3, h2⟩
theorem Vw.rp {K : Fg} {Hb H : Hp} (e : Le Hb H) {d : D} {v : V} (h : Vw K Hb H d v) : Rp K H d v := by
  cases d with
  | lst ds => obtain ⟨a, xs, h1, h2, h3⟩ := h; exact ⟨a, xs, h1, h2, h3.mono e⟩
  | dK ks ds => obtain ⟨a, xs, h1, h2, h4, h3⟩ := h; exact ⟨a, xs, h1, h2, h4, h3.mono e⟩
  | dT ks ds => obtain ⟨a, xs, h1, h2, h4, h3⟩ := h; exact ⟨a, xs, h1, h2, h4, h3.mono e⟩
  | non => exact Rp.mono e _ _ h
  | bl b => exact Rp.mono e _ _ h
  | int b => exact Rp.mono e _ _ h
  | str b => exact Rp.mono e _ _ h
  | tup b => exact Rp.mono e _ _ h
  | frz b => exact Rp.mono e _ _ h
  | exc c => exact Rp.mono e _ _ h

/-- where a body (or a block) began: the frozen heap, the heap, what was handed in to be changed (addresses, slots) -/
structure Bs where
  Hb : Hp
  H : Hp
  io : Addr → Prop
  ios : Nat → Bool
  fx : Option (Nat × Addr × Nat) := none
/-- the state -/
structure Stt (K : Fg) (B : Bs) (env : Evn) (σ : L2.St) (Hb H : Hp) : Prop where
  len : σ.length = env.length
  sub : Le Hb H
  im : ∀ (i : Nat) (d : D), env[i]? = some (.im d) → ∃ v, σ[i]? = some (some v) ∧ Rp K Hb d v
  ow : ∀ (i : Nat) (o : OB), env[i]? = some (.ow o) → ∃ a, σ[i]? = some (some (.ref a)) ∧ Hb a = none ∧ OBat K Hb H a o ∧ (if B.ios i = true then B.io a else B.H a = none ∧ ¬ B.io a)
  inj : ∀ (i j : Nat) (o o' : OB) (a : Addr), env[i]? = some (.ow o) → env[j]? = some (.ow o') → σ[i]? = some (some (.ref a)) → σ[j]? = some (some (.ref a)) → i = j
  exb : Le B.Hb Hb
  keep : ∀ b o, B.H b = some o → ¬ B.io b → H b = some o
  frs : ∀ b o, Hb b = some o → B.Hb b = none → B.H b = none ∨ B.io b
  iot : ∀ b, B.io b → ∃ o, H b = some o
  fx : ∀ i a c, B.fx = some (i, a, c) → σ[i]? = some (some (.ref a)) ∧ env[i]? = some (.im (.exc c))
section
variable {K : Fg} {B : Bs} {env : Evn} {σ : L2.St} {Hb H : Hp}
theorem Stt.fresh (S : Stt K B env σ Hb H) {p : Addr} (hp : H p = none) : B.H p = none ∧ ¬ B.io p := by
  have h1 : ¬ B.io p := fun z => by obtain ⟨o, e⟩ := S.iot p z; rw [hp] at e; cases e
  refine ⟨?_, h1⟩
  cases e : B.H p with
  | none => rfl
  | some o => have := S.keep p o e h1; rw [hp] at this; cases this
theorem Stt.hbn (S : Stt K B env σ Hb H) {p : Addr} (hp : H p = none) : Hb p = none := S.sub.none hp
/-- a new thing, not yet frozen -/
theorem Stt.newH (S : Stt K B env σ Hb H) {p : Addr} {u : HO} (hp : H p = none) : Stt K B env σ Hb (upd H p u) where
  len := S.len
  sub := fun b o e => by rw [upd_ne (ne_of_none e (S.hbn hp))]; exact S.sub b o e
  im := S.im
  ow := fun i o e => by
    obtain ⟨a, h1, h2, h3, h4⟩ := S.ow i o e
    obtain ⟨u', hu⟩ := h3.there
    exact ⟨a, h1, h2, h3.mono (Le.refl _) (upd_ne (ne_of_none hu hp)), h4⟩
  inj := S.inj
  exb := S.exb
  keep := fun b o e n => by
    have := S.keep b o e n
    rw [upd_ne (ne_of_none this hp)]; exact this
  frs := S.frs
  iot := fun b z => by
    obtain ⟨o, e⟩ := S.iot b z
    exact ⟨o, by rw [upd_ne (ne_of_none e hp)]; exact e⟩
  fx := S.fx
/-- a thing that no slot owns is frozen -/
theorem Stt.frz (S : Stt K B env σ Hb H) {p : Addr} {u : HO} (hp : H p = some u) (hn : Hb p = none) (hB : B.H p = none ∨ B.io p) (hf : ∀ (i : Nat) (o : OB), env[i]? = some (.ow o) → σ[i]? ≠ some (some (.ref p))) : Stt K B env σ (upd Hb p u) H where
  len := S.len
  sub := fun b o e => by
    by_cases h : b = p
    · subst h; rw [upd_same] at e; cases e; exact hp
    · rw [upd_ne h] at e; exact S.sub b o e
  im := fun i d e => by
    obtain ⟨v, h1, h2⟩ := S.im i d e
    exact ⟨v, h1, Rp.mono (Le.new hn) _ _ h2⟩
  ow := fun i o e => by
    obtain ⟨a, h1, h2, h3, h4⟩ := S.ow i o e
    have ne : a ≠ p := fun z => hf i o e (by rw [h1, z])
    exact ⟨a, h1, by rw [upd_ne ne]; exact h2, h3.mono (Le.new hn) rfl, h4⟩
  inj := S.inj
  exb := S.exb.trans (Le.new hn)
  keep := S.keep
  frs := fun b o e n => by
    by_cases h : b = p
    · subst h; exact hB
    · rw [upd_ne h] at e; exact S.frs b o e n
  iot := S.iot
  fx := S.fx
theorem Stt.nofr (S : Stt K B env σ Hb H) {p : Addr} (hp : H p = none) : ∀ (i : Nat) (o : OB), env[i]? = some (.ow o) → σ[i]? ≠ some (some (.ref p)) := fun i o e z => by
  obtain ⟨a, h1, h2, h3, h4⟩ := S.ow i o e
  rw [z] at h1; cases h1
  obtain ⟨u, hu⟩ := h3.there
  rw [hp] at hu; cases hu
/-- a new thing, frozen -/
theorem Stt.new (S : Stt K B env σ Hb H) {p : Addr} {u : HO} (hp : H p = none) : Stt K B env σ (upd Hb p u) (upd H p u) := by
  have S' := S.newH (u := u) hp
  exact S'.frz upd_same (S.hbn hp) (.inl (S.fresh hp).1) (S.nofr hp)
/-- a slot is forgotten -/
theorem Stt.forget (S : Stt K B env σ Hb H) (i : Nat) (hf : ∀ a c, B.fx ≠ some (i, a, c)) : Stt K B (env.set i .un) σ Hb H where
  len := by rw [List.length_set]; exact S.len
  sub := S.sub
  im := fun j d e => by
    by_cases h : i = j
    · subst h
      by_cases hl : i < env.length
      · rw [List.getElem?_set_self hl] at e; cases e
      · rw [List.getElem?_eq_none (by simpa using hl)] at e; cases e
    · rw [List.getElem?_set_ne h] at e; exact S.im j d e
  ow := fun j d e => by
    by_cases h : i = j
    · subst h
      by_cases hl : i < env.length
      · rw [List.getElem?_set_self hl] at e; cases e
      · rw [List.getElem?_eq_none (by simpa using hl)] at e; cases e
    · rw [List.getElem?_set_ne h] at e; exact S.ow j d e
  inj := fun j k o o' a e e' => by
    by_cases h : i = j
    · subst h
      by_cases hl : i < env.length
      · rw [List.getElem?_set_self hl] at e; cases e
      · rw [List.getElem?_eq_none (by simpa using hl)] at e; cases e
    · by_cases h' : i = k
      · subst h'
        by_cases hl : i < env.length
        · rw [List.getElem?_set_self hl] at e'; cases e'
        · rw [List.getElem?_eq_none (by simpa using hl)] at e'; cases e'
      · rw [List.getElem?_set_ne h] at e; rw [List.getElem?_set_ne h'] at e'
        exact S.inj j k o o' a e e'
  exb := S.exb
  keep := S.keep
  frs := S.frs
  iot := S.iot
  fx := fun j a c e => by
    have ne : i ≠ j := fun z => hf a c (by rw [z]; exact e)
    rw [List.getElem?_set_ne ne]
    exact S.fx j a c e
theorem Stt.nfx (S : Stt K B env σ Hb H) {i : Nat} (h : ∀ d, env[i]? ≠ some (.im d)) : ∀ a c, B.fx ≠ some (i, a, c) := fun a c e => h _ (S.fx i a c e).2
end
/-- a value bears a result -/
def RVOk (K : Fg) (B : Bs) (env : Evn) (σ : L2.St) (Hb H : Hp) (v : V) : RV → Prop
  | .val d => Rp K Hb d v
  | .bo i => σ[i]? = some (some v)
  | .fr o => ∃ p, v = .ref p ∧ Hb p = none ∧ OBat K Hb H p o ∧ B.H p = none ∧ ¬ B.io p ∧ ∀ (i : Nat) (o' : OB), env[i]? = some (.ow o') → σ[i]? ≠ some (some (.ref p))
/-- a thing just made is taken as data -/
def RV.set : RV → RV
  | .fr o => .val o.toD
  | r => r
/-- the data of a result, in a state -/
def RV.opd (env : Evn) : RV → Option D
  | .val d => some d
  | .fr _ => none
  | .bo i => match env[i]? with
    | some (.ow o) => some o.toD
    | some (.im d) => some d
    | _ => none
section
variable {K : Fg} {B : Bs} {env : Evn} {σ : L2.St} {Hb H : Hp}
/-- settled: from a state with a thing just made to one where it is frozen -/
theorem Stt.settle (S : Stt K B env σ Hb H) {v : V} {r : RV} (h : RVOk K B env σ Hb H v r) : ∃ Hb', Le Hb Hb' ∧ Stt K B env σ Hb' H ∧ RVOk K B env σ Hb' H v r.set := by
  cases r with
  | val d => exact ⟨Hb, Le.refl _, S, h⟩
  | bo i => exact ⟨Hb, Le.refl _, S, h⟩
  | fr o =>
    obtain ⟨p, rfl, h1, h2, h3, h4, h5⟩ := h
    obtain ⟨u, hu⟩ := h2.there
    exact ⟨upd Hb p u, Le.new h1, S.frz hu h1 (.inl h3) h5, h2.froze (Le.new h1) (by rw [upd_same, hu])⟩
theorem Stt.view (S : Stt K B env σ Hb H) {v : V} {r : RV} {d : D} (h : RVOk K B env σ Hb H v r) (e : r.opd env = some d) : Vw K Hb H d v := by
  cases r with
  | val d' => cases e; exact Vw.of S.sub h
  | fr o => cases e
  | bo i =>
    have h' : σ[i]? = some (some v) := h
    cases ho : env[i]? with
    | none => simp [RV.opd, ho] at e
    | some t =>
      cases t with
      | un => simp [RV.opd, ho] at e
      | im d' =>
        simp [RV.opd, ho] at e
        subst e
        obtain ⟨v', h1, h2⟩ := S.im i _ ho
        rw [h'] at h1; cases h1
        exact Vw.of S.sub h2
      | ow o =>
        simp [RV.opd, ho] at e
        subst e
        obtain ⟨a, h1, h2, h3, h4⟩ := S.ow i o ho
        rw [h'] at h1; cases h1
        exact Vw.ob h3
/-- settled results stay -/
theorem RVOk.stay {env' : Evn} {Hb' H' : Hp} {v : V} {r : RV} (h : RVOk K B env σ Hb H v r.set) (e : Le Hb Hb') : RVOk K B env' σ Hb' H' v r.set := by
  cases r with
  | val d => exact Rp.mono e _ _ h
  | bo i => exact h
  | fr o => exact Rp.mono e _ _ h
end
end HB

set_option Elab.async false
set_option linter.all false
set_option maxRecDepth 100000
set_option maxHeartbeats 2000000
/-! HBIr: a small language of slots, and what its terms are worth over plain data. -/
namespace HB
open PySem PySem.Spec PyProof.Rows L2

def LIM : Nat := 100000
inductive Bop where | add | sub | mul | div | mod | pow
inductive Cop where | eq | ne | lt | le | gt | ge | is | isn | mem | nmem
inductive Blt where | len | int | str | abs | max2 | min2 | maxL | minL | sum | all | any | sorted | list | listRng | tuple | repr | lenset
inductive Mth where | append | pop | popAt | extend | index | count | get1 | get2 | remove
inductive Tyc where | int | bool | str | list | tuple | dict | cls (c : Nat)

mutual
inductive IE where
  | var (i : Nat)
  | cst (d : D)
  | bin (o : Bop) (a b : IE)
  | neg (a : IE)
  | not (a : IE)
  | cmp (o : Cop) (a b : IE)
  | chn (o p : Cop) (a b c : IE)
  | and (a b : IE)
  | or (a b : IE)
  | ite (c a b : IE)
  | lst (es : IA)
  | tup (es : IA)
  | dct0
  | idx (a b : IE)
  | slc (a : IE) (lo hi : IO)
  | rev (a : IE)
  | call (f : Nat) (io : Bool) (es : IA)
  | callK (f : Nat) (perm : List Nat) (es : IA)
  | blt (b : Blt) (es : IA)
  | meth (m : Mth) (o : IE) (es : IA)
  | isi (e : IE) (ts : List Tyc)
  | comp (own : List Nat) (t : List Nat) (it : II) (c : IO) (e : IE)
  | dcomp (own : List Nat) (t : List Nat) (it : II) (c : IO) (k e : IE)
  | get1 (o k : IE)
  | get2 (o k x : IE)
  | listR2 (a b : IE)
  | isx (i : Nat) (cs : List Nat)
  | callF (f : Nat) (es : IA)
inductive IA where
  | nil
  | cons (e : IE) (r : IA)
  | star (e : IE) (r : IA)
inductive IO where
  | no
  | yes (e : IE)
inductive II where
  | rng1 (a : IE)
  | rng2 (a b : IE)
  | rng3 (a b c : IE)
  | seq (a : IE)
  | enum (a : IE)
end
/-- statements -/
inductive IS where
  | expr (e : IE)
  | asg (i : Nat) (own : Bool) (e : IE)
  | asgN (is : List Nat) (os : List Bool) (es : IA)
  | unp (is : List Nat) (e : IE)
  | setI (o i e : IE)
  | for_ (t ks : List Nat) (it : II) (body : List IS)
  | while_ (ks : List Nat) (c : IE) (body : List IS)
  | if_ (c : IE) (a b : List IS)
  | ifB (bs : List Nat) (c : IE) (a b : List IS)
  | ret (e : IE)
  | retN
  | brk
  | ct
  | pass
  | raise (c : Nat)
  | try_ (body : List IS) (i : Nat) (cs : List Nat) (suite : List IS) (pass : List Nat)
  | stuck

/-! ### data -/
mutual
def toPy : D → PyData
  | .non => .none
  | .bl b => .bool b
  | .int i => .int i
  | .str x => .str x
  | .lst ds => .list (toPys ds)
  | .tup ds => .tuple (toPys ds)
  | .frz ds => .list (toPys ds)
  | .dK _ _ => .dict []
  | .dT _ _ => .dict []
  | .exc _ => .dict []
def toPys : List D → List PyData
  | [] => []
  | d :: ds => toPy d :: toPys ds
end
def okPy (d : D) : Bool := SeqAt.shaped (toPy d)
def eqP (d e : D) : Option Bool := if okPy d && okPy e then some (PyData.eqv (toPy d) (toPy e)) else none
def eqD (d e : D) : Option Bool := match d, e with
  | .str x, .str y => some (x == y)
  | .int i, .int j => some (i == j)
  | .lst a, .lst b => if a.length ≠ b.length then some false else eqP (.lst a) (.lst b)
  | .tup a, .tup b => if a.isEmpty || b.isEmpty then some (a.isEmpty && b.isEmpty) else eqP (.tup a) (.tup b)
  | d, e => eqP d e
mutual
def reprOk : D → Bool
  | .non => true
  | .bl _ => true
  | .int _ => true
  | .str _ => true
  | .lst ds => reprOks ds
  | .tup ds => reprOks ds
  | .frz _ => false
  | .dK ks ds => ks.isEmpty && ds.isEmpty
  | .dT _ _ => false
  | .exc _ => false
def reprOks : List D → Bool
  | [] => true
  | d :: ds => reprOk d && reprOks ds
end
def reprD (d : D) : Option Str := if reprOk d && (toPy d).showable && decide ((toPy d).depth ≤ 64) && decide ((toPy d).shown.length ≤ LIM) then some (toPy d).shown else none
def mulOk (i j : Int) : Bool := decide (-(2 ^ 64) < i ∧ i < 2 ^ 64) || decide (-(2 ^ 64) < j ∧ j < 2 ^ 64) || decide (i.natAbs.log2 + j.natAbs.log2 < 1000000)
def binD : Bop → D → D → Option RV
  | .add, .int i, .int j => some (.val (.int (i + j)))
  | .add, .lst a, .lst b => if a.length + b.length ≤ LIM then some (.fr (.lst (a ++ b))) else none
  | .add, .tup a, .tup b => if a.length + b.length ≤ LIM then some (.val (.tup (a ++ b))) else none
  | .add, .str a, .str b => if a.length + b.length ≤ LIM then some (.val (.str (a ++ b))) else none
  | .sub, .int i, .int j => some (.val (.int (i - j)))
  | .mul, .int i, .int j => if mulOk i j = true then some (.val (.int (i * j))) else none
  | .mul, .tup a, .int k => if a ≠ [] ∧ 2 ≤ k ∧ k ≤ 1000 ∧ a.length ≤ 1000 then some (.val (.tup (List.replicate k.toNat a).flatten)) else none
  | .mul, .lst a, .int k => if k ≤ 100000 ∧ -100000 ≤ k ∧ a.length * k.toNat ≤ LIM then some (.fr (.lst (List.replicate k.toNat a).flatten)) else none
  | .div, .int i, .int j => if 0 < j ∧ j.natAbs.log2 < 9000 then some (.val (.int (i / j))) else none
  | .mod, .int i, .int j => if 0 < j then some (.val (.int (i % j))) else none
  | .pow, .int i, .int j => if 0 ≤ j ∧ (Builtin.Int.intBits i : Int) * j ≤ 2 ^ 27 then some (.val (.int (i ^ j.toNat))) else none
  | _, _, _ => none
def isNon : D → Bool
  | .non => true
  | _ => false
/-- scalars that may be sought in a row -/
def flatD : D → Option V
  | .non => some .non
  | .bl b => some (.bl b)
  | .int i => some (.int i)
  | .str x => some (.str x)
  | _ => none
def flatDs : List D → Option (List V)
  | [] => some []
  | d :: ds => match flatD d, flatDs ds with
    | some v, some vs => some (v :: vs)
    | _, _ => none
def memD (d : D) (ds : List D) : Option Bool := match flatD d, flatDs ds with
  | some v, some vs => some (inV v vs)
  | _, _ => none
/-- .. of any data in a list -/
def memL (d : D) (ds : List D) : Option Bool := match memD d ds with
  | some b => some b
  | none => if okPy d && okPy (.lst ds) then some (ds.any fun z => PyData.eqv (toPy z) (toPy d)) else none
def keyD : D → Option Key
  | .int i => some (.inl i)
  | .str x => some (.inr x)
  | _ => none
def atK {α : Type} (ks : List Key) (ds : List α) (k : Key) : Option α := ((ks.zip ds).find? fun p => decide (p.1 = k)).map (·.2)
/-- a dict with one more thing, or with another one at its key -/
def hasK (ks : List Key) (k : Key) : Bool := ks.any fun q => decide (q = k)
def putKs (ks : List Key) (k : Key) : List Key := if hasK ks k = true then ks else ks ++ [k]
def putX {α : Type} (ks : List Key) (xs : List α) (k : Key) (x : α) : List α := if hasK ks k = true then (ks.zip xs).map fun p => if p.1 = k then x else p.2 else xs ++ [x]
def memK (d : D) (ks : List Key) : Option Bool := match keyD d with
  | some k => some (hasK ks k)
  | none => match d with
    | .non => some false
    | _ => none
def get1D : D → D → Option D
  | .dK ks ds, d => match keyD d with
    | some k => some ((atK ks ds k).getD .non)
    | none => match d with
      | .non => some .non
      | _ => none
  | _, _ => none
def get2D : D → D → D → Option D
  | .dK ks ds, d, x => match keyD d with
    | some k => some ((atK ks ds k).getD x)
    | none => none
  | _, _, _ => none
def cmpD : Cop → D → D → Option Bool
  | .eq, d, e => eqD d e
  | .ne, d, e => (eqD d e).map (!·)
  | .lt, .int i, .int j => some (decide (i < j))
  | .le, .int i, .int j => some (decide (i ≤ j))
  | .gt, .int i, .int j => some (decide (j < i))
  | .ge, .int i, .int j => some (decide (j ≤ i))
  | .is, d, .non => some (isNon d)
  | .isn, d, .non => some (!isNon d)
  | .is, .bl a, .bl b => some (decide (a = b))
  | .isn, .bl a, .bl b => some (!decide (a = b))
  | .mem, d, .lst ds => memL d ds
  | .mem, d, .tup ds => memD d ds
  | .nmem, d, .lst ds => (memL d ds).map (!·)
  | .nmem, d, .tup ds => (memD d ds).map (!·)
  | .mem, d, .dK ks _ => memK d ks
  | .nmem, d, .dK ks _ => (memK d ks).map (!·)
  | _, _, _ => none
def atD : D → D → Option D
  | .lst ds, .int i => atI ds i
  | .tup ds, .int i => atI ds i
  | .frz ds, .int i => atI ds i
  | .dK ks ds, .int i => atK ks ds (.inl i)
  | .dK ks ds, .str x => atK ks ds (.inr x)
  | _, _ => none
/-- where a slice's ends lie -/
def cutD (ds : List D) (lo hi : Option Int) : List D := (ds.drop (HT.sIx ds.length 0 lo)).take (HT.sIx ds.length ds.length hi - HT.sIx ds.length 0 lo)
def slcD : D → Option Int → Option Int → Option RV
  | .lst ds, lo, hi => some (.fr (.lst (cutD ds lo hi)))
  | .tup ds, lo, hi => some (.val (.tup (cutD ds lo hi)))
  | _, _, _ => none
def intD : D → Option Int
  | .int i => some i
  | _ => none
def intsD : List D → Option (List Int)
  | [] => some []
  | d :: ds => match intD d, intsD ds with
    | some i, some is => some (i :: is)
    | _, _ => none
def blsD : List D → Option (List Bool)
  | [] => some []
  | .bl b :: ds => (blsD ds).map (b :: ·)
  | _ :: _ => none
def insI (i : Int) : List Int → List Int
  | [] => [i]
  | j :: r => if i ≤ j then i :: j :: r else j :: insI i r
def sortI : List Int → List Int
  | [] => []
  | i :: r => insI i (sortI r)
/-- how many different ones -/
def ddn : List Int → Nat
  | [] => 0
  | i :: r => (if i ∈ r then 0 else 1) + ddn r
def maxI : List Int → Option Int
  | [] => none
  | a :: r => match maxI r with
    | none => some a
    | some b => some (if a ≥ b then a else b)
def minI : List Int → Option Int
  | [] => none
  | a :: r => match minI r with
    | none => some a
    | some b => some (if a ≤ b then a else b)
def bltD : Blt → List D → Option RV
  | .len, [.lst ds] => some (.val (.int ds.length))
  | .len, [.tup ds] => some (.val (.int ds.length))
  | .len, [.frz ds] => some (.val (.int ds.length))
  | .len, [.str x] => if x.length ≤ LIM then some (.val (.int x.length)) else none
  | .int, [.str x] => if x.length ≤ 640 then (PySem.intText? x).map fun n => .val (.int n) else none
  | .str, [.int i] => if i.natAbs.log2 < 1920 then some (.val (.str (toString i))) else none
  | .maxL, [.lst ds] => match intsD ds with
    | some is => (maxI is).map fun i => .val (.int i)
    | none => none
  | .minL, [.lst ds] => match intsD ds with
    | some is => (minI is).map fun i => .val (.int i)
    | none => none
  | .lenset, [.lst ds] => match intsD ds with
    | some is => if is.length ≤ 4000 then some (.val (.int (ddn is))) else none
    | none => none
  | .int, [.int i] => some (.val (.int i))
  | .int, [.bl b] => some (.val (.int (if b then 1 else 0)))
  | .abs, [.int i] => some (.val (.int (if i < 0 then -i else i)))
  | .max2, [.int i, .int j] => some (.val (.int (if j > i then j else i)))
  | .min2, [.int i, .int j] => some (.val (.int (if j < i then j else i)))
  | .sum, [.lst ds] => (intsD ds).map fun is => .val (.int is.sum)
  | .all, [.lst ds] => (blsD ds).map fun bs => .val (.bl (bs.all id))
  | .any, [.lst ds] => (blsD ds).map fun bs => .val (.bl (bs.any id))
  | .sorted, [.lst ds] => (intsD ds).map fun is => .fr (.lst ((sortI is).map D.int))
  | .list, [.lst ds] => some (.fr (.lst ds))
  | .list, [.tup ds] => some (.fr (.lst ds))
  | .tuple, [.lst ds] => some (.val (.tup ds))
  | .tuple, [.tup ds] => some (.val (.tup ds))
  | .listRng, [.int i] => if 0 ≤ i ∧ i ≤ 100000 then some (.fr (.lst ((List.range i.toNat).map fun (k : Nat) => D.int (k : Int)))) else none
  | .repr, [d] => (reprD d).map fun x => .val (.str x)
  | _, _ => none
def tyD : D → Tyc → Option Bool
  | _, .cls _ => none
  | .exc _, _ => none
  | .frz _, _ => none
  | d, t => some (match d, t with
    | .bl _, .bool => true
    | .bl _, .int => true
    | .int _, .int => true
    | .str _, .str => true
    | .lst _, .list => true
    | .tup _, .tuple => true
    | .dK _ _, .dict => true
    | .dT _ _, .dict => true
    | _, _ => false)
def tysD (d : D) : List Tyc → Option Bool
  | [] => some false
  | t :: ts => match tyD d t, tysD d ts with
    | some a, some b => some (a || b)
    | _, _ => none
/-- methods that read -/
def mthD : Mth → D → List D → Option D
  | .index, .lst ds, [d] => match flatD d, flatDs ds with
    | some v, some vs => (vs.findIdx? (eqV · v)).map fun (j : Nat) => .int (j : Int)
    | _, _ => none
  | .count, .lst ds, [d] => match flatD d, flatDs ds with
    | some v, some vs => some (.int ((vs.countP fun z => eqV z v : Nat) : Int))
    | _, _ => none
  | _, _, _ => none
/-- methods that change an owned thing: its value, the thing behind it -/
def mutD : Mth → OB → List D → Option (D × OB)
  | .append, .lst ds, [d] => if ds.length < LIM then some (.non, .lst (ds ++ [d])) else none
  | .pop, .lst ds, [] => (ds[ds.length - 1]?).map fun d => (d, .lst ds.dropLast)
  | .popAt, .lst ds, [.int i] => if 0 ≤ i ∧ i ≤ 100000 then (ds[i.toNat]?).map fun d => (d, .lst (ds.eraseIdx i.toNat)) else none
  | .remove, .lst ds, [.int k] => match intsD ds with
    | some is => (is.findIdx? (· == k)).map fun (j : Nat) => (.non, .lst (ds.eraseIdx j))
    | none => none
  | .extend, .lst ds, [.lst es] => if ds.length + es.length ≤ LIM then some (.non, .lst (ds ++ es)) else none
  | _, _, _ => none

/-! ### what an evaluation comes to -/
inductive Out (α : Type) where
  | ok (a : α) (env : Evn)
  | ex (c : Nat) (env : Evn)
abbrev Mo (α : Type) := Evn → Option (Out α)
def Mo.ret {α : Type} (a : α) : Mo α := fun env => some (.ok a env)
def Mo.bnd {α β : Type} (x : Mo α) (f : α → Mo β) : Mo β := fun env => match x env with
  | some (.ok a env') => f a env'
  | some (.ex c env') => some (.ex c env')
  | none => none
def Mo.lift {α : Type} (o : Option α) : Mo α := fun env => match o with
  | some a => some (.ok a env)
  | none => none
def Mo.opd (r : RV) : Mo D := fun env => match r.opd env with
  | some d => some (.ok d env)
  | none => none
def opds (env : Evn) : List RV → Option (List D)
  | [] => some []
  | r :: rs => match r.opd env, opds env rs with
    | some d, some ds => some (d :: ds)
    | _, _ => none
/-- a settled value is taken as data: an owned thing is frozen -/
def Mo.imm : RV → Mo D
  | .val d => Mo.ret d
  | .fr _ => fun _ => none
  | .bo i => fun env => match env[i]? with
    | some (.ow o) => some (.ok o.toD (env.set i (.im o.toD)))
    | some (.im d) => some (.ok d env)
    | _ => none
def Mo.imms : List RV → Mo (List D)
  | [] => Mo.ret []
  | r :: rs => (Mo.imm r).bnd fun d => (Mo.imms rs).bnd fun ds => Mo.ret (d :: ds)
def Mo.set (x : Mo RV) : Mo RV := x.bnd fun r => Mo.ret r.set
def Mo.tst (x : Mo RV) : Mo Bool := x.bnd fun r => match r with
  | .val (.bl b) => Mo.ret b
  | _ => fun _ => none
inductive FOut where
  | ok (r : RV) (io : Option OB)
  | ex (c : Nat)
abbrev Fn := Nat → Option OB → List D → Option FOut
/-- the slots of a target hold data -/
def bindT (ts : List Nat) (d : D) (env : Evn) : Option Evn := match ts with
  | [i] => if i < env.length then some (env.set i (.im d)) else none
  | _ => match d with
    | .tup ds => if ds.length = ts.length ∧ (ts.all fun i => decide (i < env.length)) = true then some ((ts.zip ds).foldl (fun e p => e.set p.1 (.im p.2)) env) else none
    | _ => none
def unown : List Nat → Evn → Evn
  | [], env => env
  | i :: is, env => (unown is env).set i .un
/-- a block's own slots as they were -/
def back (env : Evn) : List Nat → Evn → Evn
  | [], e => e
  | i :: is, e => match env[i]? with
    | some s => (back env is e).set i s
    | none => back env is e
def callD (Φ : Fn) (f : Nat) (io : Bool) (rs : List RV) : Mo RV :=
  if io = true then
    match rs with
    | .bo i :: rs' => (Mo.imms rs').bnd fun ds env => match env[i]? with
      | some (.ow o) => match Φ f (some o) ds with
        | some (.ok r (some o')) => some (.ok r (env.set i (.ow o')))
        | _ => none
      | _ => none
    | _ => fun _ => none
  else (Mo.imms rs).bnd fun ds env => match Φ f none ds with
    | some (.ok r none) => some (.ok r env)
    | some (.ex c) => some (.ex c env)
    | _ => none
/-- keywords' values in the parameters' order -/
def permL {α : Type} (perm : List Nat) (l : List α) : Option (List α) := perm.mapM fun i => l[i]?
/-- a loop of a comprehension: the items, what is made so far -/
def compGo (step : D → Mo (Option D)) : List D → List D → Mo (List D)
  | [], acc => Mo.ret acc
  | d :: ds, acc => (step d).bnd fun o => match o with
    | some y => if acc.length < LIM then compGo step ds (acc ++ [y]) else fun _ => none
    | none => compGo step ds acc
/-- .. of one that makes a dict -/
def dcGo (step : D → Mo (Option (Key × D))) : List D → List Key → List D → Mo (List Key × List D)
  | [], ks, ds => Mo.ret (ks, ds)
  | d :: r, ks, ds => (step d).bnd fun o => match o with
    | some (k, y) => if ks.length < LIM then dcGo step r (putKs ks k) (putX ks ds k y) else fun _ => none
    | none => dcGo step r ks ds
def keyR : RV → Option Key
  | .val d => keyD d
  | _ => none
def seqD : D → Option (List D)
  | .lst ds => some ds
  | .tup ds => some ds
  | .frz ds => some ds
  | _ => none
def lstD : D → Option (List D)
  | .lst ds => some ds
  | .tup ds => some ds
  | .frz ds => some ds
  | _ => none
def isMut : Mth → Bool
  | .append => true
  | .pop => true
  | .popAt => true
  | .extend => true
  | .remove => true
  | _ => false
def methD (m : Mth) (r : RV) (rs : List RV) : Mo RV :=
  if isMut m = true then
    match r with
    | .bo i => (Mo.imms rs).bnd fun ds env => match env[i]? with
      | some (.ow o) => match mutD m o ds with
        | some (d, o') => some (.ok (.val d) (env.set i (.ow o')))
        | none => none
      | _ => none
    | _ => fun _ => none
  else (Mo.imms rs).bnd fun ds => (Mo.opd r).bnd fun d => Mo.lift ((mthD m d ds).map .val)

/-- no exception -/
def Mo.nox {α : Type} (x : Mo α) : Mo α := fun env => match x env with
  | some (.ok a env') => some (.ok a env')
  | _ => none
/-- a call that changes a thing just made, which no one asks for behind it -/
def valsD : List RV → Option (List D)
  | [] => some []
  | .val d :: rs => (valsD rs).map (d :: ·)
  | _ :: _ => none
def callFD (Φ : Fn) (f : Nat) (rs : List RV) : Mo RV := fun env => match rs with
  | .fr o :: rs' => match valsD rs' with
    | some ds => match Φ f (some o) ds with
      | some (.ok r (some _)) => some (.ok r env)
      | _ => none
    | none => none
  | _ => none
mutual
def ev (Φ : Fn) : IE → Mo RV
  | .var i => fun env => match env[i]? with
    | some (.im d) => some (.ok (.val d) env)
    | some (.ow _) => some (.ok (.bo i) env)
    | _ => none
  | .cst d => Mo.ret (.val d)
  | .bin o a b => (ev Φ a).set.bnd fun x => (ev Φ b).set.bnd fun y => (Mo.opd x).bnd fun d => (Mo.opd y).bnd fun e => Mo.lift (binD o d e)
  | .neg a => (ev Φ a).set.bnd fun x => (Mo.opd x).bnd fun d => Mo.lift ((intD d).map fun i => .val (.int (-i)))
  | .not a => (ev Φ a).tst.bnd fun b => Mo.ret (.val (.bl (!b)))
  | .cmp o a b => (ev Φ a).set.bnd fun x => (ev Φ b).set.bnd fun y => (Mo.opd x).bnd fun d => (Mo.opd y).bnd fun e => Mo.lift ((cmpD o d e).map fun b => .val (.bl b))
  | .chn o p a b c => (ev Φ a).set.bnd fun x => (ev Φ b).set.bnd fun y => (Mo.opd x).bnd fun d => (Mo.opd y).bnd fun e => (Mo.lift (cmpD o d e)).bnd fun t =>
      if t = true then (ev Φ c).set.bnd fun z => (Mo.opd y).bnd fun e => (Mo.opd z).bnd fun g => Mo.lift ((cmpD p e g).map fun b => .val (.bl b)) else Mo.ret (.val (.bl false))
  | .and a b => (ev Φ a).tst.bnd fun t => if t = true then ev Φ b else Mo.ret (.val (.bl false))
  | .or a b => (ev Φ a).tst.bnd fun t => if t = true then Mo.ret (.val (.bl true)) else ev Φ b
  | .ite c a b => (ev Φ c).tst.bnd fun t => if t = true then ev Φ a else ev Φ b
  | .lst es => (evA Φ es).bnd fun rs => (Mo.imms rs).bnd fun ds => if ds.length ≤ LIM then Mo.ret (.fr (.lst ds)) else fun _ => none
  | .tup es => (evA Φ es).bnd fun rs => (Mo.imms rs).bnd fun ds => if ds.length ≤ LIM then Mo.ret (.val (.tup ds)) else fun _ => none
  | .dct0 => Mo.ret (.fr (.dK [] []))
  | .idx a b => (ev Φ a).set.bnd fun x => (ev Φ b).set.bnd fun y => (Mo.opd x).bnd fun d => (Mo.opd y).bnd fun e => Mo.lift ((atD d e).map .val)
  | .slc a lo hi => (ev Φ a).set.bnd fun x => (evO Φ lo).bnd fun l => (evO Φ hi).bnd fun h => (Mo.opd x).bnd fun d => Mo.lift (slcD d l h)
  | .rev a => (ev Φ a).set.bnd fun x => (Mo.opd x).bnd fun d => match d with
    | .lst ds => Mo.ret (.fr (.lst ds.reverse))
    | _ => fun _ => none
  | .call f io es => (evA Φ es).bnd fun rs => callD Φ f io rs
  | .callK f perm es => (evA Φ es).bnd fun rs => match permL perm rs with
    | some rs' => callD Φ f false rs'
    | none => fun _ => none
  | .blt b es => (evA Φ es).bnd fun rs env => match opds env rs with
      | some ds => Mo.lift (bltD b ds) env
      | none => none
  | .meth m o es => (ev Φ o).set.bnd fun r => (Mo.opd r).bnd fun d => match d with
    | .lst _ => (evA Φ es).bnd fun rs => methD m r rs
    | _ => fun _ => none
  | .isi e ts => (ev Φ e).set.bnd fun x => (Mo.opd x).bnd fun d => Mo.lift ((tysD d ts).map fun b => .val (.bl b))
  | .comp own t it c e => (evI Φ it).bnd fun ds env =>
      match compGo (fun d env => match bindT t d (unown own env) with
        | some env' => (evC Φ c).bnd (fun b => if b = true then (ev Φ e).set.bnd fun r => (Mo.imm r).bnd fun y => Mo.ret (some y) else Mo.ret none) env'
        | none => none) ds [] env with
      | some (.ok ys env') => some (.ok (.fr (.lst ys)) (back env own (unown own env')))
      | some (.ex _ _) => none
      | none => none
  | .dcomp own t it c k e => (evI Φ it).bnd fun ds env =>
      match dcGo (fun d env => match bindT t d (unown own env) with
        | some env' => (evC Φ c).bnd (fun b => if b = true then (ev Φ k).set.bnd fun q => (ev Φ e).set.bnd fun r => (Mo.imm r).bnd fun y => match keyR q with
            | some kk => Mo.ret (some (kk, y))
            | none => fun _ => none
          else Mo.ret none) env'
        | none => none) ds [] [] env with
      | some (.ok (ks, ys) env') => some (.ok (.fr (.dK ks ys)) (back env own (unown own env')))
      | some (.ex _ _) => none
      | none => none
  | .get1 o k => (ev Φ o).set.bnd fun r => (Mo.opd r).bnd fun d => match d with
    | .dK _ _ => (ev Φ k).set.bnd fun y => (Mo.opd r).bnd fun d => (Mo.opd y).bnd fun e => Mo.lift ((get1D d e).map .val)
    | _ => fun _ => none
  | .get2 o k x => (ev Φ o).set.bnd fun r => (Mo.opd r).bnd fun d => match d with
    | .dK _ _ => (ev Φ k).set.bnd fun y => (ev Φ x).set.bnd fun z => (Mo.imm z).bnd fun g => (Mo.opd r).bnd fun d => (Mo.opd y).bnd fun e => Mo.lift ((get2D d e g).map .val)
    | _ => fun _ => none
  | .listR2 a b => (ev Φ a).set.bnd fun x => (ev Φ b).set.bnd fun y => match x, y with
    | .val (.int i), .val (.int j) => if -100000 ≤ i ∧ i ≤ 100000 ∧ -100000 ≤ j ∧ j ≤ 100000 then Mo.ret (.fr (.lst ((List.range (j - i).toNat).map fun (k : Nat) => D.int (i + (k : Int))))) else fun _ => none
    | _, _ => fun _ => none
  | .callF f es => (evF Φ es).bnd fun rs => callFD Φ f rs
  | .isx i cs => fun env => match env[i]? with
    | some (.im (.exc c)) => some (.ok (.val (.bl (cs.contains c))) env)
    | _ => none
def evA (Φ : Fn) : IA → Mo (List RV)
  | .nil => Mo.ret []
  | .cons e r => (ev Φ e).set.bnd fun x => (evA Φ r).bnd fun xs => Mo.ret (x :: xs)
  | .star e r => (ev Φ e).set.bnd fun x => (Mo.opd x).bnd fun d => match seqD d with
    | some ds => (evA Φ r).bnd fun xs => Mo.ret (ds.map RV.val ++ xs)
    | none => fun _ => none
def evO (Φ : Fn) : IO → Mo (Option Int)
  | .no => Mo.ret none
  | .yes e => (ev Φ e).bnd fun r => match r with
    | .val (.int i) => Mo.ret (some i)
    | _ => fun _ => none
def evC (Φ : Fn) : IO → Mo Bool
  | .no => Mo.ret true
  | .yes e => (ev Φ e).tst
def evI (Φ : Fn) : II → Mo (List D)
  | .rng1 a => (ev Φ a).bnd fun r => match r with
    | .val (.int i) => if -100000 ≤ i ∧ i ≤ 100000 then Mo.ret ((List.range i.toNat).map fun (k : Nat) => D.int (0 + (k : Int))) else fun _ => none
    | _ => fun _ => none
  | .rng2 a b => (ev Φ a).set.bnd fun r => (ev Φ b).set.bnd fun r' => match r, r' with
    | .val (.int i), .val (.int j) => if -100000 ≤ i ∧ i ≤ 100000 ∧ -100000 ≤ j ∧ j ≤ 100000 then Mo.ret ((List.range (j - i).toNat).map fun (k : Nat) => D.int (i + (k : Int))) else fun _ => none
    | _, _ => fun _ => none
  | .rng3 a b c => (ev Φ a).set.bnd fun r => (ev Φ b).set.bnd fun r' => (ev Φ c).set.bnd fun r2 => match r, r', r2 with
    | .val (.int i), .val (.int j), .val (.int c) => if -100000 ≤ i ∧ i ≤ 100000 ∧ -100000 ≤ j ∧ j ≤ 100000 ∧ c = -1 then Mo.ret ((List.range (i - j).toNat).map fun (k : Nat) => D.int (i + (k : Int) * c)) else fun _ => none
    | _, _, _ => fun _ => none
  | .seq a => (ev Φ a).set.bnd fun r => (Mo.imm r).bnd fun d => Mo.lift (seqD d)
  | .enum a => (ev Φ a).set.bnd fun r => (Mo.imm r).bnd fun d => (Mo.lift (lstD d)).bnd fun ds => Mo.ret ((List.range ds.length).zip ds |>.map fun p => D.tup [.int (p.1 : Int), p.2])
/-- a display's values, things just made among them -/
def evF (Φ : Fn) : IA → Mo (List RV)
  | .nil => Mo.ret []
  | .cons e r => (ev Φ e).bnd fun x => (evF Φ r).nox.bnd fun xs => Mo.ret (x :: xs)
  | .star _ _ => fun _ => none
end

/-! ### statements -/
inductive Fl where
  | nx (env : Evn)
  | rt (r : RV) (env : Evn)
  | bk (env : Evn)
  | ct (env : Evn)
  | ex (c : Nat) (env : Evn)
abbrev Ms := Evn → Option Fl
def Mo.fl {α : Type} (x : Mo α) (f : α → Ms) : Ms := fun env => match x env with
  | some (.ok a env') => f a env'
  | some (.ex c env') => some (.ex c env')
  | none => none
def Ms.seq (x y : Ms) : Ms := fun env => match x env with
  | some (.nx env') => y env'
  | r => r
/-- a value is got ready for its slot: own: a thing just made; else data -/
def prepR (own : Bool) (r : RV) : Mo RV := if own = true then match r with
    | .fr o => Mo.ret (.fr o)
    | _ => fun _ => none
  else (Mo.imm r.set).bnd fun d => Mo.ret (.val d)
def preps : List Bool → List RV → Mo (List RV)
  | [], [] => Mo.ret []
  | o :: os, r :: rs => (prepR o r).bnd fun r' => (preps os rs).bnd fun rs' => Mo.ret (r' :: rs')
  | _, _ => fun _ => none
/-- a slot is given a value -/
def storeR (io0 : Bool) (i : Nat) (r : RV) (env : Evn) : Option Evn :=
  if (i == 0 && io0) = true ∨ ¬ i < env.length then none else match r with
    | .fr o => some (env.set i (.ow o))
    | .val d => some (env.set i (.im d))
    | .bo _ => none
def storesR (io0 : Bool) : List Nat → List RV → Evn → Option Evn
  | [], [], env => some env
  | i :: is, r :: rs, env => match storeR io0 i r env with
    | some env' => storesR io0 is rs env'
    | none => none
  | _, _, _ => none
def nxOf : Option Evn → Option Fl
  | some e => some (.nx e)
  | none => none
def forGo (t : List Nat) (body : Ms) : List D → Ms
  | [], env => some (.nx env)
  | d :: ds, env => match bindT t d env with
    | none => none
    | some env1 => match body env1 with
      | some (.nx env') => forGo t body ds env'
      | some (.ct env') => forGo t body ds env'
      | some (.bk env') => some (.nx env')
      | r => r
/-- names that no one asks for behind a turn are forgotten -/
def Ms.fin (ks : List Nat) (x : Ms) : Ms := fun env => match x env with
  | some (.nx e) => some (.nx (unown ks e))
  | some (.ct e) => some (.ct (unown ks e))
  | some (.bk e) => some (.bk (unown ks e))
  | r => r
/-! a test that only looks at what is owned -/
def scal : D → Bool
  | .non => true
  | .bl _ => true
  | .int _ => true
  | .str _ => true
  | _ => false
def flatO : OB → Bool
  | .lst ds => ds.all scal
  | _ => false
def frzS : Sl → Sl
  | .ow o => .im o.toD
  | s => s
def frzE (bs : List Nat) : Nat → Evn → Evn
  | _, [] => []
  | i, s :: r => (if bs.contains i = true then frzS s else s) :: frzE bs (i + 1) r
def mrgS (s s' : Sl) : Option Sl := match s with
  | .ow _ => match s' with
    | .ow o' => if flatO o' = true then some (.ow o') else none
    | _ => none
  | s => some s
def mrgE (bs : List Nat) : Nat → Evn → Evn → Option Evn
  | _, [], [] => some []
  | i, s :: r, s' :: r' => match (if bs.contains i = true then some s else mrgS s s'), mrgE bs (i + 1) r r' with
    | some x, some y => some (x :: y)
    | _, _ => none
  | _, _, _ => none
def brw (bs : List Nat) (x : Mo Bool) : Mo Bool := fun env => match x (frzE bs 0 env) with
  | some (.ok b env1) => match mrgE bs 0 env env1 with
    | some env2 => some (.ok b env2)
    | none => none
  | _ => none
/-- an exception that leaves a suite is not followed -/
def Ms.noex (x : Ms) : Ms := fun env => match x env with
  | some (.ex _ _) => none
  | r => r
def whileGo (c : Mo Bool) (body : Ms) : Nat → Ms
  | 0, _ => none
  | n + 1, env => match c env with
    | some (.ok true env1) => match body env1 with
      | some (.nx env') => whileGo c body n env'
      | some (.ct env') => whileGo c body n env'
      | some (.bk env') => some (.nx env')
      | r => r
    | some (.ok false env1) => some (.nx env1)
    | some (.ex e env1) => some (.ex e env1)
    | none => none
/-- o[i] = d -/
def setOB : OB → D → D → Option OB
  | .lst ds, .int k, d => (ixN ds.length k).map fun n => .lst (ds.set n d)
  | .dK ks ds, .int i, d => if ks.length < LIM then some (.dK (putKs ks (.inl i)) (putX ks ds (.inl i) d)) else none
  | .dK ks ds, .str x, d => if ks.length < LIM then some (.dK (putKs ks (.inr x)) (putX ks ds (.inr x) d)) else none
  | _, _, _ => none
def setID : RV → RV → D → Ms
  | .bo j, .val y, d, env => match env[j]? with
    | some (.ow o) => match setOB o y d with
      | some o' => some (.nx (env.set j (.ow o')))
      | none => none
    | _ => none
  | _, _, _, _ => none
mutual
def exS (Φ : Fn) (w : Nat) (io0 : Bool) : IS → Ms
  | .expr e => (ev Φ e).fl fun _ env => some (.nx env)
  | .asg i own e => ((ev Φ e).bnd fun r => prepR own r).fl fun r env => nxOf (storeR io0 i r env)
  | .asgN is os es => ((evF Φ es).bnd fun rs => preps os rs).fl fun rs env => nxOf (storesR io0 is rs env)
  | .unp is e => ((ev Φ e).set.bnd fun r => Mo.imm r).fl fun d env => nxOf (bindT is d env)
  | .setI o i e => (ev Φ e).set.fl fun r => (ev Φ o).set.fl fun x => (ev Φ i).set.fl fun y => (Mo.imm r).fl fun d env => setID x y d env
  | .for_ t ks it body => (evI Φ it).fl fun ds => forGo t ((exB Φ w io0 body).fin ks) ds
  | .while_ ks c body => whileGo (ev Φ c).tst ((exB Φ w io0 body).fin ks) w
  | .if_ c a b => (ev Φ c).tst.fl fun t => if t = true then exB Φ w io0 a else exB Φ w io0 b
  | .ifB bs c a b => (brw bs (ev Φ c).tst).fl fun t => if t = true then exB Φ w io0 a else exB Φ w io0 b
  | .ret e => (ev Φ e).fl fun r env => match r with
    | .bo i => match env[i]? with
      | some (.ow o) => if (i == 0 && io0) = true then none else some (.rt (.fr o) (env.set i .un))
      | some (.im d) => some (.rt (.val d) env)
      | _ => none
    | r => some (.rt r env)
  | .retN => fun env => some (.rt (.val .non) env)
  | .brk => fun env => some (.bk env)
  | .ct => fun env => some (.ct env)
  | .pass => fun env => some (.nx env)
  | .raise c => fun env => some (.ex c env)
  | .try_ body i cs suite pass => fun env => match exB Φ w io0 body env with
    | some (.ex c e) => if cs.contains c = true then
        if i < e.length then ((exB Φ w io0 suite).noex.fin [i]) (e.set i (.im (.exc c))) else none
      else if pass.contains c = true then some (.ex c e) else none
    | r => r
  | .stuck => fun _ => none
def exB (Φ : Fn) (w : Nat) (io0 : Bool) : List IS → Ms
  | [] => fun env => some (.nx env)
  | s :: r => (exS Φ w io0 s).seq (exB Φ w io0 r)
end
/-- a def: parameters, slots, whether the first parameter is changed, the body -/
structure Df where
  ps : Nat
  ns : Nat
  io : Bool
  body : List IS
def startE (d : Df) (io : Option OB) (ds : List D) : Option Evn :=
  let a : List Sl := (match io with | some o => [.ow o] | none => []) ++ ds.map .im
  if io.isSome = d.io ∧ a.length = d.ps ∧ d.ps ≤ d.ns then some (a ++ List.replicate (d.ns - d.ps) .un) else none
def ioE (d : Df) (env : Evn) : Option (Option OB) := if d.io = true then match env with
    | .ow o :: _ => some (some o)
    | _ => none
  else some none
def runD (Φ : Fn) (w : Nat) (d : Df) (io : Option OB) (ds : List D) : Option FOut := match startE d io ds with
  | none => none
  | some env => match exB Φ w d.io d.body env with
    | some (.rt r env') => (ioE d env').map fun o => .ok r o
    | some (.nx env') => (ioE d env').map fun o => .ok (.val .non) o
    | some (.ex c _) => if d.io = true then none else some (.ex c)
    | _ => none
/-- the program: at each depth of calls -/
def runF (P : Nat → Option Df) (w : Nat) : Nat → Fn
  | 0 => fun _ _ _ => none
  | n + 1 => fun f io ds => match P f with
    | some d => runD (runF P w n) w d io ds
    | none => none
end HB

set_option Elab.async false
set_option linter.all false
set_option maxRecDepth 100000
set_option maxHeartbeats 2000000
/-! HBComp: from the row's own terms to the small language. -/
namespace HB
open PySem PySem.Spec PyProof.Rows L2

/-- the module's names: defs (number, whether the first parameter is changed, parameters), classes -/
structure Tab where
  fns : List (Str × Nat × Bool × List Str × List (List Str × List Nat))
  cls : List (Str × Nat)
  bls : List Str
  sub : List (Nat × List Nat) := []
/-- the classes of which a class is a base -/
def Tab.subs (T : Tab) (d : Nat) : List Nat := (T.sub.lookup d).getD []
/-- a body's names -/
structure Sc where
  N : List Str
  sc : Scope
  own : List Str
  fnb : Option Scope
  tb : Tab
  ks : List (Nat × List Nat) := []
  ex : Option Str := none
  bw : List (Nat × List Nat) := []
/-- no exception is held -/
def Sc.cm (S : Sc) : Bool := S.ex.isNone
/-- what is forgotten behind each turn of the loop at a line -/
def Sc.kill (S : Sc) (p : Pos) : List Nat := (S.ks.lookup p.line).getD []
def ixOf (x : Str) : List Str → Option Nat
  | [] => none
  | y :: r => if y = x then some 0 else (ixOf x r).map (· + 1)
def visB (sc : Scope) (x : Str) : Bool := match sc.names.lookup x with
  | some .local => true
  | some .cell => true
  | some .free => true
  | _ => false
def locB (sc : Scope) (x : Str) : Bool := match sc.names.lookup x with
  | some .local => true
  | some .cell => true
  | _ => false
def isLoc (sc : Scope) (x : Str) : Bool := match sc.names.lookup x with
  | some .local => true
  | _ => false
def glbB (sc : Scope) (x : Str) : Bool := match sc.names.lookup x with
  | some .globalImplicit => true
  | _ => false
/-- a name that is read -/
def Sc.rd (S : Sc) (x : Str) : Option Nat := if visB S.sc x && !(x == ("__debug__" : Str)) && !(x == ("__classdict__" : Str)) then ixOf x S.N else none
/-- a name that is stored -/
def Sc.wr (S : Sc) (x : Str) : Option Nat := if !(S.ex == some x) && locB S.sc x && (match S.fnb with
    | none => true
    | some s => isLoc S.sc x || (s.names.lookup x == some .cell)) then ixOf x S.N else none
def glOk (S : Sc) (x : Str) : Bool := glbB S.sc x && !(x == ("__debug__" : Str)) && !(x == ("__name__" : Str))
/-- a name of the machine's own -/
def Sc.bl (S : Sc) (x : Str) : Bool := glOk S x && decide (x ∈ S.tb.bls)
/-- the block of a comprehension -/
def Sc.blk (S : Sc) (scope : Scope) : Sc := { S with sc := relS scope S.sc, fnb := some scope }
def bopOf : Operator → Option Bop
  | .Add => some .add
  | .Sub => some .sub
  | .Mult => some .mul
  | .FloorDiv => some .div
  | .Mod => some .mod
  | .Pow => some .pow
  | _ => none
def copOf : CmpOp → Option Cop
  | .Eq => some .eq
  | .NotEq => some .ne
  | .Lt => some .lt
  | .LtE => some .le
  | .Gt => some .gt
  | .GtE => some .ge
  | .Is => some .is
  | .IsNot => some .isn
  | .In => some .mem
  | .NotIn => some .nmem
def notSet : Expr → Bool
  | .Set .. => false
  | _ => true
def notStar : Expr → Bool
  | .Starred .. => false
  | _ => true
def notSlice : Expr → Bool
  | .Slice .. => false
  | _ => true
def isComp : Expr → Bool
  | .ListComp .. => true
  | .SetComp .. => true
  | .DictComp .. => true
  | _ => false
def bltOf (S : Sc) (x : Str) (n : Nat) : Option Blt :=
  if (S.bl x && S.cm) = true then
    if x = ("len" : Str) ∧ n = 1 then some .len
    else if x = ("int" : Str) ∧ n = 1 then some .int
    else if x = ("abs" : Str) ∧ n = 1 then some .abs
    else if x = ("max" : Str) ∧ n = 2 then some .max2
    else if x = ("min" : Str) ∧ n = 2 then some .min2
    else if x = ("sum" : Str) ∧ n = 1 then some .sum
    else if x = ("all" : Str) ∧ n = 1 then some .all
    else if x = ("any" : Str) ∧ n = 1 then some .any
    else if x = ("sorted" : Str) ∧ n = 1 then some .sorted
    else if x = ("list" : Str) ∧ n = 1 then some .list
    else if x = ("tuple" : Str) ∧ n = 1 then some .tuple
    else if x = ("repr" : Str) ∧ n = 1 then some .repr
    else if x = ("max" : Str) ∧ n = 1 then some .maxL
    else if x = ("min" : Str) ∧ n = 1 then some .minL
    else if x = ("str" : Str) ∧ n = 1 then some .str
    else none
  else none
def mthOf (x : Str) (n : Nat) : Option Mth :=
  if x = ("append" : Str) ∧ n = 1 then some .append
  else if x = ("pop" : Str) ∧ n = 0 then some .pop
  else if x = ("pop" : Str) ∧ n = 1 then some .popAt
  else if x = ("extend" : Str) ∧ n = 1 then some .extend
  else if x = ("index" : Str) ∧ n = 1 then some .index
  else if x = ("remove" : Str) ∧ n = 1 then some .remove
  else if x = ("count" : Str) ∧ n = 1 then some .count
  else none
def tycOf (S : Sc) : Expr → Option Tyc
  | .Name x _ => if S.bl x = true then
      if x = ("int" : Str) then some .int
      else if x = ("bool" : Str) then some .bool
      else if x = ("str" : Str) then some .str
      else if x = ("list" : Str) then some .list
      else if x = ("tuple" : Str) then some .tuple
      else if x = ("dict" : Str) then some .dict
      else none
    else none
  | _ => none
def tycsOf (S : Sc) : List Expr → Option (List Tyc)
  | [] => some []
  | e :: es => match tycOf S e, tycsOf S es with
    | some t, some ts => some (t :: ts)
    | _, _ => none
def namesOf (S : Sc) : List Expr → Option (List Nat)
  | [] => some []
  | .Name x _ :: es => match S.wr x, namesOf S es with
    | some i, some is => some (i :: is)
    | _, _ => none
  | _ :: _ => none
/-- a target: a name, or a tuple of names -/
def tgtOf (S : Sc) : Expr → Option (List Nat)
  | .Name x _ => (S.wr x).map ([·])
  | .Tuple es _ _ => match namesOf S es with
    | some is => if 2 ≤ is.length ∧ S.cm = true then some is else none
    | none => none
  | _ => none
/-- a comprehension's own names, with their places -/
def ownOf (N : List Str) : List (Str × NameKind) → List (Str × Nat)
  | [] => []
  | (x, k) :: r => match k, ixOf x N with
    | .local, some i => (x, i) :: ownOf N r
    | .cell, some i => (x, i) :: ownOf N r
    | _, _ => ownOf N r
def allPlain : List Expr → Bool
  | [] => true
  | e :: es => notStar e && allPlain es
def isRev : Expr → Bool
  | .Slice none none (some (.UnaryOp .USub (.Constant (.int 1) _ _) _)) _ => true
  | _ => false
def notSup : Expr → Bool
  | .Call (.Name _ _) [] [] _ => false
  | _ => true
def tysArg (S : Sc) : Expr → Option (List Tyc)
  | .Tuple es _ _ => tycsOf S es
  | e => (tycOf S e).map ([·])
/-- range(a) -/
def isRange (S : Sc) : Expr → Bool
  | .Call (.Name g _) [a] [] _ => S.bl g && decide (g = ("range" : Str)) && notStar a
  | _ => false
/-- range(a, b) -/
def isRange2 (S : Sc) : Expr → Bool
  | .Call (.Name g _) [a, b] [] _ => S.bl g && decide (g = ("range" : Str)) && notStar a && notStar b
  | _ => false
/-- set(a) -/
def isSetC (S : Sc) : Expr → Bool
  | .Call (.Name g _) [a] [] _ => S.bl g && decide (g = ("set" : Str)) && notStar a
  | _ => false
/-- isinstance of the caught exception -/
def exIs (S : Sc) : List Expr → Option IE
  | [.Name x _, .Name y _] => match S.ex with
    | some n => if x = n then match S.rd n with
      | some i => match S.tb.cls.lookup y with
        | some d => if glOk S y = true then some (.isx i (S.tb.subs d)) else none
        | none => if y = ("ValueError" : Str) ∧ S.bl y = true then some (.isx i (S.tb.cls.map (·.2))) else none
      | none => none
      else none
    | none => none
  | _ => none
/-- a thing just made stands first -/
def frFirst : List Expr → Bool
  | .Call .. :: _ => true
  | _ => false
def cCall (S : Sc) (f : Str) (args : List Expr) (as : Option IA) (it : Option (List IE)) (h : Option IE) : Option IE :=
  if allPlain args = true then
    match S.tb.fns.lookup f with
    | some (n, io, ps, _) => if glOk S f = true ∧ args.length = ps.length ∧ S.cm = true then (if (io && frFirst args) = true then as.map (.callF n) else as.map (.call n io)) else none
    | none =>
      if f = ("isinstance" : Str) then
        if S.bl f = true then match exIs S args with
          | some e => some e
          | none => match args, h with
          | [_, t], some x => match tysArg S t with
            | some ts => if ts ≠ [] ∧ ts.length ≤ 1000 then some (.isi x ts) else none
            | none => none
          | _, _ => none
        else none
      else if f = ("list" : Str) ∧ args.any (isRange S) = true then match args, it with
        | [_], some [x] => if (S.bl f && S.cm) = true then some (.blt .listRng (.cons x .nil)) else none
        | _, _ => none
      else if f = ("list" : Str) ∧ args.any (isRange2 S) = true then match args, it with
        | [_], some [x, y] => if (S.bl f && S.cm) = true then some (.listR2 x y) else none
        | _, _ => none
      else if f = ("len" : Str) ∧ args.any (isSetC S) = true then match args, it with
        | [_], some [x] => if (S.bl f && S.cm) = true then some (.blt .lenset (.cons x .nil)) else none
        | _, _ => none
      else match bltOf S f args.length, as with
        | some b, some es => some (.blt b es)
        | _, _ => none
  else none
def kwNames : List Keyword → Option (List Str)
  | [] => some []
  | ⟨some x, _, _⟩ :: r => (kwNames r).map (x :: ·)
  | ⟨none, _, _⟩ :: _ => none
/-- a call by keywords alone -/
def cCallK (S : Sc) (f : Str) (kws : List Keyword) (as : Option IA) : Option IE := match S.tb.fns.lookup f, kwNames kws with
  | some (n, false, ps, kl), some ks => match kl.lookup ks with
    | some perm => if (glOk S f = true ∧ S.cm = true) ∧ kws.length = ps.length ∧ perm.length = ps.length then as.map (.callK n perm) else none
    | none => none
  | _, _ => none
/-- what is walked: its own value, its arguments' values -/
def cI (S : Sc) (e : Expr) (x : Option IE) (as : Option (List IE)) : Option II := match e with
  | .Call (.Name f _) args [] _ => if S.bl f = true ∧ f = ("range" : Str) then
      if allPlain args = true then match args, as with
        | [_], some [a] => some (.rng1 a)
        | [_, _], some [a, b] => some (.rng2 a b)
        | [_, _, _], some [a, b, c] => some (.rng3 a b c)
        | _, _ => none
      else none
    else if S.bl f = true ∧ f = ("enumerate" : Str) then
      if allPlain args = true then match args, as with
        | [_], some [a] => some (.enum a)
        | _, _ => none
      else none
    else x.map .seq
  | .Set _ _ _ => none
  | _ => x.map .seq
def isTup : Expr → Bool
  | .Tuple .. => true
  | _ => false
def tgOk (tg : Expr) : II → Bool
  | .enum _ => isTup tg
  | _ => true
def cComp (S : Sc) (tg : Expr) (scope : Scope) (it : Option II) (c : Option IO) (e : Option IE) : Option IE :=
  match tgtOf (S.blk scope) tg, it, c, e with
  | some t, some it, some c, some e => if (S.cm && tgOk tg it && blkC S.N S.sc scope (ownOf S.N scope.names) && t.all fun i => (ownOf S.N scope.names).any fun p => p.2 == i) = true then
      some (.comp ((ownOf S.N scope.names).map (·.2)) t it c e) else none
  | _, _, _, _ => none
def cDcomp (S : Sc) (tg : Expr) (scope : Scope) (it : Option II) (c : Option IO) (k e : Option IE) : Option IE :=
  match tgtOf (S.blk scope) tg, it, c, k, e with
  | some t, some it, some c, some k, some e => if (S.cm && tgOk tg it && blkC S.N S.sc scope (ownOf S.N scope.names) && t.all fun i => (ownOf S.N scope.names).any fun p => p.2 == i) = true then
      some (.dcomp ((ownOf S.N scope.names).map (·.2)) t it c k e) else none
  | _, _, _, _, _ => none
/-- d.get(k), d.get(k, x) -/
def cGet (m : Str) (x : Option IE) (es : Option (List IE)) : Option IE := if m = ("get" : Str) then match x, es with
    | some x, some [k] => some (.get1 x k)
    | some x, some [k, z] => some (.get2 x k z)
    | _, _ => none
  else none
mutual
def cE (S : Sc) : Expr → Option IE
  | .Constant c _ _ => match c with
    | .none => some (.cst .non)
    | .bool b => some (.cst (.bl b))
    | .int i => some (.cst (.int i))
    | .str x => some (.cst (.str x))
    | _ => none
  | .Name x _ => (S.rd x).map .var
  | .BinOp a op b _ => match bopOf op, cE S a, cE S b with
    | some o, some x, some y => some (.bin o x y)
    | _, _, _ => none
  | .UnaryOp op a _ => match op, cE S a with
    | .USub, some x => some (.neg x)
    | .Not, some x => some (.not x)
    | _, _ => none
  | .BoolOp op es _ => match op with
    | .And => cAnd S es
    | .Or => cOr S es
  | .Compare a ops cs _ => if cs.all notSet = true then match ops.map copOf, cE S a, cEs S cs with
      | [some o], some x, some [y] => some (.cmp o x y)
      | [some o, some o'], some x, some [y, z] => some (.chn o o' x y z)
      | _, _, _ => none
    else none
  | .IfExp c a b _ => match cE S c, cE S a, cE S b with
    | some z, some x, some y => some (.ite z x y)
    | _, _, _ => none
  | .List es _ => (cA S es).map .lst
  | .Tuple es _ _ => (cA S es).map .tup
  | .Dict ks vs _ => match ks, vs with
    | [], [] => some .dct0
    | _, _ => none
  | .Subscript a s _ => if isRev s = true then (cE S a).map .rev else match cSl S s with
    | some (l, h) => (cE S a).map fun x => .slc x l h
    | none => if notSlice s = true then match cE S a, cE S s with
        | some x, some y => some (.idx x y)
        | _, _ => none
      else none
  | .Call f args kws p => match f, kws with
    | .Name f _, [] => cCall S f args (cA S args) (cIh S args) (cH S args)
    | .Name f _, k :: ks => match args with
      | [] => cCallK S f (k :: ks) (cK S (k :: ks))
      | _ => none
    | .Attribute o m q, [] => if (notSup o && allPlain args && (q.endLine == p.line) && decide (args.length < 20)) = true then match mthOf m args.length, cE S o, cA S args with
        | some k, some x, some es => some (.meth k x es)
        | none, some x, _ => cGet m (some x) (cEs S args)
        | _, _, _ => none
      else none
    | _, _ => none
  | .ListComp elt gs scope _ => match gs with
    | [⟨tg, iter, ifs, 0⟩] => cComp S tg scope (cI S iter (cE S iter) (cArgs S iter)) (cIf (S.blk scope) ifs) (cE (S.blk scope) elt)
    | _ => none
  | .DictComp kx vx gs scope _ => match gs with
    | [⟨tg, iter, ifs, 0⟩] => cDcomp S tg scope (cI S iter (cE S iter) (cArgs S iter)) (cIf (S.blk scope) ifs) (cE (S.blk scope) kx) (cE (S.blk scope) vx)
    | _ => none
  | _ => none
def cSt (S : Sc) : Expr → Option IE
  | .Starred e _ => cE S e
  | _ => none
def cArgs (S : Sc) : Expr → Option (List IE)
  | .Call _ args _ _ => cEs S args
  | _ => none
def cSl (S : Sc) : Expr → Option (IO × IO)
  | .Slice lo hi st _ => match st, cO S lo, cO S hi with
    | none, some l, some h => some (l, h)
    | _, _, _ => none
  | _ => none
def cO (S : Sc) : Option Expr → Option IO
  | none => some .no
  | some e => (cE S e).map .yes
def cEs (S : Sc) : List Expr → Option (List IE)
  | [] => some []
  | e :: es => match cE S e, cEs S es with
    | some x, some xs => some (x :: xs)
    | _, _ => none
def cH (S : Sc) : List Expr → Option IE
  | [] => none
  | e :: _ => cE S e
def cIh (S : Sc) : List Expr → Option (List IE)
  | [] => none
  | e :: _ => cArgs S e
def cIf (S : Sc) : List Expr → Option IO
  | [] => some .no
  | e :: es => match es with
    | [] => (cE S e).map .yes
    | _ => none
def cAnd (S : Sc) : List Expr → Option IE
  | [] => none
  | e :: es => match es with
    | [] => cE S e
    | _ => match cE S e, cAnd S es with
      | some x, some y => some (.and x y)
      | _, _ => none
def cOr (S : Sc) : List Expr → Option IE
  | [] => none
  | e :: es => match es with
    | [] => cE S e
    | _ => match cE S e, cOr S es with
      | some x, some y => some (.or x y)
      | _, _ => none
def cA (S : Sc) : List Expr → Option IA
  | [] => some .nil
  | e :: es => match cSt S e, cE S e, cA S es with
    | some x, _, some r => some (.star x r)
    | none, some x, some r => some (.cons x r)
    | _, _, _ => none
def cK (S : Sc) : List Keyword → Option IA
  | [] => some .nil
  | ⟨_, e, _⟩ :: r => match cE S e, cK S r with
    | some x, some xs => some (.cons x xs)
    | _, _ => none
end
/-! ### statements -/
def notComp : Expr → Bool
  | .ListComp .. => false
  | .SetComp .. => false
  | .DictComp .. => false
  | _ => true
def allLoc (S : Sc) (line : Nat) : List Expr → Bool
  | [] => true
  | .Name x p :: es => isLoc S.sc x && (p.line == line) && allLoc S line es
  | _ :: _ => false
def anyCell (S : Sc) : List Expr → Bool
  | [] => false
  | .Name x _ :: es => !isLoc S.sc x || anyCell S es
  | _ :: _ => false
/-- stored from the right -/
def parC (S : Sc) (ts vs : List Expr) : Bool := (ts.length == 2 || ts.length == 3) && allLoc S ((ts.head?.map (·.pos.line)).getD 0) ts && !(vs.all (foldedForSure 8)) && !(vs.all (constantsAlone 8))
def parN (S : Sc) (ts vs : List Expr) : Bool := anyCell S ts || !(ts.length == 2 || ts.length == 3) || (allLoc S ((ts.head?.map (·.pos.line)).getD 0) ts && vs.all (foldedForSure 8))
def strOf : Expr → Str
  | .Name x _ => x
  | _ => ⟨#[]⟩
def cAsg (S : Sc) (ts : List Expr) (v : Expr) (e : Option IE) (vs : Option IA) (o i : Option IE) : Option IS := match ts with
  | [.Name x _] => match S.wr x, e with
    | some j, some e => some (.asg j (decide (x ∈ S.own)) e)
    | _, _ => none
  | [.Tuple ts _ _] => match namesOf S ts with
    | some is => if 2 ≤ is.length ∧ S.cm = true then match v with
        | .Tuple ws _ _ => match vs with
          | some es => if (ts.length == ws.length && allPlain ws && (parC S ts ws || parN S ts ws) && decide is.Nodup && decide (ws.length < 1000) && S.cm) = true then some (.asgN is (ts.map fun t => decide (strOf t ∈ S.own)) es) else none
          | none => none
        | v => if notComp v = true then e.map (.unp is) else none
      else none
    | none => none
  | [.Subscript _ b _] => if (notSlice b && notComp v) = true then match o, i, e with
      | some o, some i, some e => some (.setI o i e)
      | _, _, _ => none
    else none
  | _ => none
def tupOf : Expr → List Expr
  | .Tuple es _ _ => es
  | _ => []
def subA (S : Sc) : List Expr → Option IE
  | [.Subscript a _ _] => cE S a
  | _ => none
def subB (S : Sc) : List Expr → Option IE
  | [.Subscript _ b _] => cE S b
  | _ => none
mutual
def cS (S : Sc) : Stmt → Option IS
  | .Expr e _ => if notComp e = true then (cE S e).map .expr else none
  | .Assign ts v _ => cAsg S ts v (cE S v) (cA S (tupOf v)) (subA S ts) (subB S ts)
  | .For tg it body orelse p => match orelse, tgtOf S tg, cI S it (cE S it) (cArgs S it) with
    | [], some t, some ii => if (tgOk tg ii && S.cm) = true then some (.for_ t (S.kill p) ii (cB S body)) else none
    | _, _, _ => none
  | .While c body orelse p => match orelse, cE S c with
    | [], some c => if S.cm = true then some (.while_ (S.kill p) c (cB S body)) else none
    | _, _ => none
  | .If c a b p => match cE S c with
    | some c => match S.bw.lookup p.line with
      | some bs => some (.ifB bs c (cB S a) (cB S b))
      | none => some (.if_ c (cB S a) (cB S b))
    | none => none
  | .Return e _ => match e with
    | some e => (cE S e).map .ret
    | none => some .retN
  | .Raise e c _ => if S.cm = true then match e, c with
    | some (.Call (.Name x _) [] [] _), none => match S.tb.cls.lookup x with
      | some c => if glOk S x = true then some (.raise c) else none
      | none => none
    | _, _ => none else none
  | .Try body hs orelse fin _ => match cXs S hs, orelse, fin with
    | some (x, n, sb), [], [] => match S.tb.cls.lookup x, S.wr n with
      | some d, some i => if (S.cm && glOk S x && isLoc S.sc n && decide (S.tb.subs d ⊆ S.tb.cls.map (·.2))) = true then
          some (.try_ (cB S body) i (S.tb.subs d) sb ((S.tb.cls.map (·.2)).filter fun c => !(S.tb.subs d).contains c)) else none
      | _, _ => none
    | _, _, _ => none
  | .Pass _ => some .pass
  | .Break _ => some .brk
  | .Continue _ => some .ct
  | _ => none
def cX (S : Sc) : ExceptHandler → Option (Str × Str × List IS)
  | .ExceptHandler e n body _ => match e, n with
    | some (.Name x _), some n => if body.isEmpty = true then none else some (x, n, cB { S with ex := some n } body)
    | _, _ => none
def cXs (S : Sc) : List ExceptHandler → Option (Str × Str × List IS)
  | [] => none
  | h :: r => if r.isEmpty = true then cX S h else none
/-- what is not compiled is stuck -/
def cB (S : Sc) : List Stmt → List IS
  | [] => []
  | s :: r => (match cS S s with
    | some x => x
    | none => .stuck) :: cB S r
end
end HB

set_option Elab.async false
set_option linter.all false
set_option maxRecDepth 100000
set_option maxHeartbeats 2000000
/-! HBKit: rules of the hand layer that it lacks: count of flat items, len(set(list of ints)). -/
namespace HB
open PySem PySem.Spec PyProof.Rows L2

section
variable {X : Cx}
theorem countP_eqU {x : V} : ∀ {xs : List V} {us : List Value}, Vals xs us → xs.all flatV = true → us.countP (eqU x) = xs.countP fun y => eqV y x
  | _, _, .nil, _ => rfl
  | y :: xs, u :: us, .cons r t, f => by
    rw [List.all_cons, Bool.and_eq_true] at f
    rw [List.countP_cons, List.countP_cons, countP_eqU t f.2, eqU_of r f.1]
def rCntF (K : PySem.W.Frag) : V → List V → Hp → VK → Prop := fun x xs H Q => ∃ (p : Addr) (ys : List V) (y : V), x = .ref p ∧ xs = [y] ∧ SqL K H p ys ∧ flatV y = true ∧ ys.all flatV = true ∧ Q (.int ((ys.countP fun z => eqV z y : Nat) : Int)) H
theorem mt_countF : MtR X "list.count" (rCntF X.K) := by
  intro pins s σ H x xs v us Q I rx rxs h
  obtain ⟨p, ys, y, rfl, rfl, hs, fy, fys, q⟩ := h
  cases rx
  cases rxs with
  | cons ry rt =>
    rename_i uy ut
    cases rt
    obtain ⟨its, rv, ⟨⟨cls, dd, data, sl⟩, n, ho, hc, hdn, hd⟩, hlen⟩ := I.list hs
    simp only at hc hd
    subst hc hd
    refine call_meets PySem.F.slot_list_count ⟨_, ho, rfl⟩ PySem.F.entry_list_count (PySem.F.args_list_count_2 _ _)
      (SeqAt.list_countAt p its.toArray n dd sl uy (eqU y)) ⟨ho, fun u' hu' => mem_eqAt ry fy rv fys u' (by simpa using hu'), ?_⟩
    have ec : its.toArray.toList.countP (eqU y) = ys.countP fun z => eqV z y := countP_eqU rv fys
    refine ⟨.int ((ys.countP fun z => eqV z y : Nat) : Int), H, I.tok _, ⟨s.toks, ?_⟩, q⟩
    show Value.int ((its.toArray.toList.countP (eqU y) : Nat) : Int) s.toks = Value.int ((ys.countP fun z => eqV z y : Nat) : Int) s.toks
    rw [ec]
theorem nodup_len : ∀ {l : List Int} {m : List Int}, l.Nodup → (∀ x, x ∈ l ↔ x ∈ m) → l.length = ddn m := by
  intro l m
  induction m generalizing l with
  | nil =>
    intro _ h
    cases l with
    | nil => rfl
    | cons a r => exact absurd ((h a).mp List.mem_cons_self) (by simp)
  | cons a r ih =>
    intro nd h
    show l.length = (if a ∈ r then 0 else 1) + ddn r
    by_cases ha : a ∈ r
    · rw [if_pos ha, Nat.zero_add]
      refine ih nd fun x => ?_
      rw [h x, List.mem_cons]
      exact ⟨fun z => z.elim (fun e => e ▸ ha) id, .inr⟩
    · rw [if_neg ha]
      have hal : a ∈ l := (h a).mpr List.mem_cons_self
      have e := List.length_erase_of_mem hal
      have hp : 0 < l.length := List.length_pos_of_mem hal
      rw [← ih (nd.erase a) fun x => ?_, e]
      · omega
      · rw [nd.mem_erase_iff, h x, List.mem_cons]
        constructor
        · rintro ⟨n, z | z⟩
          · exact (n z).elim
          · exact z
        · exact fun z => ⟨fun e => ha (e ▸ z), .inr z⟩
theorem dedup_nodup (l : List Int) : ∀ σ : List Int, σ.Nodup → (l.foldl step_dedup σ).Nodup ∧ ∀ x, x ∈ l.foldl step_dedup σ ↔ x ∈ σ ∨ x ∈ l := by
  induction l with
  | nil => intro σ h; exact ⟨h, fun x => by simp⟩
  | cons a r ih =>
    intro σ h
    rw [List.foldl_cons]
    by_cases ha : a ∈ σ
    · have e : step_dedup σ a = σ := by unfold step_dedup; rw [if_pos (by simpa using ha)]
      rw [e]
      obtain ⟨h1, h2⟩ := ih σ h
      refine ⟨h1, fun x => ?_⟩
      rw [h2, List.mem_cons]
      exact ⟨fun z => z.elim .inl fun y => .inr (.inr y), fun z => z.elim .inl fun y => y.elim (fun e => .inl (e ▸ ha)) .inr⟩
    · have e : step_dedup σ a = σ ++ [a] := by unfold step_dedup; rw [if_neg (by simpa using ha)]
      rw [e]
      obtain ⟨h1, h2⟩ := ih (σ ++ [a]) (List.nodup_append.mpr ⟨h, by simp, fun x hx y hy => by simp at hy; subst hy; exact fun e => ha (e ▸ hx)⟩)
      refine ⟨h1, fun x => ?_⟩
      rw [h2, List.mem_append, List.mem_singleton, List.mem_cons, or_assoc]
theorem firstMet_len {ns : List Int} : (firstMet (fun i => ns.getD i 0) ns.length).length = ddn ns := by
  have e : (List.range ns.length).map (fun i => ns.getD i 0) = ns := by
    apply List.ext_getElem
    · simp
    · intro i h1 h2
      simp [List.getD_eq_getElem?_getD, List.getElem?_eq_getElem h2]
  unfold firstMet
  rw [e]
  obtain ⟨h1, h2⟩ := dedup_nodup ns [] List.nodup_nil
  exact nodup_len h1 fun x => by rw [h2]; simp
theorem ddn_le : ∀ ns : List Int, ddn ns ≤ ns.length
  | [] => Nat.le_refl _
  | a :: r => by
    have := ddn_le r
    show (if a ∈ r then 0 else 1) + ddn r ≤ r.length + 1
    split <;> omega
/-- len(set(xs)), xs a list of ints -/
def tLenSetI (K : PySem.W.Frag) (ta : TE) : TE := fun σ H Q => ta σ H fun x H1 => ∃ l, ∃ ns : List Int, x = .ref l ∧ SqL K H1 l (ns.map V.int) ∧ ns.length ≤ 4000 ∧ Q (.int (ddn ns)) H1
theorem pe_lenSetI {a : Expr} {ta : TE} {p p2 q pos : Pos} (hc : X.calm = true) (hg : Gl X "len") (hm : X.mg "len" = none) (hg2 : Gl X "set") (hm2 : X.mg "set" = none) (ha : PE X a ta)
    (na : starEach [a] X.env = (false, eval a X.env) :: starEach [] X.env := by rfl) : PE X (.Call (.Name "len" p) [.Call (.Name "set" p2) [a] [] q] [] pos) (tLenSetI X.K ta) := by
  refine ⟨fun pins s σ H Q I h => ?_⟩
  refine Call_ (ld_blt I hg hm boot_len ?_)
  refine PyProof.Rows.callWith_builtin1 (PyProof.Rows.args_cons ?_ rfl) rfl rfl
  refine Call_ (ld_blt I hg2 hm2 boot_set ?_)
  refine PyProof.Rows.callWith_type1 (PyProof.Rows.args_cons (thn (ha.run pins s σ H _ I h) fun v s1 ⟨x, H1, I1, r1, q1⟩ => PyProof.Rows.args_nil ?_) na) na rfl
  obtain ⟨l, ns, rfl, hq, h1, q1⟩ := q1
  cases r1
  obtain ⟨its, r, pl, hz⟩ := I1.list hq
  have hl : its.toArray.size = ns.length := by rw [List.size_toArray, ← r.length, List.length_map]
  refine call_set_list (I1.ok.hd hc) pl.isList (by simpa using r.ints) (by rw [hl]; unfold scanBound; omega) fun h' tk hS hk => PyProof.Rows.args_nil ?_
  rw [hl, firstMet_len] at hS
  have hd := ddn_le ns
  obtain ⟨o, es, ep, t, ho, hex, hd2, _, _, _, hf, hn⟩ := hS
  have I2 : L2.Inv X pins σ H1 { s1 with heap := h', toks := tk } := I1.kept fun b o e => hk b o (Heap.lt_size e) e
  refine call_len_set ho hex hd2 hf (by rw [hn] <;> omega) ⟨.int (ddn ns), H1, I2.tok _, ⟨_, by rw [hn]⟩, q1⟩
end
end HB

set_option Elab.async false
set_option linter.all false
set_option maxRecDepth 100000
set_option maxHeartbeats 2000000
/-! HBSnd1: contracts of defs by what the small language says, calls, judgements. -/
namespace HB
open PySem PySem.Spec PyProof.Rows L2

/-- a def's contract, no thing being shown at the time -/
structure Fok (P : Program) (w : World) (K : Fg) (mg : Str → Option Value) (base : Heap) (k : Nat) (f : Addr) (fd : FuncData) (ps : List Str) (sp : Sp) : Prop where
  len : ∀ vs H Q E, sp vs H Q E → vs.length = ps.length
  run : ∀ (A : Around) (outer : List Env) (s : Shared) (H : Hp) (args : Args) (us : List Value) (vs : List V) (Q : VK) (E : XK), Room k A → A.guards = some [] → Env0 P w K mg base A outer s H →
    BindsTo s fd args (ps.zip us) → Vals vs us → sp vs H Q E → codeAny (model P w) A (.call (.ref f) args) (CR (L2.CX P w) outer P w H s Q E) s
theorem Fok.of {P : Program} {w : World} {K : Fg} {mg : Str → Option Value} {base : Heap} {k : Nat} {f : Addr} {fd : FuncData} {ps : List Str} {sp : Sp} (F : FnOk P w K mg base (L2.CX P w) k f fd ps sp) : Fok P w K mg base k f fd ps sp :=
  ⟨F.len, fun A outer s H args us vs Q E hr _ => F.run A outer s H args us vs Q E hr⟩

/-- where the classes stand; the slot of a caught exception -/
structure CT where
  at_ : Nat → Addr
  xi : Option Nat := none
  ks : List Nat := []
/-- the base's caught exception is the context's -/
def BX (X : Cx) (ct : CT) (B : Bs) : Prop := match ct.xi with
  | none => B.fx = none
  | some i => ∃ a c oe pn, B.fx = some (i, a, c) ∧ c ∈ ct.ks ∧ X.pn = (a, oe) :: pn ∧ Zc (.ref (ct.at_ c)) none oe ∧ ∃ vs, oe.data = .fields vs
theorem BX.none_ {X : Cx} {ct : CT} {B : Bs} (h : BX X ct B) (e : ct.xi = none) : B.fx = none := by
  unfold BX at h
  rw [e] at h
  exact h
theorem BX.of_none {X : Cx} {ct : CT} {B : Bs} (e : ct.xi = none) (h : B.fx = none) : BX X ct B := by
  unfold BX
  rw [e]
  exact h
theorem nofx {B : Bs} (h : B.fx = none) {i : Nat} : ∀ a c, B.fx ≠ some (i, a, c) := fun a c e => by rw [h] at e; cases e
/-! ### what a body leaves -/
abbrev GotE {α : Type} (o : Option (Out α)) (P : α → Evn → Prop) (R : Nat → Evn → Prop) : Prop := match o with
  | some (.ok a e) => P a e
  | some (.ex c e) => R c e
  | none => False
theorem GotE.imp {α : Type} {o : Option (Out α)} {P P' : α → Evn → Prop} {R R' : Nat → Evn → Prop} (h : GotE o P R) (hP : ∀ a e, P a e → P' a e) (hR : ∀ c e, R c e → R' c e) : GotE o P' R' := by
  cases o with
  | none => exact h
  | some t => cases t with
    | ok a e => exact hP a e h
    | ex c e => exact hR c e h
theorem GotE.bnd {α β : Type} {x : Mo α} {f : α → Mo β} {env : Evn} {P : β → Evn → Prop} {R : Nat → Evn → Prop} (h : GotE (x.bnd f env) P R) : GotE (x env) (fun a e => GotE (f a e) P R) R := by
  unfold Mo.bnd at h
  cases hx : x env with
  | none => rw [hx] at h; exact h
  | some t => cases t with
    | ok a e => rw [hx] at h; exact h
    | ex c e => rw [hx] at h; exact h
theorem GotE.bnd' {α β : Type} {x : Mo α} {f : α → Mo β} {env : Evn} {P : β → Evn → Prop} {R : Nat → Evn → Prop} (h : GotE (x env) (fun a e => GotE (f a e) P R) R) : GotE (x.bnd f env) P R := by
  unfold Mo.bnd
  cases hx : x env with
  | none => rw [hx] at h; exact h
  | some t => cases t with
    | ok a e => rw [hx] at h; exact h
    | ex c e => rw [hx] at h; exact h
theorem GotE.lift {α : Type} {o : Option α} {env : Evn} {P : α → Evn → Prop} {R : Nat → Evn → Prop} (h : GotE (Mo.lift o env) P R) : ∃ a, o = some a ∧ P a env := by
  cases o with
  | none => exact h.elim
  | some a => exact ⟨a, rfl, h⟩
theorem GotE.opd {r : RV} {env : Evn} {P : D → Evn → Prop} {R : Nat → Evn → Prop} (h : GotE (Mo.opd r env) P R) : ∃ d, r.opd env = some d ∧ P d env := by
  unfold Mo.opd at h
  cases e : r.opd env with
  | none => rw [e] at h; exact h.elim
  | some d => rw [e] at h; exact ⟨d, rfl, h⟩
theorem GotE.set {x : Mo RV} {env : Evn} {P : RV → Evn → Prop} {R : Nat → Evn → Prop} (h : GotE (x.set env) P R) : GotE (x env) (fun r e => P r.set e) R := GotE.bnd h
/-- only owned slots stay owned -/
def Shp (env env' : Evn) : Prop := ∀ (i : Nat) (o' : OB), env'[i]? = some (.ow o') → ∃ o, env[i]? = some (.ow o)
theorem Shp.refl (env : Evn) : Shp env env := fun _ o h => ⟨o, h⟩
theorem Shp.trans {a b c : Evn} (h : Shp a b) (k : Shp b c) : Shp a c := fun i o' e => by
  obtain ⟨o, e1⟩ := k i o' e
  exact h i o e1
def NoFr : RV → Prop
  | .fr _ => False
  | _ => True
theorem RV.set_nofr (r : RV) : NoFr r.set := by cases r <;> trivial
theorem RVOk.keep {K : Fg} {B : Bs} {env env' : Evn} {σ : L2.St} {Hb H Hb' H' : Hp} {v : V} {r : RV} (h : RVOk K B env σ Hb H v r) (n : NoFr r) (e : Le Hb Hb') : RVOk K B env' σ Hb' H' v r := by
  cases r with
  | val d => exact Rp.mono e _ _ h
  | bo i => exact h
  | fr o => exact n.elim
/-- the exception is wished for -/
abbrev Xw (X : Cx) (W : WX) (ct : CT) (B : Bs) (σ : L2.St) (Hb : Hp) : Nat → Evn → Prop := fun c env' => ∀ Hb' H', Stt X.K B env' σ Hb' H' → Le Hb Hb' → W (.ref (ct.at_ c)) none σ H'
theorem Xw.mono {X : Cx} {W : WX} {ct : CT} {B : Bs} {σ : L2.St} {Hb Hb1 : Hp} (le : Le Hb Hb1) {c : Nat} {e : Evn} (h : Xw X W ct B σ Hb c e) : Xw X W ct B σ Hb1 c e := fun Hb' H' S l => h Hb' H' S (le.trans l)
/-- an expression is worth what f says -/
def SE (X : Cx) (W : WX) (ct : CT) (e : Expr) (f : Mo RV) : Prop := ∃ te : TE, PE X e te ∧ ∀ (B : Bs) (σ : L2.St) (Hb H : Hp) (env : Evn) (Q : VK), BX X ct B → Stt X.K B env σ Hb H →
  GotE (f env) (fun r env' => ∀ v Hb' H', Stt X.K B env' σ Hb' H' → Le Hb Hb' → Shp env env' → RVOk X.K B env' σ Hb' H' v r → Q v H') (Xw X W ct B σ Hb) → te σ H Q
/-- .. settled -/
def SEs (X : Cx) (W : WX) (ct : CT) (e : Expr) (f : Mo RV) : Prop := ∃ te : TE, PE X e te ∧ ∀ (B : Bs) (σ : L2.St) (Hb H : Hp) (env : Evn) (Q : VK), BX X ct B → Stt X.K B env σ Hb H →
  GotE (f env) (fun r env' => ∀ v Hb' H', Stt X.K B env' σ Hb' H' → Le Hb Hb' → Shp env env' → NoFr r → RVOk X.K B env' σ Hb' H' v r → Q v H') (Xw X W ct B σ Hb) → te σ H Q
theorem SE.set {X : Cx} {W : WX} {ct : CT} {e : Expr} {f : Mo RV} (h : SE X W ct e f) : SEs X W ct e f.set := by
  obtain ⟨te, pe, k⟩ := h
  refine ⟨te, pe, fun B σ Hb H env Q hX S g => k B σ Hb H env Q hX S (g.set.imp (fun r e' q v Hb' H' S' le sh rv => ?_) fun _ _ q => q)⟩
  obtain ⟨Hb2, le2, S2, rv2⟩ := S'.settle rv
  exact q v Hb2 H' S2 (le.trans le2) sh r.set_nofr rv2
/-- a test is decided as f says -/
def ST (X : Cx) (W : WX) (ct : CT) (e : Expr) (f : Mo Bool) : Prop := ∃ tt : TT, PT X e tt ∧ ∀ (B : Bs) (σ : L2.St) (Hb H : Hp) (env : Evn) (Q : Bool → Hp → Prop), BX X ct B → Stt X.K B env σ Hb H →
  GotE (f env) (fun b env' => ∀ Hb' H', Stt X.K B env' σ Hb' H' → Le Hb Hb' → Shp env env' → Q b H') (Xw X W ct B σ Hb) → tt σ H Q
/-- a row of values -/
def RVsOk (K : Fg) (B : Bs) (env : Evn) (σ : L2.St) (Hb H : Hp) : List RV → List V → Prop
  | [], vs => vs = []
  | r :: rs, vs => ∃ v vs', vs = v :: vs' ∧ RVOk K B env σ Hb H v r ∧ NoFr r ∧ RVsOk K B env σ Hb H rs vs'
theorem RVsOk.keep {K : Fg} {B : Bs} {env env' : Evn} {σ : L2.St} {Hb H Hb' H' : Hp} (e : Le Hb Hb') : ∀ {rs : List RV} {vs : List V}, RVsOk K B env σ Hb H rs vs → RVsOk K B env' σ Hb' H' rs vs
  | [], _, h => h
  | r :: rs, _, ⟨v, vs, h1, h2, h3, h4⟩ => ⟨v, vs, h1, h2.keep h3 e, h3, RVsOk.keep e h4⟩
theorem RVsOk.vals {K : Fg} {B : Bs} {env : Evn} {σ : L2.St} {Hb H : Hp} : ∀ {ds : List D} {xs : List V}, RpAll K Hb ds xs → RVsOk K B env σ Hb H (ds.map RV.val) xs
  | [], _, h => h
  | d :: ds, _, ⟨y, ys, h1, h2, h3⟩ => ⟨y, ys, h1, h2, trivial, RVsOk.vals h3⟩
theorem RVsOk.app {K : Fg} {B : Bs} {env : Evn} {σ : L2.St} {Hb H : Hp} : ∀ {rs rs' : List RV} {vs vs' : List V}, RVsOk K B env σ Hb H rs vs → RVsOk K B env σ Hb H rs' vs' → RVsOk K B env σ Hb H (rs ++ rs') (vs ++ vs')
  | [], _, _, _, h, k => by have h' : _ = [] := h; subst h'; exact k
  | r :: rs, _, _, _, ⟨v, vs, h1, h2, h3, h4⟩, k => by subst h1; exact ⟨v, _, rfl, h2, h3, RVsOk.app h4 k⟩
/-- arguments, items of a display -/
def SA (X : Cx) (W : WX) (ct : CT) (es : List Expr) (f : Mo (List RV)) : Prop := ∃ ta : TA, PA X es ta ∧ ∀ (B : Bs) (σ : L2.St) (Hb H : Hp) (env : Evn) (Q : List V → Hp → Prop), BX X ct B → Stt X.K B env σ Hb H →
  GotE (f env) (fun rs env' => ∀ vs Hb' H', Stt X.K B env' σ Hb' H' → Le Hb Hb' → Shp env env' → RVsOk X.K B env' σ Hb' H' rs vs → Q vs H') (Xw X W ct B σ Hb) → ta σ H Q

/-! ### an owned thing is frozen -/
section
variable {K : Fg} {B : Bs} {env : Evn} {σ : L2.St} {Hb H : Hp}
theorem Shp.set_im (i : Nat) (d : D) : Shp env (env.set i (.im d)) := fun j o h => by
  by_cases e : i = j
  · subst e
    by_cases hl : i < env.length
    · rw [List.getElem?_set_self hl] at h; cases h
    · rw [List.getElem?_eq_none (by simpa using hl)] at h; cases h
  · rw [List.getElem?_set_ne e] at h; exact ⟨o, h⟩
/-- slot i, which owns a thing, has it frozen -/
theorem Stt.freeze (S : Stt K B env σ Hb H) {i : Nat} {o : OB} (h : env[i]? = some (.ow o)) : ∃ a Hb', σ[i]? = some (some (.ref a)) ∧ Le Hb Hb' ∧ Stt K B (env.set i (.im o.toD)) σ Hb' H ∧ Rp K Hb' o.toD (.ref a) := by
  obtain ⟨a, h1, h2, h3, h4⟩ := S.ow i o h
  obtain ⟨u, hu⟩ := h3.there
  have hB : B.H a = none ∨ B.io a := by
    split at h4
    · exact .inr h4
    · exact .inl h4.1
  have S1 : Stt K B (env.set i .un) σ Hb H := S.forget i (S.nfx fun d e => by rw [h] at e; cases e)
  have nf : ∀ (j : Nat) (o' : OB), (env.set i .un)[j]? = some (.ow o') → σ[j]? ≠ some (some (.ref a)) := fun j o' e z => by
    by_cases hij : i = j
    · subst hij
      rw [List.getElem?_set_self (List.getElem?_eq_some_iff.mp h).1] at e; cases e
    · rw [List.getElem?_set_ne hij] at e
      exact hij (S.inj i j o o' a h e h1 z)
  have S2 := S1.frz hu h2 hB nf
  have rp : Rp K (upd Hb a u) o.toD (.ref a) := h3.froze (Le.new h2) (by rw [upd_same, hu])
  have hl : i < env.length := (List.getElem?_eq_some_iff.mp h).1
  refine ⟨a, _, h1, Le.new h2, ⟨by rw [List.length_set]; exact S.len, S2.sub, fun j d e => ?_, fun j o' e => ?_, fun j k o1 o2 b e1 e2 => ?_, S2.exb, S2.keep, S2.frs, S2.iot, fun j b c e => ?_⟩, rp⟩
  · by_cases hij : i = j
    · subst hij
      rw [List.getElem?_set_self hl] at e
      cases e
      exact ⟨_, h1, rp⟩
    · exact S2.im j d (by rw [List.getElem?_set_ne hij]; rwa [List.getElem?_set_ne hij] at e)
  · by_cases hij : i = j
    · subst hij
      rw [List.getElem?_set_self hl] at e; cases e
    · exact S2.ow j o' (by rw [List.getElem?_set_ne hij]; rwa [List.getElem?_set_ne hij] at e)
  · by_cases hij : i = j
    · subst hij
      rw [List.getElem?_set_self hl] at e1; cases e1
    · by_cases hik : i = k
      · subst hik
        rw [List.getElem?_set_self hl] at e2; cases e2
      · exact S2.inj j k o1 o2 b (by rw [List.getElem?_set_ne hij]; rwa [List.getElem?_set_ne hij] at e1) (by rw [List.getElem?_set_ne hik]; rwa [List.getElem?_set_ne hik] at e2)
  · have ne : i ≠ j := fun z => S.nfx (i := i) (fun d e => by rw [h] at e; cases e) b c (by rw [z]; exact e)
    rw [List.getElem?_set_ne ne]
    exact S.fx j b c e
/-- a settled value taken as data -/
theorem Stt.imm (S : Stt K B env σ Hb H) {v : V} {r : RV} (h : RVOk K B env σ Hb H v r) {P : D → Evn → Prop} {R : Nat → Evn → Prop} (g : GotE (Mo.imm r env) P R) :
    ∃ d env' Hb', P d env' ∧ Le Hb Hb' ∧ Shp env env' ∧ Stt K B env' σ Hb' H ∧ Rp K Hb' d v := by
  cases r with
  | val d => exact ⟨d, env, Hb, g, Le.refl _, Shp.refl _, S, h⟩
  | fr o => exact g.elim
  | bo i =>
    have h' : σ[i]? = some (some v) := h
    cases ho : env[i]? with
    | none => simp only [Mo.imm, ho] at g; exact False.elim g
    | some t =>
      cases t with
      | un => simp only [Mo.imm, ho] at g; exact False.elim g
      | im d' =>
        simp only [Mo.imm, ho] at g
        obtain ⟨v', h1, h2⟩ := S.im i _ ho
        rw [h'] at h1; cases h1
        exact ⟨d', env, Hb, g, Le.refl _, Shp.refl _, S, h2⟩
      | ow o =>
        simp only [Mo.imm, ho] at g
        obtain ⟨a, Hb', h1, le, S', rp⟩ := S.freeze ho
        rw [h'] at h1; cases h1
        exact ⟨_, _, Hb', g, le, Shp.set_im i _, S', rp⟩
end
theorem Stt.imms {K : Fg} {B : Bs} {σ : L2.St} {H : Hp} : ∀ {rs : List RV} {vs : List V} {env : Evn} {Hb : Hp} (S : Stt K B env σ Hb H) (h : RVsOk K B env σ Hb H rs vs) {P : List D → Evn → Prop} {R : Nat → Evn → Prop} (g : GotE (Mo.imms rs env) P R),
    ∃ ds env' Hb', P ds env' ∧ Le Hb Hb' ∧ Shp env env' ∧ Stt K B env' σ Hb' H ∧ RpAll K Hb' ds vs
  | [], vs, env, Hb, S, h, P, R, g => ⟨[], env, Hb, g, Le.refl _, Shp.refl _, S, h⟩
  | r :: rs, vs, env, Hb, S, ⟨v, vs', h1, h2, h3, h4⟩, P, R, g => by
    subst h1
    obtain ⟨d, env1, Hb1, g1, le1, sh1, S1, rp⟩ := S.imm h2 (GotE.bnd g)
    obtain ⟨ds, env2, Hb2, g2, le2, sh2, S2, rps⟩ := Stt.imms S1 (h4.keep le1) (GotE.bnd g1)
    exact ⟨d :: ds, env2, Hb2, g2, le1.trans le2, sh1.trans sh2, S2, _, _, rfl, Rp.mono le2 _ _ rp, rps⟩

/-! ### calls -/
/-- the heap behind a call, from what was handed in: io the address that may be changed -/
structure Aft (Hb Hc Hb' H' : Hp) (io : Addr → Prop) : Prop where
  le : Le Hb Hb'
  sub : Le Hb' H'
  keep : ∀ b o, Hc b = some o → ¬ io b → H' b = some o
  frs : ∀ b o, Hb' b = some o → Hb b = none → Hc b = none
/-- what is handed in -/
def ArgsOk (K : Fg) (Hb Hc : Hp) (io : Option OB) (ds : List D) (ioa : Option Addr) (vs : List V) : Prop := match io, ioa with
  | none, none => RpAll K Hb ds vs
  | some o, some a => ∃ vs', vs = .ref a :: vs' ∧ Hb a = none ∧ OBat K Hb Hc a o ∧ RpAll K Hb ds vs'
  | _, _ => False
/-- what is handed out -/
def RetOk (K : Fg) (Hc Hb' H' : Hp) (v : V) : RV → Prop
  | .val d => Rp K Hb' d v
  | .bo _ => False
  | .fr o => ∃ p, v = .ref p ∧ Hb' p = none ∧ OBat K Hb' H' p o ∧ Hc p = none
def IoOk (K : Fg) (Hb' H' : Hp) (io : Option OB) (ioa : Option Addr) : Prop := match io, ioa with
  | none, none => True
  | some o, some a => Hb' a = none ∧ OBat K Hb' H' a o
  | _, _ => False
/-- the contract of def f, by what Φ says of it -/
def SpOf (K : Fg) (ct : Nat → Addr) (n : Nat) (φ : Option OB → List D → Option FOut) : Sp := fun vs Hc Q E => vs.length = n ∧ ∃ Hb io ds ioa, Le Hb Hc ∧ ArgsOk K Hb Hc io ds ioa vs ∧ match φ io ds with
  | none => False
  | some (.ok r io') => ∀ v Hb' H', Aft Hb Hc Hb' H' (fun b => ioa = some b) → IoOk K Hb' H' io' ioa → RetOk K Hc Hb' H' v r → Q v H'
  | some (.ex c) => ∀ Hb' H', Aft Hb Hc Hb' H' (fun b => ioa = some b) → E (.ref (ct c)) none H'
/-- a def stands at the name x and keeps its contract -/
def KwB (K : Fg) (fd : FuncData) (ps : List Str) (kl : List (List Str × List Nat)) : Prop := ∀ q ∈ kl, ∀ (s : Shared) (us ws : List Value), K.In s.heap → us.length = ps.length → permL q.2 us = some ws → BindsTo s fd ⟨[], q.1.zip us⟩ (ps.zip ws)
structure FnAt (P : Program) (w : World) (K : Fg) (mg : Str → Option Value) (base : Heap) (ct : Nat → Addr) (k : Nat) (x : Str) (ps : List Str) (kl : List (List Str × List Nat)) (φ : Option OB → List D → Option FOut) : Prop where
  ex : ∃ fa fd, mg x = some (.ref fa) ∧ PySem.W.keepIn K (.ref fa) = true ∧ L2.Binds K fd ps [] ∧ KwB K fd ps kl ∧ Fok P w K mg base k fa fd ps (SpOf K ct ps.length φ)
/-- an exception class of the program's own -/
structure ExAt (K : Fg) (mg : Str → Option Value) (at_ : Nat → Addr) (x : Str) (c : Nat) : Prop where
  mg : mg x = some (.ref (at_ c))
  ex : PySem.W.excIn K (at_ c) He.veBase "ValueError.__new__" = true
  kp : PySem.W.keepIn K (.ref (at_ c)) = true
  sb : PySem.W.subIn K (.ref (at_ c)) (.type "BaseException") = some true
  ty : PySem.W.typeIn K (.ref (at_ c)) = some (.type "type")
/-- isinstance(e, c), e the exception that the suite holds -/
theorem call_isE' {X : Cx} {a D : Addr} {oe : Obj} {pn : List (Addr × Obj)} (hp : X.pn = (a, oe) :: pn) (C : ExcC X.K D) (hz : Zc (.ref D) none oe) (hf : ∃ vs, oe.data = .fields vs) : CallR X (.builtin "isinstance") (rIsE X.K D a) := by
  intro pins s σ H xs us Q I r h
  obtain ⟨c, cv, b, rfl, hcv, e, q⟩ := h
  cases r with
  | cons rx rr =>
    cases rr with
    | cons rt rr =>
      cases rr
      cases rx
      have ec := hcv _ rt
      subst ec
      obtain ⟨hget, _⟩ := I.pin (a, oe) (List.mem_append.mpr (.inl (by rw [hp]; exact List.mem_cons_self)))
      obtain ⟨vs, hv⟩ := hf
      have J : PySem.W.InstAt s.heap a oe D none := by
        obtain ⟨oc, od, oda, osl⟩ := oe
        obtain ⟨h1, h2⟩ := hz
        dsimp only at h1 h2 hv
        subst h1 h2 hv
        exact ⟨hget, rfl, rfl, trivial⟩
      exact PySem.W.kia_one (PySem.W.handS_kitx_exc C.hg C.hk C.hs C.hd C.ha C.hn C.ht C.hm) I.kIn J e (fun z => nomatch z) fun tk => ⟨.bl b, H, I.kept (t' := tk) fun _ _ z => z, rfl, q⟩
/-- what a body stands on -/
structure CkE (S : Sc) (Φ : Fn) (ct : CT) (k : Nat) (X : Cx) (W : WX) : Prop where
  xi : ct.xi = S.ex.bind fun n => ixOf n S.N
  ck : ct.ks = S.tb.cls.map (·.2)
  xc : ∀ x c, S.tb.cls.lookup x = some c → ExAt X.K X.mg ct.at_ x c
  xk : ∀ c ∈ ct.ks, (∀ y d, S.tb.cls.lookup y = some d → PySem.W.kitOne X.K (.ref (ct.at_ c)) (.ref (ct.at_ d)) = some ((S.tb.subs d).contains c) ∧ PySem.W.exmOne X.K (.ref (ct.at_ c)) (.ref (ct.at_ d)) = some ((S.tb.subs d).contains c)) ∧ PySem.W.kitOne X.K (.ref (ct.at_ c)) (.type "ValueError") = some true ∧ ExcC X.K (ct.at_ c)
  un : X.A.units + 200 < cLine
  N : X.N = S.N
  sc : X.env.scope = S.sc
  fnb : ∀ x, (match S.fnb with | none => true | some s => s.names.lookup x == some .cell) = true → X.fn x = true
  nd : X.N.Nodup
  hot : S.cm = true → X.calm = true ∧ Room k X.A
  gd : X.A.guards = some []
  tk : Takes X W
  fns : ∀ x f io ps kl, S.tb.fns.lookup x = some (f, io, ps, kl) → FnAt X.prog X.w X.K X.mg X.base ct.at_ k x ps kl (fun o ds => if o.isSome = io then Φ f o ds else none)
  sm : ∃ o, X.base.get? sysModules = some o
  bl : ∀ x, x ∈ S.tb.bls → X.mg x = none
theorem CkE.calm {S : Sc} {Φ : Fn} {ct : CT} {k : Nat} {X : Cx} {W : WX} (C : CkE S Φ ct k X W) (h : S.cm = true) : X.calm = true := (C.hot h).1
theorem CkE.room {S : Sc} {Φ : Fn} {ct : CT} {k : Nat} {X : Cx} {W : WX} (C : CkE S Φ ct k X W) (h : S.cm = true) : Room k X.A := (C.hot h).2
theorem CkE.xn {S : Sc} {Φ : Fn} {ct : CT} {k : Nat} {X : Cx} {W : WX} (C : CkE S Φ ct k X W) (h : S.cm = true) : ct.xi = none := by
  rw [C.xi]
  unfold Sc.cm at h
  cases e : S.ex with
  | none => rfl
  | some n => rw [e] at h; cases h
section
variable {X : Cx} {W : WX} {k : Nat} {x : Str} {p pos : Pos} {e : Expr} {es : List Expr} {t : TA}
theorem starEach_plain {e : Expr} {es : List Expr} {env : Env} (h : notStar e = true) : starEach (e :: es) env = (false, eval e env) :: starEach es env := by
  cases e <;> first | rfl | cases h
theorem backTo_plain {pos : Pos} {env : Env} : ∀ {es : List Expr}, allPlain es = true → (backTo pos (starEach es env)).any (·.1) = false
  | [], _ => rfl
  | e :: es, h => by
    have h' : notStar e = true ∧ allPlain es = true := by simpa [allPlain] using h
    rw [starEach_plain h'.1]
    show (false || (backTo pos (starEach es env)).any (·.1)) = false
    rw [backTo_plain h'.2]
    rfl
/-- a def of the module is called; what it raises is wished for at the slots -/
theorem pe_callF {f : Addr} {fd : FuncData} {ps : List Str} {sp : Sp} (F : Fok X.prog X.w X.K X.mg X.base k f fd ps sp) (hr : Room k X.A) (hgd : X.A.guards = some []) (hg : Gl X x) (hm : X.mg x = some (.ref f)) (hk : PySem.W.keepIn X.K (.ref f) = true) (hb : L2.Binds X.K fd ps []) (tk : Takes X W)
    (ha : PA X (e :: es) t) (hdb : (x == ("__debug__" : Str)) = false) (hp : allPlain (e :: es) = true) : PE X (.Call (.Name x p) (e :: es) [] pos) (tCallS sp (WE W) t) := by
  have h' : notStar e = true ∧ allPlain es = true := by simpa [allPlain] using hp
  refine ⟨fun pins s σ H Q I h => wpAny_Call_Name_kw (ld_glob I hg hm ?_ hdb)⟩
  refine PySem.W.callWith_K (h₀ := X.base) I.ok.mod.kin hk (thn (ha.run pos pins s σ H _ I h) fun us s1 hh => ?_) (starEach_plain h'.1) (backTo_plain h'.2)
  obtain ⟨vs, H1, I1, r, q⟩ := hh
  refine ⟨I1.kIn, ?_⟩
  have hl : us.length = ps.length := r.length.symm.trans (F.len _ _ _ _ q)
  have b := hb s1 us I1.kIn (by rw [List.append_nil]; exact hl)
  rw [List.append_nil] at b
  refine wpAny_call (codeAny_mono (F.run X.A X.stack s1 H1 ⟨us, []⟩ us vs Q (WE W σ) hr hgd I1.env0 b r q) fun r' s' hq => ?_)
  cases r' with
  | error e' => exact passAt tk σ pins H1 s1 e' s' I1 hq
  | ok fl => cases fl with
    | ret u => exact I1.after hq
    | next => exact hq.elim
    | brk => exact hq.elim
    | cont => exact hq.elim
/-- .. that has no parameters -/
theorem pe_callF0 {f : Addr} {fd : FuncData} {sp : Sp} (F : Fok X.prog X.w X.K X.mg X.base k f fd [] sp) (hr : Room k X.A) (hgd : X.A.guards = some []) (hg : Gl X x) (hm : X.mg x = some (.ref f)) (hk : PySem.W.keepIn X.K (.ref f) = true) (hb : L2.Binds X.K fd [] []) (tk : Takes X W)
    (hdb : (x == ("__debug__" : Str)) = false) : PE X (.Call (.Name x p) [] [] pos) (fun σ H Q => sp [] H Q (WE W σ)) := by
  refine ⟨fun pins s σ H Q I h => wpAny_Call_Name_kw (ld_glob I hg hm ?_ hdb)⟩
  refine PySem.W.callWith_K0 I.kIn hk ?_
  have b := hb s [] I.kIn rfl
  refine wpAny_call (codeAny_mono (F.run X.A X.stack s H ⟨[], []⟩ [] [] Q (WE W σ) hr hgd I.env0 b .nil h) fun r' s' hq => ?_)
  cases r' with
  | error e' => exact passAt tk σ pins H s e' s' I hq
  | ok fl => cases fl with
    | ret u => exact I.after hq
    | next => exact hq.elim
    | brk => exact hq.elim
    | cont => exact hq.elim
/-- .. by keywords alone -/
theorem permL_vals {perm : List Nat} : ∀ {zs vs : List V} {us : List Value}, Vals zs us → permL perm zs = some vs → ∃ ws, permL perm us = some ws ∧ Vals vs ws := by
  induction perm with
  | nil => intro zs vs us r h; cases h; exact ⟨[], rfl, .nil⟩
  | cons i perm ih =>
    intro zs vs us r h
    unfold permL at h ⊢
    rw [List.mapM_cons] at h ⊢
    cases hz : zs[i]? with
    | none => rw [hz] at h; cases h
    | some z =>
      cases hr : permL perm zs with
      | none =>
        unfold permL at hr
        rw [hz, hr] at h; cases h
      | some vr =>
        obtain ⟨ws, hw, rw'⟩ := ih r hr
        unfold permL at hr hw
        rw [hz, hr] at h
        cases h
        obtain ⟨u, hu, ru⟩ := r.get hz
        exact ⟨u :: ws, by rw [hu, hw]; rfl, .cons ru rw'⟩
theorem kw_named : ∀ {kws : List Keyword} {ks : List Str} {pos : Pos} {env : Env}, kwNames kws = some ks → (backToKw pos (keywordEach kws env)).all (·.1.isSome) = true ∧ (backToKw pos (keywordEach kws env)).filterMap (·.1) = ks ∧ (backToKw pos (keywordEach kws env)).any (·.1.isNone) = false
  | [], ks, pos, env, h => by cases h; exact ⟨rfl, rfl, rfl⟩
  | ⟨nm, e, p⟩ :: r, ks, pos, env, h => by
    cases nm with
    | none => cases h
    | some x =>
      obtain ⟨ks', h1, rfl⟩ := Option.map_eq_some_iff.mp (show (kwNames r).map (x :: ·) = some ks from h)
      obtain ⟨a, b, c⟩ := kw_named (pos := pos) (env := env) h1
      refine ⟨?_, ?_, ?_⟩
      · show (true && (backToKw pos (keywordEach r env)).all (·.1.isSome)) = true
        rw [a]; rfl
      · show x :: (backToKw pos (keywordEach r env)).filterMap (·.1) = _
        rw [b]
      · show (false || (backToKw pos (keywordEach r env)).any (·.1.isNone)) = false
        rw [c]; rfl
theorem pe_callKF {f : Addr} {fd : FuncData} {ps ks : List Str} {perm : List Nat} {kl : List (List Str × List Nat)} {sp : Sp} {kws : List Keyword} (F : Fok X.prog X.w X.K X.mg X.base k f fd ps sp) (hr : Room k X.A) (hgd : X.A.guards = some []) (hg : Gl X x) (hm : X.mg x = some (.ref f)) (hk : PySem.W.keepIn X.K (.ref f) = true)
    (hb : KwB X.K fd ps kl) (hq : (ks, perm) ∈ kl) (tk : Takes X W) (ha : PK X kws t) (hn : kwNames kws = some ks) (hdb : (x == ("__debug__" : Str)) = false) :
    PE X (.Call (.Name x p) [] kws pos) (fun σ H Q => t σ H fun zs H1 => zs.length = ps.length ∧ ∃ vs, permL perm zs = some vs ∧ sp vs H1 Q (WE W σ)) := by
  obtain ⟨n1, n2, n3⟩ := kw_named (pos := pos) (env := X.env) hn
  refine ⟨fun pins s σ H Q I h => wpAny_Call_Name_kw (ld_glob I hg hm ?_ hdb)⟩
  refine PySem.W.callWith_KW0 (h₀ := X.base) I.ok.mod.kin hk n1 (thn (ha.run pos pins s σ H _ I h) fun us s1 hh => ?_) (by show (false || _) = false; rw [n3]; rfl)
  obtain ⟨zs, H1, I1, r, hl, vs, hp, q⟩ := hh
  obtain ⟨ws, hw, rw'⟩ := permL_vals r hp
  refine ⟨I1.kIn, ?_⟩
  rw [n2]
  have b := hb _ hq s1 us ws I1.kIn (by rw [← r.length]; exact hl) hw
  refine wpAny_call (codeAny_mono (F.run X.A X.stack s1 H1 ⟨[], ks.zip us⟩ ws vs Q (WE W σ) hr hgd I1.env0 b rw' q) fun r' s' hq' => ?_)
  cases r' with
  | error e' => exact passAt tk σ pins H1 s1 e' s' I1 hq'
  | ok fl => cases fl with
    | ret u => exact I1.after hq'
    | next => exact hq'.elim
    | brk => exact hq'.elim
    | cont => exact hq'.elim
end
end HB

set_option Elab.async false
set_option linter.all false
set_option maxRecDepth 100000
set_option maxHeartbeats 2000000
/-! HBDct: dicts: what is at a key, one thing more, None as a key that is asked. -/
namespace HB
open PySem PySem.Spec PyProof.Rows L2

section
variable {K : Fg} {Hb : Hp}
theorem atK_cons {α : Type} {k0 k : Key} {ks : List Key} {d : α} {ds : List α} : atK (k0 :: ks) (d :: ds) k = if k0 = k then some d else atK ks ds k := by
  unfold atK
  rw [List.zip_cons_cons, List.find?_cons]
  by_cases e : k0 = k
  · simp [e]
  · simp [e]
theorem atK_rp : ∀ {ks : List Key} {ds : List D} {xs : List V} (k : Key), RpAll K Hb ds xs → (∀ d, atK ks ds k = some d → ∃ v, atK ks xs k = some v ∧ Rp K Hb d v) ∧ (atK ks ds k = none → atK ks xs k = none)
  | [], ds, xs, k, r => ⟨fun d h => by simp [atK] at h, fun _ => by simp [atK]⟩
  | k0 :: ks, [], xs, k, r => by cases r; exact ⟨fun d h => by simp [atK] at h, fun _ => by simp [atK]⟩
  | k0 :: ks, d0 :: ds, xs, k, ⟨y, ys, e, r1, r2⟩ => by
    subst e
    rw [atK_cons, atK_cons]
    by_cases e : k0 = k
    · rw [if_pos e, if_pos e]
      exact ⟨fun d h => by cases h; exact ⟨y, rfl, r1⟩, fun h => by cases h⟩
    · rw [if_neg e, if_neg e]
      exact atK_rp k r2
theorem any_zip (k : Key) : ∀ {ks : List Key} {xs : List V}, ks.length = xs.length → ((ks.zip xs).any fun kv => decide (kv.1 = k)) = hasK ks k
  | [], [], _ => rfl
  | k0 :: ks, x :: xs, h => by
    unfold hasK
    rw [List.zip_cons_cons, List.any_cons, List.any_cons]
    have z := any_zip k (ks := ks) (xs := xs) (by simpa using h)
    unfold hasK at z
    rw [z]
theorem has_some {k : Key} {ks : List Key} {xs : List V} (h : ks.length = xs.length) : hasK ks k = (valV (ks.zip xs) k).isSome := by
  rw [← valV_any, any_zip k h]
theorem map_zip (k : Key) (v : V) : ∀ {ks : List Key} {xs : List V}, ks.length = xs.length → ((ks.zip xs).map fun kv => if kv.1 = k then (kv.1, v) else kv) = ks.zip ((ks.zip xs).map fun p => if p.1 = k then v else p.2)
  | [], [], _ => rfl
  | k0 :: ks, x :: xs, h => by
    have z := map_zip k v (ks := ks) (xs := xs) (by simpa using h)
    rw [List.zip_cons_cons, List.map_cons, List.map_cons, z, List.zip_cons_cons]
    by_cases e : k0 = k
    · simp [e]
    · simp [e]
theorem put_zip {k : Key} {v : V} {ks : List Key} {xs : List V} (h : ks.length = xs.length) : putK (ks.zip xs) k v = (putKs ks k).zip (putX ks xs k v) := by
  unfold putK putKs putX
  rw [any_zip k h]
  cases hasK ks k with
  | true => rw [if_pos rfl, if_pos rfl, if_pos rfl]; exact map_zip k v h
  | false =>
    rw [if_neg Bool.false_ne_true, if_neg Bool.false_ne_true, if_neg Bool.false_ne_true, List.zip_append h]
    rfl
theorem put_len {α : Type} {k : Key} {v : α} {ks : List Key} {xs : List α} (h : ks.length = xs.length) : (putKs ks k).length = (putX ks xs k v).length := by
  unfold putKs putX
  cases hasK ks k with
  | true => rw [if_pos rfl, if_pos rfl, List.length_map, List.length_zip, ← h, Nat.min_self]
  | false => rw [if_neg Bool.false_ne_true, if_neg Bool.false_ne_true, List.length_append, List.length_append, h]; rfl
theorem zip_rp {k : Key} {d : D} {v : V} (hd : Rp K Hb d v) : ∀ {ks : List Key} {ds : List D} {xs : List V}, RpAll K Hb ds xs → RpAll K Hb ((ks.zip ds).map fun p => if p.1 = k then d else p.2) ((ks.zip xs).map fun p => if p.1 = k then v else p.2)
  | [], ds, xs, r => by simpa using (RpAll.nil : RpAll K Hb [] [])
  | k0 :: ks, [], xs, r => by cases r; simpa using (RpAll.nil : RpAll K Hb [] [])
  | k0 :: ks, d0 :: ds, xs, ⟨y, ys, e, r1, r2⟩ => by
    subst e
    rw [List.zip_cons_cons, List.zip_cons_cons, List.map_cons, List.map_cons]
    refine RpAll.cons ?_ (zip_rp hd r2)
    by_cases e : k0 = k
    · simpa [e] using hd
    · simpa [e] using r1
theorem put_rp {k : Key} {d : D} {v : V} (hd : Rp K Hb d v) {ks : List Key} {ds : List D} {xs : List V} (r : RpAll K Hb ds xs) : RpAll K Hb (putX ks ds k d) (putX ks xs k v) := by
  unfold putX
  cases hasK ks k with
  | true => rw [if_pos rfl, if_pos rfl]; exact zip_rp hd r
  | false => rw [if_neg Bool.false_ne_true, if_neg Bool.false_ne_true]; exact r.app (RpAll.one hd)
theorem key_rp {d : D} {k : Key} {v : V} (h : keyD d = some k) (r : Rp K Hb d v) : v = kV k := by
  cases d <;> simp only [keyD] at h <;> cases h <;> exact r
end
section
variable {X : Cx} {o e f : Expr} {apos cpos : Pos} {td ty tx : TE}
/-- x in a dict -/
def rInD (neg : Bool) : R2 := fun x y H Q => ∃ a kvs, y = .ref a ∧ H a = some (.dK kvs) ∧ ((∃ k, x = kV k ∧ Q (.bl (if neg then !(valV kvs k).isSome else (valV kvs k).isSome)) H) ∨ (x = .non ∧ Q (.bl neg) H))
theorem op_inD (hu : X.A.units + 1 < cLine) : OpR X (compareOp .In) (rInD false) := by
  intro pins s σ H x y v u Q I rx ry ⟨a, kvs, e1, e2, q⟩
  subst e1
  cases ry
  rcases q with ⟨k, e3, q⟩ | ⟨e3, q⟩
  · subst e3
    exact d_in hu I (DGet.k e2) rx fun s' I' => ⟨.bl (valV kvs k).isSome, H, I', rfl, q⟩
  · subst e3
    cases rx
    exact d_inNone I (.inl e2) fun s' I' => ⟨.bl false, H, I', rfl, q⟩
theorem op_notInD (hu : X.A.units + 1 < cLine) : OpR X (compareOp .NotIn) (rInD true) := by
  intro pins s σ H x y v u Q I rx ry ⟨a, kvs, e1, e2, q⟩
  subst e1
  cases ry
  rcases q with ⟨k, e3, q⟩ | ⟨e3, q⟩
  · subst e3
    exact d_notIn hu I (DGet.k e2) rx fun s' I' => ⟨.bl (!(valV kvs k).isSome), H, I', rfl, q⟩
  · subst e3
    cases rx
    exact d_notInNone I (.inl e2) fun s' I' => ⟨.bl true, H, I', rfl, q⟩
/-- d[k] -/
def rAtD : R2 := fun x y H Q => ∃ a kvs k v, x = .ref a ∧ y = kV k ∧ H a = some (.dK kvs) ∧ valV kvs k = some v ∧ Q v H
theorem ix_dct (hu : X.A.units + 1 < cLine) : IxR X rAtD := by
  intro value slice pins s σ H x y v u Q I rx ry ⟨a, kvs, k, z, e1, e2, e3, e4, q⟩ hs
  subst e1 e2
  cases rx
  have g : DGet H a (kV k) (some z) := by rw [← e4]; exact DGet.k e3
  exact tail_any (dict_typeIs I g) PySem.F.slot_dict_getitem.lookup (d_getItem hu I g ry fun w' s' I' r' => ⟨z, H, I', r', q⟩) hs
theorem pset_or {r r' : TSet} (h : PSet X r) (h' : PSet X r') : PSet X (fun o i v H Q => r o i v H Q ∨ r' o i v H Q) := by
  intro pins s σ H o i v ov iv u Q I ro ri rv q
  rcases q with q | q
  · exact h pins s σ H o i v ov iv u Q I ro ri rv q
  · exact h' pins s σ H o i v ov iv u Q I ro ri rv q
/-- what is asked for: a key, or None -/
def AskK (kvs : List (Key × V)) (y : V) (w : Option V) : Prop := (∃ k, y = kV k ∧ w = valV kvs k) ∨ (y = .non ∧ w = none)
/-- d.get(k), None among what is asked -/
def tGetA (td ty : TE) : TE := fun σ H Q => td σ H fun x H1 => ∃ a, x = .ref a ∧ IsD H1 a ∧ ty σ H1 fun y H2 => ∃ kvs w, H2 a = some (.dK kvs) ∧ AskK kvs y w ∧ Q (w.getD .non) H2
theorem pe_getA (hu : X.A.units + 1 < cLine) (ho : PE X o td) (he : PE X e ty) (m : M1 X o "get" apos e cpos) : PE X (.Call (.Attribute o "get" apos) [e] [] cpos) (tGetA td ty) := by
  constructor
  intro pins s σ H Q I h
  refine wpAny_Call_method m.base m.few m.line PySem.F.plainAttrs_dict PySem.F.slot_dict_get PySem.F.type_dict_get (thn (ho.run pins s σ H _ I h) fun u sA ⟨x, HA, IA', rx, a, ex, hd, hq⟩ => ?_)
  subst ex
  cases rx
  obtain ⟨c1, c2, _⟩ := isD_at IA' hd
  refine ⟨c1, c2, ?_⟩
  rw [m.trees]
  refine Calls.callWith_builtin rfl (Calls.evalArgs_plain (Calls.spliced_cons (thn (he.run pins sA σ HA _ IA' hq) fun iv sB ⟨y, HB, IB, ry, kvs, w, hk, ak, hz⟩ => Calls.spliced_nil ?_)))
  rcases ak with ⟨k, ey, ew⟩ | ⟨ey, ew⟩
  · subst ey ew
    exact d_get1 hu IB (DGet.k hk) ry fun w' sC IC rw' => ⟨_, HB, IC, rw', hz⟩
  · subst ey ew
    cases ry
    obtain ⟨_, hd', vs, rel, dd⟩ := dk_rd IB.hok (.inl hk)
    obtain ⟨g, hm, hg⟩ := none_map dd
    refine call_meetsIn PySem.F.slot_dict_get dd.typeIs PySem.F.entry_dict_get (PySem.F.args_dict_get_2 _ _) (meets_dict_get (noneKind X.prog X.w) (k := none) a rfl hd') ⟨g, hm, ?_⟩
    rw [hg]
    exact ⟨.non, HB, IB.tok _, rfl, hz⟩
end
end HB

set_option Elab.async false
set_option linter.all false
set_option maxRecDepth 100000
set_option maxHeartbeats 2000000
/-! HBSnd2: operators. -/
namespace HB
open PySem PySem.Spec PyProof.Rows L2

theorem ite_or' {α : Type} {c : Prop} [Decidable c] {x y a : α} (h : (if c then x else y) = a) : (c ∧ x = a) ∨ (¬ c ∧ y = a) := by
  by_cases e : c
  · rw [if_pos e] at h; exact .inl ⟨e, h⟩
  · rw [if_neg e] at h; exact .inr ⟨e, h⟩
theorem lim_le {n : Nat} (h : n ≤ LIM) : n ≤ sizeLine := Nat.le_trans h (by decide)
theorem lim_lt {n : Nat} (h : n < LIM) : n < sizeLine := Nat.lt_of_lt_of_le h (by decide)
section
variable {K : Fg} {B : Bs} {env : Evn} {σ : L2.St} {Hb H : Hp}
theorem Stt.madeL (S : Stt K B env σ Hb H) {p : Addr} (hp : H p = none) {ds : List D} {xs : List V} (h : RpAll K Hb ds xs) : Stt K B env σ Hb (upd H p (.lst xs)) ∧ RVOk K B env σ Hb (upd H p (.lst xs)) (.ref p) (.fr (.lst ds)) :=
  ⟨S.newH hp, p, rfl, S.hbn hp, ⟨xs, upd_same, h⟩, (S.fresh hp).1, (S.fresh hp).2, S.nofr hp⟩
theorem Stt.madeT (S : Stt K B env σ Hb H) {p : Addr} (hp : H p = none) {ds : List D} {xs : List V} (h : RpAll K Hb ds xs) : ∃ Hb', Le Hb Hb' ∧ Stt K B env σ Hb' (upd H p (.tup xs)) ∧ Rp K Hb' (.tup ds) (.ref p) :=
  ⟨upd Hb p (.tup xs), Le.new (S.hbn hp), S.new hp, p, xs, rfl, SqT.of upd_same, h.mono (Le.new (S.hbn hp))⟩
end
/-- what an operation over values asks, in a state -/
abbrev Fin (K : Fg) (B : Bs) (env : Evn) (σ : L2.St) (Hb : Hp) (Q : VK) (rv : RV) : Prop := ∀ v Hb' H', Stt K B env σ Hb' H' → Le Hb Hb' → RVOk K B env σ Hb' H' v rv → Q v H'
def OpB (X : Cx) (r : R2) (g : D → D → Option RV) : Prop := ∀ (B : Bs) (env : Evn) (σ : L2.St) (Hb H : Hp), Stt X.K B env σ Hb H → ∀ (d e : D) (v u : V) (rv : RV), g d e = some rv → Vw X.K Hb H d v → Vw X.K Hb H e u → ∀ Q : VK, Fin X.K B env σ Hb Q rv → r v u H Q
section
variable {X : Cx}
theorem fin_val {K : Fg} {B : Bs} {env : Evn} {σ : L2.St} {Hb H : Hp} {Q : VK} {d : D} {v : V} (S : Stt K B env σ Hb H) (f : Fin K B env σ Hb Q (.val d)) (h : Rp K Hb d v) : Q v H := f v Hb H S (Le.refl _) h
theorem bin_add : ∃ r, OpR X (binaryOp .Add) r ∧ OpB X r (binD .add) := by
  refine ⟨_, op_add.or (op_cat.or (op_catA.or op_add_str)), ?_⟩
  intro B env σ Hb H S d e v u rv h hv hu Q f
  cases d <;> cases e <;> simp only [binD] at h <;> try cases h
  · cases hv; cases hu; exact .inl ⟨_, _, rfl, rfl, fin_val S f rfl⟩
  · rename_i a b
    split at h
    · rename_i hl
      cases h; cases hv; cases hu
      exact .inr (.inr (.inr ⟨_, _, rfl, rfl, lim_le hl, fin_val S f rfl⟩))
    · cases h
  · rename_i a b
    split at h
    · rename_i hl
      cases h
      obtain ⟨x, xs, rfl, h1, h2⟩ := hv
      obtain ⟨y, ys, rfl, h3, h4⟩ := hu
      refine .inr (.inl ⟨x, y, xs, ys, rfl, rfl, h1, h3, by rw [← h2.length, ← h4.length]; exact lim_le hl, fun p hp => ?_⟩)
      obtain ⟨S', rv⟩ := S.madeL hp (h2.app h4)
      exact f _ _ _ S' (Le.refl _) rv
    · cases h
  · rename_i a b
    split at h
    · rename_i hl
      cases h
      obtain ⟨x, xs, rfl, h1, h2⟩ := hv
      obtain ⟨y, ys, rfl, h3, h4⟩ := hu
      refine .inr (.inr (.inl ⟨x, y, xs, ys, rfl, rfl, S.sub.sqt h1, S.sub.sqt h3, by rw [← h2.length, ← h4.length]; exact lim_le hl, fun ex => ?_, fun _ ey => ?_, fun _ _ p hp => ?_⟩))
      · subst ex
        have : a = [] := List.length_eq_zero_iff.mp h2.length
        subst this
        exact fin_val S f ⟨y, ys, rfl, h3, h4⟩
      · subst ey
        have : b = [] := List.length_eq_zero_iff.mp h4.length
        subst this
        rw [List.append_nil] at f
        exact fin_val S f ⟨x, xs, rfl, h1, h2⟩
      · obtain ⟨Hb', le, S', rp⟩ := S.madeT hp (h2.app h4)
        exact f _ _ _ S' le rp
    · cases h
theorem bin_sub : ∃ r, OpR X (binaryOp .Sub) r ∧ OpB X r (binD .sub) := by
  refine ⟨_, op_sub, ?_⟩
  intro B env σ Hb H S d e v u rv h hv hu Q f
  cases d <;> cases e <;> simp only [binD] at h <;> try cases h
  cases hv; cases hu; exact ⟨_, _, rfl, rfl, fin_val S f rfl⟩
theorem bin_mod : ∃ r, OpR X (binaryOp .Mod) r ∧ OpB X r (binD .mod) := by
  refine ⟨_, op_mod, ?_⟩
  intro B env σ Hb H S d e v u rv h hv hu Q f
  cases d <;> cases e <;> simp only [binD] at h <;> try cases h
  split at h
  · rename_i hl
    cases h; cases hv; cases hu; exact ⟨_, _, rfl, rfl, hl, fin_val S f rfl⟩
  · cases h
theorem bin_div : ∃ r, OpR X (binaryOp .FloorDiv) r ∧ OpB X r (binD .div) := by
  refine ⟨_, op_fdivW, ?_⟩
  intro B env σ Hb H S d e v u rv h hv hu Q f
  cases d <;> cases e <;> simp only [binD] at h <;> try cases h
  split at h
  · rename_i hl
    cases h; cases hv; cases hu; exact ⟨_, _, rfl, rfl, hl, fin_val S f rfl⟩
  · cases h
theorem bin_pow : ∃ r, OpR X (binaryOp .Pow) r ∧ OpB X r (binD .pow) := by
  refine ⟨rI (fun i j => 0 ≤ j ∧ (Builtin.Int.intBits i : Int) * j ≤ 2 ^ 27) fun i j => .int (i ^ j.toNat), opI fun i j t u Q E s hc q => pow_int hc.1 hc.2 q, ?_⟩
  intro B env σ Hb H S d e v u rv h hv hu Q f
  cases d <;> cases e <;> simp only [binD] at h <;> try cases h
  split at h
  · rename_i hl
    cases h; cases hv; cases hu; exact ⟨_, _, rfl, rfl, hl, fin_val S f rfl⟩
  · cases h
theorem bin_mul : ∃ r, OpR X (binaryOp .Mult) r ∧ OpB X r (binD .mul) := by
  refine ⟨_, ((op_mul.or op_mulW).or op_rep).or op_repT, ?_⟩
  intro B env σ Hb H S d e v u rv h hv hu Q f
  cases d <;> cases e <;> simp only [binD] at h <;> try cases h
  · rename_i i j
    split at h
    · rename_i hl
      cases h; cases hv; cases hu
      unfold mulOk at hl
      simp only [Bool.or_eq_true, decide_eq_true_eq] at hl
      rcases hl with (hl | hl) | hl
      · exact .inl (.inl (.inl ⟨_, _, rfl, rfl, .inl hl, fin_val S f rfl⟩))
      · exact .inl (.inl (.inl ⟨_, _, rfl, rfl, .inr hl, fin_val S f rfl⟩))
      · exact .inl (.inl (.inr ⟨_, _, rfl, rfl, hl, fin_val S f rfl⟩))
    · cases h
  · rename_i a k
    split at h
    · rename_i hl
      cases h
      obtain ⟨x, xs, rfl, h1, h2⟩ := hv
      cases hu
      obtain ⟨l1, l2, l3⟩ := hl
      refine .inl (.inr ⟨x, k, xs, rfl, rfl, h1, by omega, by omega, by rw [← h2.length]; exact lim_le l3, fun p hp => ?_⟩)
      obtain ⟨S', rv⟩ := S.madeL hp (h2.rep k.toNat)
      exact f _ _ _ S' (Le.refl _) rv
    · cases h
  · rename_i a k
    split at h
    · rename_i hl
      cases h
      obtain ⟨x, xs, rfl, h1, h2⟩ := hv
      cases hu
      obtain ⟨l0, l1, l2, l3⟩ := hl
      have ne : xs ≠ [] := by
        intro z
        subst z
        have := h2.length
        cases a with
        | nil => exact l0 rfl
        | cons _ _ => simp at this
      refine .inr ⟨x, k, xs, rfl, rfl, S.sub.sqt h1, ne, l1, l2, by rw [← h2.length]; exact l3, fun p hp => ?_⟩
      obtain ⟨Hb', le, S', rp⟩ := S.madeT hp (h2.rep k.toNat)
      exact f _ _ _ S' le rp
    · cases h
theorem bin_op {op : Operator} {o : Bop} (h : bopOf op = some o) : ∃ r, OpR X (binaryOp op) r ∧ OpB X r (binD o) := by
  cases op <;> simp [bopOf] at h <;> subst h
  · exact bin_add
  · exact bin_sub
  · exact bin_mul
  · exact bin_mod
  · exact bin_pow
  · exact bin_div

/-! ### data as the library's -/
mutual
theorem Rp.dp {K : Fg} {H : Hp} : ∀ (d : D) (v : V), (toPy d).canLay0 = true → Rp K H d v → Dp K H v (toPy d)
  | .non, _, _, h => by cases h; exact .non
  | .bl b, _, _, h => by cases h; exact .bl b
  | .int i, _, _, h => by cases h; exact .int i
  | .str x, _, _, h => by cases h; exact .str x
  | .lst ds, _, c, ⟨a, xs, h1, h2, h3⟩ => by
    subst h1
    exact .lst (SqL.of h2) (RpAll.dp ds xs (by simpa [toPy, PyData.canLay0] using c) h3)
  | .tup ds, _, c, ⟨a, xs, h1, h2, h3⟩ => by
    subst h1
    exact .tup h2 (RpAll.dp ds xs (by simpa [toPy, PyData.canLay0] using c) h3)
  | .frz ds, _, c, ⟨a, xs, h1, h2, h3⟩ => by
    subst h1
    exact .lst h2 (RpAll.dp ds xs (by simpa [toPy, PyData.canLay0] using c) h3)
  | .dK _ _, _, c, _ => by simp [toPy, PyData.canLay0] at c
  | .dT _ _, _, c, _ => by simp [toPy, PyData.canLay0] at c
theorem RpAll.dp {K : Fg} {H : Hp} : ∀ (ds : List D) (xs : List V), PyData.canLayAll0 (toPys ds) = true → RpAll K H ds xs → DpAll K H xs (toPys ds)
  | [], _, _, h => by cases h; exact .nil
  | d :: ds, _, c, ⟨y, ys, h1, h2, h3⟩ => by
    subst h1
    have c' : (toPy d).canLay0 = true ∧ PyData.canLayAll0 (toPys ds) = true := by simpa [toPys, PyData.canLayAll0] using c
    exact .cons (Rp.dp d y c'.1 h2) (RpAll.dp ds ys c'.2 h3)
end
theorem Vw.dp {K : Fg} {Hb H : Hp} (e : Le Hb H) {d : D} {v : V} (c : okPy d = true) (h : Vw K Hb H d v) : Dp K H v (toPy d) := Rp.dp d v (SeqAt.canLay_of_shaped c) (h.rp e)

/-! ### comparisons -/
def OpC (X : Cx) (r : R2) (g : D → D → Option Bool) : Prop := ∀ (Hb H : Hp), Le Hb H → ∀ (d e : D) (v u : V) (b : Bool), g d e = some b → Vw X.K Hb H d v → Vw X.K Hb H e u → ∀ Q : VK, Q (.bl b) H → r v u H Q
theorem eqP_is {d e : D} {b : Bool} (h : eqP d e = some b) : okPy d = true ∧ okPy e = true ∧ b = PyData.eqv (toPy d) (toPy e) := by
  unfold eqP at h
  split at h
  · rename_i c
    cases h
    rw [Bool.and_eq_true] at c
    exact ⟨c.1, c.2, rfl⟩
  · cases h
theorem eqD_cases {d e : D} {b : Bool} (h : eqD d e = some b) : (∃ x y, d = .str x ∧ e = .str y ∧ b = (x == y)) ∨ (∃ x y, d = .int x ∧ e = .int y ∧ b = (x == y)) ∨ (∃ x y, d = .lst x ∧ e = .lst y ∧ x.length ≠ y.length ∧ b = false) ∨
    (∃ x y, d = .tup x ∧ e = .tup y ∧ (x = [] ∨ y = []) ∧ b = decide (x.length = y.length)) ∨ (okPy d = true ∧ okPy e = true ∧ b = PyData.eqv (toPy d) (toPy e)) := by
  unfold eqD at h
  split at h
  · cases h; exact .inl ⟨_, _, rfl, rfl, rfl⟩
  · cases h; exact .inr (.inl ⟨_, _, rfl, rfl, rfl⟩)
  · rename_i x y
    split at h
    · rename_i hl
      cases h
      exact .inr (.inr (.inl ⟨x, y, rfl, rfl, hl, rfl⟩))
    · exact .inr (.inr (.inr (.inr (eqP_is h))))
  · rename_i x y
    split at h
    · rename_i hl
      cases h
      refine .inr (.inr (.inr (.inl ⟨x, y, rfl, rfl, ?_, ?_⟩)))
      · simpa [List.isEmpty_iff] using hl
      · cases x <;> cases y <;> simp at hl ⊢
    · exact .inr (.inr (.inr (.inr (eqP_is h))))
  · exact .inr (.inr (.inr (.inr (eqP_is h))))
def rLen2 (K : Fg) (f : Bool → Bool) : R2 := fun x y H Q => ∃ a c xs ys, x = .ref a ∧ y = .ref c ∧ ((SqL K H a xs ∧ SqL K H c ys ∧ xs.length ≠ ys.length ∧ Q (.bl (f false)) H) ∨ (SqT K H a xs ∧ SqT K H c ys ∧ (xs = [] ∨ ys = []) ∧ Q (.bl (f (decide (xs.length = ys.length)))) H))
theorem min_nil {α : Type} {xs ys : List α} (h : xs = [] ∨ ys = []) : min xs.length ys.length = 0 := by
  rcases h with h | h <;> subst h <;> simp
theorem op_eqE (hu : X.A.units < cLine) : OpR X (compareOp .Eq) (rLen2 X.K fun b => b) := by
  intro pins s σ H x y v u Q I rx ry h
  obtain ⟨a, c, xs, ys, rfl, rfl, h⟩ := h
  cases rx
  cases ry
  rcases h with ⟨h1, h2, hl, q⟩ | ⟨h1, h2, hl, q⟩
  · obtain ⟨is, r1, p1, _⟩ := I.list h1
    obtain ⟨js, r2, p2, _⟩ := I.list h2
    exact SeqAt.eq_list_lengthsAt p1.isList p2.isList (by simp only [List.size_toArray, bne_iff_ne, ne_eq]; rw [← r1.length, ← r2.length]; exact hl) hu ⟨.bl false, H, I, rfl, q⟩
  · obtain ⟨is, r1, p1, _⟩ := I.tuple h1
    obtain ⟨js, r2, p2, _⟩ := I.tuple h2
    have m : min is.length js.length = 0 := by rw [← r1.length, ← r2.length]; exact min_nil hl
    have e1 : s.heap.IsTuple a is.toArray := p1
    have e2 : s.heap.IsTuple c js.toArray := p2
    refine SeqAt.eq_tupleAt (e := fun _ => true) e1 e2 hu (fun j j1 j2 => ?_) ⟨.bl _, H, I, rfl, ?_⟩
    · simp only [List.size_toArray] at j1 j2; omega
    · have z : ((List.range (min is.toArray.size js.toArray.size)).all (fun _ => true) && is.toArray.size == js.toArray.size) = decide (xs.length = ys.length) := by
        simp only [List.size_toArray, m]
        rw [r1.length, r2.length]
        rfl
      rw [z]; exact q
theorem op_neE (hu : X.A.units < cLine) : OpR X (compareOp .NotEq) (rLen2 X.K fun b => !b) := by
  intro pins s σ H x y v u Q I rx ry h
  obtain ⟨a, c, xs, ys, rfl, rfl, h⟩ := h
  cases rx
  cases ry
  rcases h with ⟨h1, h2, hl, q⟩ | ⟨h1, h2, hl, q⟩
  · obtain ⟨is, r1, p1, _⟩ := I.list h1
    obtain ⟨js, r2, p2, _⟩ := I.list h2
    exact SeqAt.RcNeAt.lists_lengths p1.isList p2.isList (by simp only [List.size_toArray, bne_iff_ne, ne_eq]; rw [← r1.length, ← r2.length]; exact hl) hu X.prog X.w _ _ ⟨.bl true, H, I, rfl, q⟩
  · obtain ⟨is, r1, p1, _⟩ := I.tuple h1
    obtain ⟨js, r2, p2, _⟩ := I.tuple h2
    have m : min is.length js.length = 0 := by rw [← r1.length, ← r2.length]; exact min_nil hl
    have e1 : s.heap.IsTuple a is.toArray := p1
    have e2 : s.heap.IsTuple c js.toArray := p2
    refine SeqAt.RcNeAt.tuples (e := fun _ => true) e1 e2 hu (fun j j1 j2 => ?_) X.prog X.w _ _ ⟨.bl _, H, I, rfl, ?_⟩
    · simp only [List.size_toArray] at j1 j2; omega
    · have z : ((List.range (min is.toArray.size js.toArray.size)).all (fun _ => true) && is.toArray.size == js.toArray.size) = decide (xs.length = ys.length) := by
        simp only [List.size_toArray, m]
        rw [r1.length, r2.length]
        rfl
      rw [z]; exact q
theorem cmp_eq (hu : X.A.units + 64 < cLine) : ∃ r, OpR X (compareOp .Eq) r ∧ OpC X r (cmpD .eq) := by
  refine ⟨_, (op_eq.or (op_eqD hu)).or (op_eqE (by omega)), fun Hb H le d e v u b h hv hu' Q q => ?_⟩
  rcases eqD_cases (show eqD d e = some b by cases d <;> exact h) with ⟨x, y, rfl, rfl, rfl⟩ | ⟨x, y, rfl, rfl, rfl⟩ | ⟨x, y, rfl, rfl, hl, rfl⟩ | ⟨x, y, rfl, rfl, hl, rfl⟩ | ⟨c1, c2, rfl⟩
  · cases hv; cases hu'
    exact .inl (.inl ⟨rfl, by rw [dec_str]; exact q⟩)
  · cases hv; cases hu'
    exact .inl (.inl ⟨rfl, by rw [dec_int]; exact q⟩)
  · obtain ⟨a, xs, rfl, h1, h2⟩ := hv
    obtain ⟨c, ys, rfl, h3, h4⟩ := hu'
    exact .inr ⟨a, c, xs, ys, rfl, rfl, .inl ⟨SqL.of h1, SqL.of h3, by rw [← h2.length, ← h4.length]; exact hl, q⟩⟩
  · obtain ⟨a, xs, rfl, h1, h2⟩ := hv
    obtain ⟨c, ys, rfl, h3, h4⟩ := hu'
    refine .inr ⟨a, c, xs, ys, rfl, rfl, .inr ⟨le.sqt h1, le.sqt h3, ?_, by rw [← h2.length, ← h4.length]; exact q⟩⟩
    rcases hl with hl | hl <;> subst hl
    · exact .inl h2
    · exact .inr h4
  · exact .inl (.inr ⟨_, _, hv.dp le c1, hu'.dp le c2, c1, c2, q⟩)
theorem cmp_ne (hu : X.A.units + 64 < cLine) : ∃ r, OpR X (compareOp .NotEq) r ∧ OpC X r (cmpD .ne) := by
  refine ⟨_, (op_ne.or (op_neD hu)).or (op_neE (by omega)), fun Hb H le d e v u b h hv hu' Q q => ?_⟩
  have h' : (eqD d e).map (!·) = some b := by cases d <;> exact h
  obtain ⟨b', hb, rfl⟩ := Option.map_eq_some_iff.mp h'
  rcases eqD_cases hb with ⟨x, y, rfl, rfl, rfl⟩ | ⟨x, y, rfl, rfl, rfl⟩ | ⟨x, y, rfl, rfl, hl, rfl⟩ | ⟨x, y, rfl, rfl, hl, rfl⟩ | ⟨c1, c2, rfl⟩
  · cases hv; cases hu'
    exact .inl (.inl ⟨rfl, by rw [dec_str]; exact q⟩)
  · cases hv; cases hu'
    exact .inl (.inl ⟨rfl, by rw [dec_int]; exact q⟩)
  · obtain ⟨a, xs, rfl, h1, h2⟩ := hv
    obtain ⟨c, ys, rfl, h3, h4⟩ := hu'
    exact .inr ⟨a, c, xs, ys, rfl, rfl, .inl ⟨SqL.of h1, SqL.of h3, by rw [← h2.length, ← h4.length]; exact hl, q⟩⟩
  · obtain ⟨a, xs, rfl, h1, h2⟩ := hv
    obtain ⟨c, ys, rfl, h3, h4⟩ := hu'
    refine .inr ⟨a, c, xs, ys, rfl, rfl, .inr ⟨le.sqt h1, le.sqt h3, ?_, by rw [← h2.length, ← h4.length]; exact q⟩⟩
    rcases hl with hl | hl <;> subst hl
    · exact .inl h2
    · exact .inr h4
  · exact .inl (.inr ⟨_, _, hv.dp le c1, hu'.dp le c2, c1, c2, q⟩)
theorem cmp_lt : ∃ r, OpR X (compareOp .Lt) r ∧ OpC X r (cmpD .lt) := by
  refine ⟨_, op_lt, fun Hb H le d e v u b h hv hu' Q q => ?_⟩
  cases d <;> cases e <;> simp only [cmpD] at h <;> try cases h
  cases hv; cases hu'; exact ⟨_, _, rfl, rfl, q⟩
theorem cmp_le : ∃ r, OpR X (compareOp .LtE) r ∧ OpC X r (cmpD .le) := by
  refine ⟨_, op_le, fun Hb H le d e v u b h hv hu' Q q => ?_⟩
  cases d <;> cases e <;> simp only [cmpD] at h <;> try cases h
  cases hv; cases hu'; exact ⟨_, _, rfl, rfl, q⟩
theorem cmp_gt : ∃ r, OpR X (compareOp .Gt) r ∧ OpC X r (cmpD .gt) := by
  refine ⟨_, op_gt, fun Hb H le d e v u b h hv hu' Q q => ?_⟩
  cases d <;> cases e <;> simp only [cmpD] at h <;> try cases h
  cases hv; cases hu'; exact ⟨_, _, rfl, rfl, q⟩
theorem cmp_ge : ∃ r, OpR X (compareOp .GtE) r ∧ OpC X r (cmpD .ge) := by
  refine ⟨_, op_ge, fun Hb H le d e v u b h hv hu' Q q => ?_⟩
  cases d <;> cases e <;> simp only [cmpD] at h <;> try cases h
  cases hv; cases hu'; exact ⟨_, _, rfl, rfl, q⟩
theorem non_iff {K : Fg} {Hb H : Hp} {d : D} {v : V} (h : Vw K Hb H d v) : decide (v = .non) = isNon d := by
  cases d with
  | non => cases h; rfl
  | bl b => cases h; rfl
  | int b => cases h; rfl
  | str b => cases h; rfl
  | lst ds => obtain ⟨a, xs, rfl, _⟩ := h; rfl
  | tup ds => obtain ⟨a, xs, rfl, _⟩ := h; rfl
  | frz ds => obtain ⟨a, xs, rfl, _⟩ := h; rfl
  | dK _ ds => obtain ⟨a, xs, rfl, _⟩ := h; rfl
  | dT _ ds => obtain ⟨a, xs, rfl, _⟩ := h; rfl
  | exc c => obtain ⟨a, rfl⟩ := h; rfl
theorem cmp_is : ∃ r, OpR X (compareOp .Is) r ∧ OpC X r (cmpD .is) := by
  refine ⟨_, op_isN.or op_isBl, fun Hb H le d e v u b h hv hu' Q q => ?_⟩
  cases e with
  | non =>
    have h' : some (isNon d) = some b := by cases d <;> exact h
    cases h'
    exact .inl ⟨hu', by rw [non_iff hv]; exact q⟩
  | bl b' =>
    cases d <;> simp only [cmpD] at h <;> try cases h
    exact .inr ⟨_, _, hv, hu', q⟩
  | _ => cases d <;> simp only [cmpD] at h <;> cases h
theorem cmp_isn : ∃ r, OpR X (compareOp .IsNot) r ∧ OpC X r (cmpD .isn) := by
  refine ⟨_, op_notN.or op_notBl, fun Hb H le d e v u b h hv hu' Q q => ?_⟩
  cases e with
  | non =>
    have h' : some (!isNon d) = some b := by cases d <;> exact h
    cases h'
    exact .inl ⟨hu', by rw [non_iff hv]; exact q⟩
  | bl b' =>
    cases d <;> simp only [cmpD] at h <;> try cases h
    exact .inr ⟨_, _, hv, hu', q⟩
  | _ => cases d <;> simp only [cmpD] at h <;> cases h
theorem flat_is {K : Fg} {Hb : Hp} {d : D} {v w : V} (h : flatD d = some w) (r : Rp K Hb d v) : v = w ∧ flatV w = true := by
  cases d <;> simp only [flatD] at h <;> cases h <;> exact ⟨r, rfl⟩
theorem flats_is {K : Fg} {Hb : Hp} : ∀ {ds : List D} {xs ws : List V}, flatDs ds = some ws → RpAll K Hb ds xs → xs = ws ∧ ws.all flatV = true
  | [], _, _, h, r => by cases h; cases r; exact ⟨rfl, rfl⟩
  | d :: ds, _, _, h, ⟨y, ys, e, r1, r2⟩ => by
    unfold flatDs at h
    split at h
    · rename_i v vs h1 h2
      cases h
      obtain ⟨e1, f1⟩ := flat_is h1 r1
      obtain ⟨e2, f2⟩ := flats_is h2 r2
      subst e e1 e2
      exact ⟨rfl, by simp [f1, f2]⟩
    · cases h
theorem memD_is {K : Fg} {Hb H : Hp} {d : D} {ds : List D} {v : V} {xs : List V} {b : Bool} (h : memD d ds = some b) (hv : Vw K Hb H d v) (hx : RpAll K Hb ds xs) : flatV v = true ∧ xs.all flatV = true ∧ inV v xs = b := by
  unfold memD at h
  split at h
  · rename_i w ws h1 h2
    cases h
    have hv' : Rp K Hb d v := by cases d <;> first | exact hv | cases h1
    obtain ⟨e1, f1⟩ := flat_is h1 hv'
    obtain ⟨e2, f2⟩ := flats_is h2 hx
    subst e1 e2
    exact ⟨f1, f2, rfl⟩
  · cases h
theorem memK_is {K : Fg} {Hb H : Hp} {d : D} {ks : List Key} {v : V} {xs : List V} {b : Bool} (h : memK d ks = some b) (hv : Vw K Hb H d v) (hl : ks.length = xs.length) : (∃ k, v = kV k ∧ (valV (ks.zip xs) k).isSome = b) ∨ (v = .non ∧ b = false) := by
  cases d <;> simp only [memK, keyD] at h <;> cases h
  · exact .inr ⟨hv, rfl⟩
  · exact .inl ⟨.inl _, hv, (has_some hl).symm⟩
  · exact .inl ⟨.inr _, hv, (has_some hl).symm⟩
theorem toPys_map : ∀ ds : List D, toPys ds = ds.map toPy
  | [] => rfl
  | d :: ds => by rw [List.map_cons, ← toPys_map ds]; rfl
theorem memL_is {K : Fg} {Hb H : Hp} (le : Le Hb H) {d : D} {ds : List D} {v : V} {a : Addr} {xs : List V} {b : Bool} (h : memL d ds = some b) (hv : Vw K Hb H d v) (ha : H a = some (.lst xs)) (hx : RpAll K Hb ds xs) :
    (flatV v = true ∧ xs.all flatV = true ∧ inV v xs = b) ∨ ∃ p ps, Dp K H v p ∧ Dp K H (.ref a) (.list ps) ∧ SeqAt.shaped p = true ∧ SeqAt.shaped (.list ps) = true ∧ (ps.any fun z => PyData.eqv z p) = b := by
  unfold memL at h
  split at h
  · rename_i b' hb
    cases h
    exact .inl (memD_is hb hv hx)
  · rcases ite_or' h with ⟨hc, h⟩ | ⟨_, h⟩
    · cases h
      simp only [Bool.and_eq_true] at hc
      refine .inr ⟨toPy d, toPys ds, Vw.dp le hc.1 hv, ?_, hc.1, hc.2, ?_⟩
      · exact Vw.dp (d := .lst ds) le hc.2 ⟨a, xs, rfl, ha, hx⟩
      · rw [toPys_map, List.any_map]; rfl
    · cases h
theorem cmp_mem (hu : X.A.units + 65 < cLine) : ∃ r, OpR X (compareOp .In) r ∧ OpC X r (cmpD .mem) := by
  refine ⟨_, ((op_in_seq.or (op_inD (by omega))).or (L2.op_inD hu)), fun Hb H le d e v u b h hv hu' Q q => ?_⟩
  cases e with
  | lst ds =>
    have h' : memL d ds = some b := by cases d <;> exact h
    obtain ⟨a, xs, rfl, h1, h2⟩ := hu'
    rcases memL_is le h' hv h1 h2 with ⟨f1, f2, e⟩ | ⟨p, ps, k1, k2, k3, k4, e⟩
    · exact .inl (.inl ⟨a, xs, rfl, .inl (SqL.of h1), f1, f2, by rw [e]; exact q⟩)
    · exact .inr ⟨p, ps, k1, k2, k3, k4, by rw [e]; exact q⟩
  | tup ds =>
    have h' : memD d ds = some b := by cases d <;> exact h
    obtain ⟨a, xs, rfl, h1, h2⟩ := hu'
    obtain ⟨f1, f2, e⟩ := memD_is h' hv h2
    exact .inl (.inl ⟨a, xs, rfl, .inr (le.sqt h1), f1, f2, by rw [e]; exact q⟩)
  | dK ks ds =>
    have h' : memK d ks = some b := by cases d <;> exact h
    obtain ⟨a, xs, rfl, h1, hl, h2⟩ := hu'
    rcases memK_is h' hv hl with ⟨k, e1, e2⟩ | ⟨e1, e2⟩
    · exact .inl (.inr ⟨a, _, rfl, h1, .inl ⟨k, e1, by rw [if_neg Bool.false_ne_true, e2]; exact q⟩⟩)
    · subst e2; exact .inl (.inr ⟨a, _, rfl, h1, .inr ⟨e1, q⟩⟩)
  | _ => cases d <;> simp only [cmpD] at h <;> cases h
theorem cmp_nmem (hu : X.A.units + 65 < cLine) : ∃ r, OpR X (compareOp .NotIn) r ∧ OpC X r (cmpD .nmem) := by
  refine ⟨_, ((op_notIn_seq.or (op_notInD (by omega))).or (L2.op_notInD hu)), fun Hb H le d e v u b h hv hu' Q q => ?_⟩
  cases e with
  | lst ds =>
    have h' : (memL d ds).map (!·) = some b := by cases d <;> exact h
    obtain ⟨b', hb, rfl⟩ := Option.map_eq_some_iff.mp h'
    obtain ⟨a, xs, rfl, h1, h2⟩ := hu'
    rcases memL_is le hb hv h1 h2 with ⟨f1, f2, e⟩ | ⟨p, ps, k1, k2, k3, k4, e⟩
    · exact .inl (.inl ⟨a, xs, rfl, .inl (SqL.of h1), f1, f2, by rw [e]; exact q⟩)
    · exact .inr ⟨p, ps, k1, k2, k3, k4, by rw [e]; exact q⟩
  | tup ds =>
    have h' : (memD d ds).map (!·) = some b := by cases d <;> exact h
    obtain ⟨b', hb, rfl⟩ := Option.map_eq_some_iff.mp h'
    obtain ⟨a, xs, rfl, h1, h2⟩ := hu'
    obtain ⟨f1, f2, e⟩ := memD_is hb hv h2
    exact .inl (.inl ⟨a, xs, rfl, .inr (le.sqt h1), f1, f2, by rw [e]; exact q⟩)
  | dK ks ds =>
    have h' : (memK d ks).map (!·) = some b := by cases d <;> exact h
    obtain ⟨b', hb, rfl⟩ := Option.map_eq_some_iff.mp h'
    obtain ⟨a, xs, rfl, h1, hl, h2⟩ := hu'
    rcases memK_is hb hv hl with ⟨k, e1, e2⟩ | ⟨e1, e2⟩
    · exact .inl (.inr ⟨a, _, rfl, h1, .inl ⟨k, e1, by rw [if_pos rfl, e2]; exact q⟩⟩)
    · subst e2; exact .inl (.inr ⟨a, _, rfl, h1, .inr ⟨e1, q⟩⟩)
  | _ => cases d <;> simp only [cmpD] at h <;> cases h
theorem cmp_op (hu0 : X.A.units + 65 < cLine) {op : CmpOp} {o : Cop} (h : copOf op = some o) : ∃ r, OpR X (compareOp op) r ∧ OpC X r (cmpD o) := by
  have hu : X.A.units + 64 < cLine := by omega
  cases op <;> simp [copOf] at h <;> subst h
  · exact cmp_eq hu
  · exact cmp_ne hu
  · exact cmp_lt
  · exact cmp_le
  · exact cmp_gt
  · exact cmp_ge
  · exact cmp_is
  · exact cmp_isn
  · exact cmp_mem hu0
  · exact cmp_nmem hu0
end
end HB

set_option Elab.async false
set_option linter.all false
set_option maxRecDepth 100000
set_option maxHeartbeats 2000000
/-! HBSnd3: the machine's own functions and methods. -/
namespace HB
open PySem PySem.Spec PyProof.Rows L2

def VwAll (K : Fg) (Hb H : Hp) : List D → List V → Prop
  | [], vs => vs = []
  | d :: ds, vs => ∃ v vs', vs = v :: vs' ∧ Vw K Hb H d v ∧ VwAll K Hb H ds vs'
theorem Stt.views {K : Fg} {B : Bs} {env : Evn} {σ : L2.St} {Hb H : Hp} (S : Stt K B env σ Hb H) : ∀ {rs : List RV} {vs : List V} {ds : List D}, RVsOk K B env σ Hb H rs vs → opds env rs = some ds → VwAll K Hb H ds vs
  | [], _, _, h, e => by cases e; exact h
  | r :: rs, _, ds, ⟨v, vs, h1, h2, h3, h4⟩, e => by
    unfold opds at e
    split at e
    · rename_i d ds' e1 e2
      cases e
      exact ⟨v, vs, h1, S.view h2 e1, S.views h4 e2⟩
    · cases e
theorem VwAll.one {K : Fg} {Hb H : Hp} {d : D} {vs : List V} (h : VwAll K Hb H [d] vs) : ∃ v, vs = [v] ∧ Vw K Hb H d v := by
  obtain ⟨v, vs', rfl, h1, h2⟩ := h
  cases h2
  exact ⟨v, rfl, h1⟩
theorem VwAll.two {K : Fg} {Hb H : Hp} {d e : D} {vs : List V} (h : VwAll K Hb H [d, e] vs) : ∃ v u, vs = [v, u] ∧ Vw K Hb H d v ∧ Vw K Hb H e u := by
  obtain ⟨v, vs', rfl, h1, h2⟩ := h
  obtain ⟨u, rfl, h3⟩ := h2.one
  exact ⟨v, u, rfl, h1, h3⟩
/-- a function by values, as g says -/
def OpA (X : Cx) (r : List V → Hp → VK → Prop) (g : List D → Option RV) : Prop := ∀ (B : Bs) (env : Evn) (σ : L2.St) (Hb H : Hp), Stt X.K B env σ Hb H → ∀ (ds : List D) (vs : List V) (rv : RV), g ds = some rv → VwAll X.K Hb H ds vs → ∀ Q : VK, Fin X.K B env σ Hb Q rv → r vs H Q
theorem ints_is {K : Fg} {Hb : Hp} : ∀ {ds : List D} {xs : List V} {is : List Int}, intsD ds = some is → RpAll K Hb ds xs → xs = is.map V.int
  | [], _, _, h, r => by cases h; cases r; rfl
  | d :: ds, _, _, h, ⟨y, ys, e, r1, r2⟩ => by
    unfold intsD at h
    split at h
    · rename_i i is h1 h2
      cases h
      subst e
      rw [ints_is h2 r2]
      cases d <;> simp only [intD] at h1 <;> cases h1
      cases r1
      rfl
    · cases h
theorem bls_is {K : Fg} {Hb : Hp} : ∀ {ds : List D} {xs : List V} {bs : List Bool}, blsD ds = some bs → RpAll K Hb ds xs → xs = bs.map V.bl
  | [], _, _, h, r => by cases h; cases r; rfl
  | d :: ds, _, _, h, ⟨y, ys, e, r1, r2⟩ => by
    cases d <;> simp only [blsD] at h <;> try cases h
    rename_i b
    obtain ⟨bs', hb, rfl⟩ := Option.map_eq_some_iff.mp h
    subst e
    rw [bls_is hb r2]
    cases r1
    rfl
theorem rp_ints {K : Fg} {Hb : Hp} : ∀ (is : List Int), RpAll K Hb (is.map D.int) (is.map V.int)
  | [] => rfl
  | i :: is => ⟨_, _, rfl, rfl, rp_ints is⟩
/-! sorting -/
theorem insI_perm (i : Int) : ∀ l : List Int, (insI i l).Perm (i :: l)
  | [] => .refl _
  | j :: r => by
    unfold insI
    split
    · exact .refl _
    · exact (List.Perm.cons j (insI_perm i r)).trans (List.Perm.swap i j r)
theorem sortI_perm : ∀ l : List Int, (sortI l).Perm l
  | [] => .refl _
  | i :: r => (insI_perm i (sortI r)).trans (List.Perm.cons i (sortI_perm r))
theorem insI_sorted (i : Int) : ∀ l : List Int, l.Pairwise (· ≤ ·) → (insI i l).Pairwise (· ≤ ·)
  | [], _ => by simp [insI]
  | j :: r, h => by
    unfold insI
    have h' := List.pairwise_cons.mp h
    split
    · rename_i hij
      refine List.pairwise_cons.mpr ⟨fun x hx => ?_, h⟩
      rcases List.mem_cons.mp hx with e | hx
      · subst e; exact hij
      · exact Int.le_trans hij (h'.1 x hx)
    · rename_i hij
      refine List.pairwise_cons.mpr ⟨fun x hx => ?_, insI_sorted i r h'.2⟩
      have hx' := (insI_perm i r).mem_iff.mp hx
      rcases List.mem_cons.mp hx' with e | hx'
      · subst e; omega
      · exact h'.1 x hx'
theorem sortI_sorted : ∀ l : List Int, (sortI l).Pairwise (· ≤ ·)
  | [] => .nil
  | i :: r => insI_sorted i _ (sortI_sorted r)
theorem sorted_uniq : ∀ {a b : List Int}, a.Perm b → a.Pairwise (· ≤ ·) → b.Pairwise (· ≤ ·) → a = b
  | [], b, p, _, _ => (List.nil_perm.mp p).symm
  | x :: a, [], p, _, _ => by simp at p
  | x :: a, y :: b, p, ha, hb => by
    have ha' := List.pairwise_cons.mp ha
    have hb' := List.pairwise_cons.mp hb
    have e : x = y := by
      have h1 : x ∈ y :: b := p.mem_iff.mp List.mem_cons_self
      have h2 : y ∈ x :: a := p.mem_iff.mpr List.mem_cons_self
      rcases List.mem_cons.mp h1 with e | h1
      · exact e
      · rcases List.mem_cons.mp h2 with e | h2
        · exact e.symm
        · exact Int.le_antisymm (ha'.1 y h2) (hb'.1 x h1)
    subst e
    rw [sorted_uniq (List.Perm.cons_inv p) ha'.2 hb'.2]
theorem sorted_is {a b : List Int} (p : a.Perm b) (h : a.Pairwise (· ≤ ·)) : a = sortI b := sorted_uniq (p.trans (sortI_perm b).symm) h (sortI_sorted b)
section
variable {X : Cx}
/-- the machine's function x -/
structure BltOk (X : Cx) (x : Str) (r : List V → Hp → VK → Prop) : Prop where
  pe : ∀ (e : Expr) (es : List Expr) (t : TA) (p pos : Pos), Gl X x → X.mg x = none → allPlain (e :: es) = true → PA X (e :: es) t → PE X (.Call (.Name x p) (e :: es) [] pos) (tCB r t)
theorem blt_b {x : Str} {id : String} {r : List V → Hp → VK → Prop} (hc : CallR X (.builtin id) r) (hv : bootBuiltins x = some (.builtin id)) (hn : x ≠ "__name__" := by decide) (hd : (x == ("__debug__" : Str)) = false := by decide) : BltOk X x r :=
  ⟨fun e es t p pos hg hm hp ha => by
    have h' : notStar e = true ∧ allPlain es = true := by simpa [allPlain] using hp
    exact pe_callB hc hg hm hv ha hn hd (starEach_plain h'.1) (backTo_plain h'.2)⟩
theorem blt_t {x : Str} {T : String} {r : List V → Hp → VK → Prop} (hc : CallR X (.type T) r) (hv : bootBuiltins x = some (.type T)) (hn : x ≠ "__name__" := by decide) (hd : (x == ("__debug__" : Str)) = false := by decide) : BltOk X x r :=
  ⟨fun e es t p pos hg hm hp ha => by
    have h' : notStar e = true ∧ allPlain es = true := by simpa [allPlain] using hp
    exact pe_callTy hc hg hm hv ha hn hd (starEach_plain h'.1) (backTo_plain h'.2)⟩
theorem call_no (f : Value) : CallR X f (fun _ _ _ => False) := fun _ _ _ _ _ _ _ _ _ h => h.elim
theorem or_len : CallR X (.builtin "len") (fun xs H Q => (∃ p ys, xs = [.ref p] ∧ (SqL X.K H p ys ∨ SqT X.K H p ys) ∧ Q (.int ys.length) H)) := call_len_seq
theorem blt_len : ∃ r, BltOk X "len" r ∧ OpA X r (bltD .len) := by
  refine ⟨_, blt_b (call_len_seq.or call_len_str) PySem.boot_len, fun B env σ Hb H S ds vs rv h hv Q f => ?_⟩
  match ds, h with
  | [.lst ds], h =>
    cases h
    obtain ⟨v, rfl, a, xs, rfl, h1, h2⟩ := hv.one
    exact .inl ⟨a, xs, rfl, .inl (SqL.of h1), by rw [← h2.length]; exact fin_val S f rfl⟩
  | [.tup ds], h =>
    cases h
    obtain ⟨v, rfl, a, xs, rfl, h1, h2⟩ := hv.one
    exact .inl ⟨a, xs, rfl, .inr (S.sub.sqt h1), by rw [← h2.length]; exact fin_val S f rfl⟩
  | [.frz ds], h =>
    cases h
    obtain ⟨v, rfl, a, xs, rfl, h1, h2⟩ := hv.one
    exact .inl ⟨a, xs, rfl, .inl (S.sub.sql h1), by rw [← h2.length]; exact fin_val S f rfl⟩
  | [.str x], h =>
    rcases ite_or' (show (if x.length ≤ LIM then some (RV.val (.int x.length)) else none) = some rv from h) with ⟨hl, h⟩ | ⟨_, h⟩
    · cases h
      obtain ⟨v, rfl, h1⟩ := hv.one
      cases h1
      exact .inr ⟨x, rfl, lim_le hl, fin_val S f rfl⟩
    · cases h
theorem blt_int : ∃ r, BltOk X "int" r ∧ OpA X r (bltD .int) := by
  refine ⟨_, blt_t (call_int1.or call_int_str) PyProof.Rows.boot_int, fun B env σ Hb H S ds vs rv h hv Q f => ?_⟩
  match ds, h with
  | [.int i], h =>
    cases h
    obtain ⟨v, rfl, h1⟩ := hv.one
    cases h1
    exact .inl (.inl ⟨_, rfl, fin_val S f rfl⟩)
  | [.bl b], h =>
    cases h
    obtain ⟨v, rfl, h1⟩ := hv.one
    cases h1
    exact .inl (.inr ⟨_, rfl, fin_val S f rfl⟩)
  | [.str x], h =>
    rcases ite_or' (show (if x.length ≤ 640 then (PySem.intText? x).map fun n => RV.val (.int n) else none) = some rv from h) with ⟨hl, h⟩ | ⟨_, h⟩
    · obtain ⟨n, hn, rfl⟩ := Option.map_eq_some_iff.mp h
      obtain ⟨v, rfl, h1⟩ := hv.one
      cases h1
      exact .inr ⟨x, n, rfl, hn, hl, fin_val S f rfl⟩
    · cases h
theorem blt_str : ∃ r, BltOk X "str" r ∧ OpA X r (bltD .str) := by
  refine ⟨_, blt_t call_str_int (by decide +kernel), fun B env σ Hb H S ds vs rv h hv Q f => ?_⟩
  match ds, h with
  | [.int i], h =>
    rcases ite_or' (show (if i.natAbs.log2 < 1920 then some (RV.val (.str (toString i))) else none) = some rv from h) with ⟨hl, h⟩ | ⟨_, h⟩
    · cases h
      obtain ⟨v, rfl, h1⟩ := hv.one
      cases h1
      exact ⟨i, rfl, hl, fin_val S f rfl⟩
    · cases h
theorem maxI_is : ∀ {l : List Int} {m : Int}, maxI l = some m → m ∈ l ∧ ∀ y ∈ l, y ≤ m
  | [], m, h => by cases h
  | a :: r, m, h => by
    unfold maxI at h
    cases hr : maxI r with
    | none =>
      rw [hr] at h; cases h
      cases r with
      | nil => simp
      | cons b r => unfold maxI at hr; cases h2 : maxI r <;> simp [h2] at hr
    | some b =>
      rw [hr] at h
      obtain ⟨h1, h2⟩ := maxI_is hr
      simp only [Option.some.injEq] at h
      subst h
      refine ⟨?_, fun y hy => ?_⟩
      · split
        · exact List.mem_cons_self
        · exact List.mem_cons_of_mem _ h1
      · rcases List.mem_cons.mp hy with e | hy
        · subst e; split <;> omega
        · have := h2 y hy; split <;> omega
theorem minI_is : ∀ {l : List Int} {m : Int}, minI l = some m → m ∈ l ∧ ∀ y ∈ l, m ≤ y
  | [], m, h => by cases h
  | a :: r, m, h => by
    unfold minI at h
    cases hr : minI r with
    | none =>
      rw [hr] at h; cases h
      cases r with
      | nil => simp
      | cons b r => unfold minI at hr; cases h2 : minI r <;> simp [h2] at hr
    | some b =>
      rw [hr] at h
      obtain ⟨h1, h2⟩ := minI_is hr
      simp only [Option.some.injEq] at h
      subst h
      refine ⟨?_, fun y hy => ?_⟩
      · split
        · exact List.mem_cons_self
        · exact List.mem_cons_of_mem _ h1
      · rcases List.mem_cons.mp hy with e | hy
        · subst e; split <;> omega
        · have := h2 y hy; split <;> omega
theorem blt_maxL (hc : X.calm = true) : ∃ r, BltOk X "max" r ∧ OpA X r (bltD .maxL) := by
  refine ⟨_, blt_b (cr_max hc) PyProof.Rows.boot_max, fun B env σ Hb H S ds vs rv h hv Q f => ?_⟩
  match ds, h with
  | [.lst ds], h =>
    have h : (match intsD ds with
      | some is => (maxI is).map fun i => RV.val (.int i)
      | none => none) = some rv := h
    cases hi : intsD ds with
    | none => rw [hi] at h; cases h
    | some is =>
      rw [hi] at h
      obtain ⟨m, hm, rfl⟩ := Option.map_eq_some_iff.mp h
      obtain ⟨v, rfl, a, xs, rfl, h2, h3⟩ := hv.one
      rw [ints_is hi h3] at h2
      obtain ⟨k1, k2⟩ := maxI_is hm
      refine ⟨a, is, rfl, SqL.of h2, List.length_pos_of_mem k1, fun z hz hle => ?_⟩
      have e : z = m := Int.le_antisymm (k2 z hz) (hle m k1)
      subst e
      exact fin_val S f rfl
theorem blt_minL (hc : X.calm = true) : ∃ r, BltOk X "min" r ∧ OpA X r (bltD .minL) := by
  refine ⟨_, blt_b (cr_min hc) PyProof.Rows.boot_min, fun B env σ Hb H S ds vs rv h hv Q f => ?_⟩
  match ds, h with
  | [.lst ds], h =>
    have h : (match intsD ds with
      | some is => (minI is).map fun i => RV.val (.int i)
      | none => none) = some rv := h
    cases hi : intsD ds with
    | none => rw [hi] at h; cases h
    | some is =>
      rw [hi] at h
      obtain ⟨m, hm, rfl⟩ := Option.map_eq_some_iff.mp h
      obtain ⟨v, rfl, a, xs, rfl, h2, h3⟩ := hv.one
      rw [ints_is hi h3] at h2
      obtain ⟨k1, k2⟩ := minI_is hm
      refine ⟨a, is, rfl, SqL.of h2, List.length_pos_of_mem k1, fun z hz hle => ?_⟩
      have e : z = m := Int.le_antisymm (hle m k1) (k2 z hz)
      subst e
      exact fin_val S f rfl
theorem blt_abs : ∃ r, BltOk X "abs" r ∧ OpA X r (bltD .abs) := by
  refine ⟨_, blt_b call_abs (by decide +kernel), fun B env σ Hb H S ds vs rv h hv Q f => ?_⟩
  match ds, h with
  | [.int i], h =>
    cases h
    obtain ⟨v, rfl, h1⟩ := hv.one
    cases h1
    exact ⟨_, rfl, fin_val S f rfl⟩
theorem blt_max2 (hc : X.calm = true) : ∃ r, BltOk X "max" r ∧ OpA X r (bltD .max2) := by
  refine ⟨_, blt_b (call_max2 hc) PyProof.Rows.boot_max, fun B env σ Hb H S ds vs rv h hv Q f => ?_⟩
  match ds, h with
  | [.int i, .int j], h =>
    cases h
    obtain ⟨v, u, rfl, h1, h2⟩ := hv.two
    cases h1; cases h2
    exact ⟨_, _, rfl, fin_val S f rfl⟩
theorem blt_min2 (hc : X.calm = true) : ∃ r, BltOk X "min" r ∧ OpA X r (bltD .min2) := by
  refine ⟨_, blt_b (call_min2 hc) PyProof.Rows.boot_min, fun B env σ Hb H S ds vs rv h hv Q f => ?_⟩
  match ds, h with
  | [.int i, .int j], h =>
    cases h
    obtain ⟨v, u, rfl, h1, h2⟩ := hv.two
    cases h1; cases h2
    exact ⟨_, _, rfl, fin_val S f rfl⟩
theorem one_lst {α : Type} {g : List D → Option α} {k : α → RV} {ds : List D} {rv : RV} (b : Blt) (hb : ∀ ds, bltD b ds = match ds with | [.lst ds] => (g ds).map k | _ => none) (h : bltD b ds = some rv) : ∃ es a, ds = [.lst es] ∧ g es = some a ∧ rv = k a := by
  rw [hb] at h
  split at h
  · rename_i es
    obtain ⟨a, h1, rfl⟩ := Option.map_eq_some_iff.mp h
    exact ⟨es, a, rfl, h1, rfl⟩
  · cases h
theorem blt_sum (hc : X.calm = true) : ∃ r, BltOk X "sum" r ∧ OpA X r (bltD .sum) := by
  refine ⟨_, blt_b (cr_sum hc) PyProof.Rows.boot_sum, fun B env σ Hb H S ds vs rv h hv Q f => ?_⟩
  obtain ⟨es, is, rfl, h1, rfl⟩ := one_lst (g := intsD) (k := fun is => .val (.int is.sum)) .sum (fun ds => by cases ds with | nil => rfl | cons d r => cases r <;> cases d <;> rfl) h
  obtain ⟨v, rfl, a, xs, rfl, h2, h3⟩ := hv.one
  rw [ints_is h1 h3] at h2
  exact ⟨a, is, rfl, SqL.of h2, fin_val S f rfl⟩
theorem blt_all (hc : X.calm = true) : ∃ r, BltOk X "all" r ∧ OpA X r (bltD .all) := by
  refine ⟨_, blt_b (cr_all hc) (by decide +kernel), fun B env σ Hb H S ds vs rv h hv Q f => ?_⟩
  obtain ⟨es, is, rfl, h1, rfl⟩ := one_lst (g := blsD) (k := fun bs => .val (.bl (bs.all id))) .all (fun ds => by cases ds with | nil => rfl | cons d r => cases r <;> cases d <;> rfl) h
  obtain ⟨v, rfl, a, xs, rfl, h2, h3⟩ := hv.one
  rw [bls_is h1 h3] at h2
  exact ⟨a, is, rfl, SqL.of h2, fin_val S f rfl⟩
theorem blt_any (hc : X.calm = true) : ∃ r, BltOk X "any" r ∧ OpA X r (bltD .any) := by
  refine ⟨_, blt_b (cr_any hc) (by decide +kernel), fun B env σ Hb H S ds vs rv h hv Q f => ?_⟩
  obtain ⟨es, is, rfl, h1, rfl⟩ := one_lst (g := blsD) (k := fun bs => .val (.bl (bs.any id))) .any (fun ds => by cases ds with | nil => rfl | cons d r => cases r <;> cases d <;> rfl) h
  obtain ⟨v, rfl, a, xs, rfl, h2, h3⟩ := hv.one
  rw [bls_is h1 h3] at h2
  exact ⟨a, is, rfl, SqL.of h2, fin_val S f rfl⟩
theorem blt_sorted : ∃ r, BltOk X "sorted" r ∧ OpA X r (bltD .sorted) := by
  refine ⟨_, blt_b cr_sortedI PyProof.Rows.boot_sorted, fun B env σ Hb H S ds vs rv h hv Q f => ?_⟩
  obtain ⟨es, is, rfl, h1, rfl⟩ := one_lst (g := intsD) (k := fun is => .fr (.lst ((sortI is).map D.int))) .sorted (fun ds => by cases ds with | nil => rfl | cons d r => cases r <;> cases d <;> rfl) h
  obtain ⟨v, rfl, a, xs, rfl, h2, h3⟩ := hv.one
  rw [ints_is h1 h3] at h2
  refine ⟨a, is, rfl, SqL.of h2, fun ns' p hp hs hn => ?_⟩
  rw [sorted_is hp hs]
  obtain ⟨S', rv⟩ := S.madeL hn (rp_ints (sortI is))
  exact f _ _ _ S' (Le.refl _) rv
theorem blt_list : ∃ r, BltOk X "list" r ∧ OpA X r (bltD .list) := by
  refine ⟨_, blt_t call_list_of PyProof.Rows.boot_list, fun B env σ Hb H S ds vs rv h hv Q f => ?_⟩
  match ds, h with
  | [.lst ds], h =>
    cases h
    obtain ⟨v, rfl, a, xs, rfl, h1, h2⟩ := hv.one
    refine ⟨a, xs, rfl, .inl (SqL.of h1), fun l hl => ?_⟩
    obtain ⟨S', rv⟩ := S.madeL hl h2
    exact f _ _ _ S' (Le.refl _) rv
  | [.tup ds], h =>
    cases h
    obtain ⟨v, rfl, a, xs, rfl, h1, h2⟩ := hv.one
    refine ⟨a, xs, rfl, .inr (S.sub.sqt h1), fun l hl => ?_⟩
    obtain ⟨S', rv⟩ := S.madeL hl h2
    exact f _ _ _ S' (Le.refl _) rv
theorem blt_tuple : ∃ r, BltOk X "tuple" r ∧ OpA X r (bltD .tuple) := by
  refine ⟨_, blt_t call_tuple_of PyProof.Rows.boot_tuple, fun B env σ Hb H S ds vs rv h hv Q f => ?_⟩
  match ds, h with
  | [.lst ds], h =>
    cases h
    obtain ⟨v, rfl, a, xs, rfl, h1, h2⟩ := hv.one
    refine ⟨a, xs, rfl, .inl ⟨SqL.of h1, fun l hl => ?_⟩⟩
    obtain ⟨Hb', le, S', rp⟩ := S.madeT hl h2
    exact f _ _ _ S' le rp
  | [.tup ds], h =>
    cases h
    obtain ⟨v, rfl, a, xs, rfl, h1, h2⟩ := hv.one
    exact ⟨a, xs, rfl, .inr ⟨S.sub.sqt h1, fin_val S f ⟨a, xs, rfl, h1, h2⟩⟩⟩
theorem blt_no {x : Str} {id : String} (hv : bootBuiltins x = some (.builtin id)) (b : Blt) (h : ∀ ds, bltD b ds = none) (hn : x ≠ "__name__" := by decide) (hd : (x == ("__debug__" : Str)) = false := by decide) : ∃ r, BltOk X x r ∧ OpA X r (bltD b) :=
  ⟨_, blt_b (call_no _) hv hn hd, fun B env σ Hb H S ds vs rv e => by rw [h] at e; cases e⟩
/-! repr -/
section
variable {pins : List (Addr × Obj)} {σ : L2.St} {H : Hp} {s : Shared}
theorem no_sys (I : L2.Inv X pins σ H s) (sm : ∃ o, X.base.get? sysModules = some o) {a : Addr} {u : HO} (h : H a = some u) : a ≠ sysModules := fun z => by
  obtain ⟨o, e⟩ := sm
  have := (I.bs _ _ e).2
  rw [← z, h] at this
  cases this
mutual
theorem Rp.reads (I : L2.Inv X pins σ H s) (sm : ∃ o, X.base.get? sysModules = some o) : ∀ (d : D) (v : V) (u : Value), reprOk d = true → Rp X.K H d v → RelV v u → ∃ as, Reads s.heap u (toPy d) as ∧ sysModules ∉ as
  | .non, _, _, _, h, r => by cases h; cases r; exact ⟨_, Reads.none, by simp⟩
  | .bl b, _, _, _, h, r => by cases h; cases r; exact ⟨_, Reads.bool b, by simp⟩
  | .int i, _, _, _, h, r => by cases h; obtain ⟨t, rfl⟩ := r; exact ⟨_, Reads.int i t, by simp⟩
  | .str x, _, _, _, h, r => by cases h; obtain ⟨t, rfl⟩ := r; exact ⟨_, Reads.str x t, by simp⟩
  | .lst ds, _, _, k, ⟨a, xs, h1, h2, h3⟩, r => by
    subst h1
    cases r
    obtain ⟨its, rv, ⟨o, n, ho, hc, _, hd⟩, _⟩ := I.list (SqL.of h2)
    obtain ⟨as, hr, ns⟩ := RpAll.reads I sm ds xs its (by simpa [reprOk] using k) h3 rv
    exact ⟨_, Reads.list ho hc hd hr, by
      simp only [List.mem_cons, not_or]
      exact ⟨fun z => no_sys I sm h2 z.symm, ns⟩⟩
  | .tup ds, _, _, k, ⟨a, xs, h1, h2, h3⟩, r => by
    subst h1
    cases r
    obtain ⟨its, rv, ⟨o, ho, hc, n, hd⟩, _⟩ := I.tuple h2
    obtain ⟨as, hr, ns⟩ := RpAll.reads I sm ds xs its (by simpa [reprOk] using k) h3 rv
    exact ⟨_, Reads.tuple ho hc hd hr, ns⟩
  | .frz ds, _, _, k, _, _ => by simp [reprOk] at k
  | .dK ks ds, _, _, k, ⟨a, xs, h1, h2, h4, h3⟩, r => by
    simp only [reprOk, Bool.and_eq_true, List.isEmpty_iff] at k
    obtain ⟨rfl, rfl⟩ := k
    cases h3
    subst h1
    cases r
    obtain ⟨_, hn, vs, kv, o, es, ep, e1, e2, e3, _, pr, _⟩ := I.hok a _ h2
    cases kv
    have e4 : es.toList = [] := List.length_eq_zero_iff.mp (by rw [pr.length]; rfl)
    exact ⟨_, Reads.dict (kvs := []) e1 e2.1 e3 (by rw [e4]; exact .nil) (by rw [e4]; exact .nil), by
      simp only [List.append_nil, List.mem_cons, not_or]
      exact ⟨fun z => no_sys I sm h2 z.symm, by simp⟩⟩
  | .dT ks ds, _, _, k, _, _ => by simp [reprOk] at k
theorem RpAll.reads (I : L2.Inv X pins σ H s) (sm : ∃ o, X.base.get? sysModules = some o) : ∀ (ds : List D) (xs : List V) (us : List Value), reprOks ds = true → RpAll X.K H ds xs → Vals xs us → ∃ as, ReadsAll s.heap us (toPys ds) as ∧ sysModules ∉ as
  | [], _, _, _, h, r => by cases h; cases r; exact ⟨_, ReadsAll.nil, by simp⟩
  | d :: ds, _, _, k, ⟨y, ys, h1, h2, h3⟩, r => by
    subst h1
    have k' : reprOk d = true ∧ reprOks ds = true := by simpa [reprOks] using k
    cases r with
    | cons r1 r2 =>
      obtain ⟨as, q1, n1⟩ := Rp.reads I sm d y _ k'.1 h2 r1
      obtain ⟨bs, q2, n2⟩ := RpAll.reads I sm ds ys _ k'.2 h3 r2
      exact ⟨_, ReadsAll.cons q1 q2, by simp [n1, n2]⟩
end
end
theorem reprD_is {d : D} {t : Str} (h : reprD d = some t) : reprOk d = true ∧ (toPy d).showable = true ∧ (toPy d).depth ≤ 64 ∧ (toPy d).shown.length ≤ LIM ∧ t = (toPy d).shown := by
  unfold reprD at h
  split at h
  · rename_i c
    cases h
    simp only [Bool.and_eq_true, decide_eq_true_eq] at c
    exact ⟨c.1.1.1, c.1.1.2, c.1.2, c.2, rfl⟩
  · cases h
theorem call_repr (hgd : X.A.guards = some []) (hu : X.A.units + 66 < cLine) (sm : ∃ o, X.base.get? sysModules = some o) : CallR X (.builtin "repr") (fun xs H Q => ∃ v d t, xs = [v] ∧ Rp X.K H d v ∧ reprD d = some t ∧ Q (.str t) H) := by
  intro pins s σ H xs us Q I r h
  obtain ⟨v, d, t, rfl, rp, hd, q⟩ := h
  obtain ⟨u, rfl, ru⟩ := r.one
  obtain ⟨k1, k2, k3, k4, rfl⟩ := reprD_is hd
  have deep : ∀ a, u = .ref a → wpAny (model X.prog X.w) X.A (call (.builtin "repr") [u]) (EP X pins σ Q) X.xe s := fun a e => by
    subst e
    obtain ⟨as, rd, ns⟩ := Rp.reads I sm d v _ k1 rp ru
    exact repr_of_reads' rd k2 (fun _ => ns) hgd (by omega) (fun _ _ z => z) (fun h' tk t' hk => ⟨.str _, H, I.kept (t' := t') hk, ⟨_, rfl⟩, q⟩) (lim_le k4)
  cases d with
  | non => cases rp; cases ru; exact PySem.P.repr_of_none ⟨.str _, H, I.tok _, ⟨_, rfl⟩, q⟩
  | bl b => cases rp; cases ru; exact PySem.P.repr_of_bool ⟨.str _, H, I.tok _, ⟨_, rfl⟩, q⟩
  | int i =>
    cases rp
    obtain ⟨tk, rfl⟩ := ru
    exact PySem.P.repr_of_int (by simpa [toPy, PyData.showable] using k2) ⟨.str _, H, I.tok _, ⟨_, rfl⟩, q⟩
  | str x =>
    cases rp
    obtain ⟨tk, rfl⟩ := ru
    exact PySem.P.repr_of_str ⟨.str _, H, I.tok _, ⟨_, rfl⟩, q⟩ (lim_le k4)
  | lst ds => obtain ⟨a, xs, rfl, _⟩ := rp; cases ru; exact deep a rfl
  | tup ds => obtain ⟨a, xs, rfl, _⟩ := rp; cases ru; exact deep a rfl
  | frz ds => simp [reprOk] at k1
  | dK ks ds => obtain ⟨a, xs, rfl, _⟩ := rp; cases ru; exact deep a rfl
  | dT ks ds => simp [reprOk] at k1
  | exc c => simp [reprOk] at k1
theorem blt_repr (hgd : X.A.guards = some []) (hu : X.A.units + 66 < cLine) (sm : ∃ o, X.base.get? sysModules = some o) : ∃ r, BltOk X "repr" r ∧ OpA X r (bltD .repr) := by
  refine ⟨_, blt_b (call_repr hgd hu sm) PyProof.Rows.boot_repr, fun B env σ Hb H S ds vs rv h hv Q f => ?_⟩
  match ds, h with
  | [d], h =>
    obtain ⟨t, ht, rfl⟩ := Option.map_eq_some_iff.mp (show (reprD d).map (fun x => RV.val (.str x)) = some rv from h)
    obtain ⟨v, rfl, hv1⟩ := hv.one
    exact ⟨v, d, t, rfl, Vw.rp S.sub hv1, ht, fin_val S f rfl⟩
theorem ite_or {α : Type} {c : Prop} [Decidable c] {x y a : α} (h : (if c then x else y) = a) : (c ∧ x = a) ∨ (¬ c ∧ y = a) := by
  by_cases e : c
  · rw [if_pos e] at h; exact .inl ⟨e, h⟩
  · rw [if_neg e] at h; exact .inr ⟨e, h⟩
theorem blt_ok {S : Sc} {x : Str} {n : Nat} {b : Blt} (hc0 : S.cm = true → X.calm = true) (hgd : X.A.guards = some []) (hu : X.A.units + 66 < cLine) (sm : ∃ o, X.base.get? sysModules = some o) (h : bltOf S x n = some b) : S.bl x = true ∧ ∃ r, BltOk X x r ∧ OpA X r (bltD b) := by
  unfold bltOf at h
  rcases ite_or h with ⟨hb, h⟩ | ⟨_, h⟩
  · simp only [Bool.and_eq_true] at hb
    refine ⟨hb.1, ?_⟩
    have hc := hc0 hb.2
    rcases ite_or h with ⟨e, h⟩ | ⟨_, h⟩
    · cases h; rw [e.1]; exact blt_len
    rcases ite_or h with ⟨e, h⟩ | ⟨_, h⟩
    · cases h; rw [e.1]; exact blt_int
    rcases ite_or h with ⟨e, h⟩ | ⟨_, h⟩
    · cases h; rw [e.1]; exact blt_abs
    rcases ite_or h with ⟨e, h⟩ | ⟨_, h⟩
    · cases h; rw [e.1]; exact blt_max2 hc
    rcases ite_or h with ⟨e, h⟩ | ⟨_, h⟩
    · cases h; rw [e.1]; exact blt_min2 hc
    rcases ite_or h with ⟨e, h⟩ | ⟨_, h⟩
    · cases h; rw [e.1]; exact blt_sum hc
    rcases ite_or h with ⟨e, h⟩ | ⟨_, h⟩
    · cases h; rw [e.1]; exact blt_all hc
    rcases ite_or h with ⟨e, h⟩ | ⟨_, h⟩
    · cases h; rw [e.1]; exact blt_any hc
    rcases ite_or h with ⟨e, h⟩ | ⟨_, h⟩
    · cases h; rw [e.1]; exact blt_sorted
    rcases ite_or h with ⟨e, h⟩ | ⟨_, h⟩
    · cases h; rw [e.1]; exact blt_list
    rcases ite_or h with ⟨e, h⟩ | ⟨_, h⟩
    · cases h; rw [e.1]; exact blt_tuple
    rcases ite_or h with ⟨e, h⟩ | ⟨_, h⟩
    · cases h; rw [e.1]; exact blt_repr hgd hu sm
    rcases ite_or h with ⟨e, h⟩ | ⟨_, h⟩
    · cases h; rw [e.1]; exact blt_maxL hc
    rcases ite_or h with ⟨e, h⟩ | ⟨_, h⟩
    · cases h; rw [e.1]; exact blt_minL hc
    rcases ite_or h with ⟨e, h⟩ | ⟨_, h⟩
    · cases h; rw [e.1]; exact blt_str
    · cases h
  · cases h
end
end HB

set_option Elab.async false
set_option linter.all false
set_option maxRecDepth 100000
set_option maxHeartbeats 2000000
/-! HBSnd4: owned things written; blocks; methods. -/
namespace HB
open PySem PySem.Spec PyProof.Rows L2

section
variable {K : Fg} {B : Bs} {env : Evn} {σ : L2.St} {Hb H : Hp}
theorem get_set_ne {env : Evn} {i j : Nat} {s : Sl} (h : i ≠ j) : (env.set i s)[j]? = env[j]? := List.getElem?_set_ne h
theorem get_set_eq {env : Evn} {i : Nat} {s : Sl} (h : i < env.length) : (env.set i s)[i]? = some s := List.getElem?_set_self h
theorem lt_of_get {α : Type} {l : List α} {i : Nat} {s : α} (h : l[i]? = some s) : i < l.length := (List.getElem?_eq_some_iff.mp h).1
/-- an owned thing is written -/
theorem Stt.write (S : Stt K B env σ Hb H) {i : Nat} {o o' : OB} {a : Addr} {u : HO} (h : env[i]? = some (.ow o)) (ha : σ[i]? = some (some (.ref a))) (hu : OBat K Hb (upd H a u) a o') : Stt K B (env.set i (.ow o')) σ Hb (upd H a u) := by
  obtain ⟨a', h1, h2, h3, h4⟩ := S.ow i o h
  rw [ha] at h1; cases h1
  obtain ⟨w, hw⟩ := h3.there
  have hl := lt_of_get h
  refine ⟨by rw [List.length_set]; exact S.len, fun b x e => ?_, fun j d e => ?_, fun j o1 e => ?_, fun j k o1 o2 b e1 e2 => ?_, S.exb, fun b x e n => ?_, S.frs, fun b z => ?_, fun j b c e => ?_⟩
  · rw [upd_ne (fun z => by rw [z, h2] at e; cases e)]; exact S.sub b x e
  · by_cases hij : i = j
    · subst hij; rw [get_set_eq hl] at e; cases e
    · rw [get_set_ne hij] at e; exact S.im j d e
  · by_cases hij : i = j
    · subst hij
      rw [get_set_eq hl] at e; cases e
      exact ⟨a, ha, h2, hu, h4⟩
    · rw [get_set_ne hij] at e
      obtain ⟨b, k1, k2, k3, k4⟩ := S.ow j o1 e
      have nb : b ≠ a := fun z => hij (S.inj i j o o1 a h e ha (by rw [k1, z]))
      exact ⟨b, k1, k2, k3.mono (Le.refl _) (upd_ne nb), k4⟩
  · have g : ∀ (m : Nat) (o3 : OB), (env.set i (.ow o'))[m]? = some (.ow o3) → ∃ o4, env[m]? = some (.ow o4) := fun m o3 e => by
      by_cases him : i = m
      · subst him; exact ⟨o, h⟩
      · rw [get_set_ne him] at e; exact ⟨o3, e⟩
    obtain ⟨o4, g1⟩ := g _ _ e1
    obtain ⟨o5, g2⟩ := g _ _ e2
    exact S.inj j k o4 o5 b g1 g2
  · have nb : b ≠ a := fun z => by
      subst z
      split at h4
      · exact n h4
      · rw [h4.1] at e; cases e
    rw [upd_ne nb]; exact S.keep b x e n
  · by_cases hb : b = a
    · exact ⟨u, by rw [hb, upd_same]⟩
    · obtain ⟨x, e⟩ := S.iot b z
      exact ⟨x, by rw [upd_ne hb]; exact e⟩
  · have ne : i ≠ j := fun z => S.nfx (i := i) (fun d e => by rw [h] at e; cases e) b c (by rw [z]; exact e)
    rw [get_set_ne ne]
    exact S.fx j b c e
theorem Shp.set_ow {i : Nat} {o o' : OB} (h : env[i]? = some (.ow o)) : Shp env (env.set i (.ow o')) := fun j o1 e => by
  by_cases hij : i = j
  · subst hij; exact ⟨o, h⟩
  · rw [get_set_ne hij] at e; exact ⟨o1, e⟩

/-! ### the same state, seen from here -/
def reb (B : Bs) (env : Evn) (σ : L2.St) (Hb H : Hp) : Bs where
  Hb := Hb
  H := H
  fx := B.fx
  io := fun a => ∃ (i : Nat) (o : OB), env[i]? = some (.ow o) ∧ σ[i]? = some (some (.ref a))
  ios := fun i => match env[i]? with
    | some (.ow _) => true
    | _ => false
theorem Stt.re (S : Stt K B env σ Hb H) : Stt K (reb B env σ Hb H) env σ Hb H where
  len := S.len
  sub := S.sub
  im := S.im
  ow := fun i o e => by
    obtain ⟨a, h1, h2, h3, h4⟩ := S.ow i o e
    exact ⟨a, h1, h2, h3, by simp only [reb, e, if_true]; exact ⟨i, o, e, h1⟩⟩
  inj := S.inj
  exb := Le.refl _
  keep := fun b o e _ => e
  frs := fun b o e n => by
    have e' : Hb b = some o := e
    have n' : Hb b = none := n
    rw [e'] at n'; cases n'
  iot := fun b z => by
    obtain ⟨i, o, e, h⟩ := z
    obtain ⟨a, h1, h2, h3, h4⟩ := S.ow i o e
    rw [h] at h1; cases h1
    exact h3.there
  fx := S.fx
/-- back from there -/
theorem Stt.un {env' : Evn} {Hb' H' : Hp} (S : Stt K B env σ Hb H) (T : Stt K (reb B env σ Hb H) env' σ Hb' H') (sh : Shp env env') : Stt K B env' σ Hb' H' where
  len := T.len
  sub := T.sub
  im := T.im
  ow := fun i o e => by
    obtain ⟨a, h1, h2, h3, _⟩ := T.ow i o e
    obtain ⟨o1, e1⟩ := sh i o e
    obtain ⟨a', k1, k2, k3, k4⟩ := S.ow i o1 e1
    rw [h1] at k1; cases k1
    exact ⟨a, h1, h2, h3, k4⟩
  inj := T.inj
  exb := S.exb.trans T.exb
  keep := fun b o e n => by
    refine T.keep b o (S.keep b o e n) fun z => ?_
    obtain ⟨i, o1, e1, h1⟩ := z
    obtain ⟨a', k1, k2, k3, k4⟩ := S.ow i o1 e1
    rw [h1] at k1; cases k1
    split at k4
    · exact n k4
    · rw [k4.1] at e; cases e
  frs := fun b o e n => by
    cases hb : Hb b with
    | some x => exact S.frs b x hb n
    | none =>
      rcases T.frs b o e hb with z | z
      · have z' : H b = none := z
        exact .inl (S.fresh z').1
      · obtain ⟨i, o1, e1, h1⟩ := z
        obtain ⟨a', k1, k2, k3, k4⟩ := S.ow i o1 e1
        rw [h1] at k1; cases k1
        split at k4
        · exact .inr k4
        · exact .inl k4.1
  iot := fun b z => by
    obtain ⟨o, e⟩ := S.iot b z
    by_cases q : ∃ (i : Nat) (o : OB), env[i]? = some (.ow o) ∧ σ[i]? = some (some (.ref b))
    · exact T.iot b q
    · exact ⟨o, T.keep b o e q⟩
  fx := T.fx
/-- an untracked thing stands through what is seen from here -/
theorem Stt.stands {env' : Evn} {Hb' H' : Hp} (T : Stt K (reb B env σ Hb H) env' σ Hb' H') {p : Addr} {u : HO} (hp : H p = some u) (hn : Hb p = none) (nf : ∀ (i : Nat) (o : OB), env[i]? = some (.ow o) → σ[i]? ≠ some (some (.ref p))) : H' p = some u ∧ Hb' p = none := by
  have ni : ¬ (reb B env σ Hb H).io p := fun ⟨i, o, e, h⟩ => nf i o e h
  refine ⟨T.keep p u hp ni, ?_⟩
  cases e : Hb' p with
  | none => rfl
  | some x =>
    rcases T.frs p x e hn with z | z
    · have z' : H p = none := z
      rw [hp] at z'; cases z'
    · exact (ni z).elim
/-- a value just made stays so -/
theorem RVOk.stands {env' : Evn} {Hb' H' : Hp} {v : V} {r : RV} (S : Stt K B env σ Hb H) (h : RVOk K B env σ Hb H v r) (T : Stt K (reb B env σ Hb H) env' σ Hb' H') (sh : Shp env env') : RVOk K B env' σ Hb' H' v r := by
  cases r with
  | val d => exact Rp.mono T.exb _ _ h
  | bo i => exact h
  | fr o =>
    obtain ⟨p, e, h1, h2, h3, h4, h5⟩ := h
    obtain ⟨u, hu⟩ := h2.there
    obtain ⟨k1, k2⟩ := T.stands hu h1 h5
    refine ⟨p, e, k2, h2.mono T.exb (by rw [k1, hu]), h3, h4, fun i o' e' z => ?_⟩
    obtain ⟨o1, e1⟩ := sh i o' e'
    exact h5 i o1 e1 z
/-- an untracked thing is written -/
theorem Stt.updH (S : Stt K B env σ Hb H) {p : Addr} {u w : HO} (hp : H p = some w) (hn : Hb p = none) (hB : B.H p = none) (nf : ∀ (i : Nat) (o : OB), env[i]? = some (.ow o) → σ[i]? ≠ some (some (.ref p))) : Stt K B env σ Hb (upd H p u) where
  len := S.len
  sub := fun b x e => by rw [upd_ne (fun z => by rw [z, hn] at e; cases e)]; exact S.sub b x e
  im := S.im
  ow := fun i o e => by
    obtain ⟨a, h1, h2, h3, h4⟩ := S.ow i o e
    have ne : a ≠ p := fun z => nf i o e (by rw [h1, z])
    exact ⟨a, h1, h2, h3.mono (Le.refl _) (upd_ne ne), h4⟩
  inj := S.inj
  exb := S.exb
  keep := fun b x e n => by
    have ne : b ≠ p := fun z => by rw [z, hB] at e; cases e
    rw [upd_ne ne]; exact S.keep b x e n
  frs := S.frs
  iot := fun b z => by
    by_cases hb : b = p
    · exact ⟨u, by rw [hb, upd_same]⟩
    · obtain ⟨x, e⟩ := S.iot b z
      exact ⟨x, by rw [upd_ne hb]; exact e⟩
  fx := S.fx

/-! ### the block of a comprehension -/
theorem unown_length (env : Evn) : ∀ own : List Nat, (unown own env).length = env.length
  | [] => rfl
  | i :: is => by unfold unown; rw [List.length_set, unown_length env is]
theorem unown_get {i : Nat} {s : Sl} : ∀ {own : List Nat}, (unown own env)[i]? = some s → (s = .un ∧ i ∈ own) ∨ (i ∉ own ∧ env[i]? = some s)
  | [], h => .inr ⟨by simp, h⟩
  | j :: js, h => by
    unfold unown at h
    by_cases hj : j = i
    · subst hj
      by_cases hl : j < (unown js env).length
      · rw [List.getElem?_set_self hl] at h; cases h; exact .inl ⟨rfl, List.mem_cons_self⟩
      · rw [List.getElem?_eq_none (by simpa using hl)] at h; cases h
    · rw [List.getElem?_set_ne hj] at h
      rcases unown_get h with ⟨e, m⟩ | ⟨m, e⟩
      · exact .inl ⟨e, List.mem_cons_of_mem _ m⟩
      · exact .inr ⟨by simp only [List.mem_cons, not_or]; exact ⟨fun z => hj z.symm, m⟩, e⟩
theorem wipe_get {i : Nat} : ∀ {own : List Nat}, i ∉ own → (wipe σ own)[i]? = σ[i]?
  | [], _ => rfl
  | j :: js, h => by
    simp only [List.mem_cons, not_or] at h
    unfold wipe
    rw [List.getElem?_set_ne (Ne.symm h.1)]
    exact wipe_get h.2
theorem Stt.wipe (S : Stt K B env σ Hb H) (hx : B.fx = none) (own : List Nat) : Stt K B (unown own env) (wipe σ own) Hb H where
  len := by rw [wipe_length, unown_length]; exact S.len
  sub := S.sub
  im := fun i d e => by
    rcases unown_get e with ⟨z, _⟩ | ⟨m, e⟩
    · cases z
    · rw [wipe_get m]; exact S.im i d e
  ow := fun i o e => by
    rcases unown_get e with ⟨z, _⟩ | ⟨m, e⟩
    · cases z
    · rw [wipe_get m]; exact S.ow i o e
  inj := fun i j o o' a e e' => by
    rcases unown_get e with ⟨z, _⟩ | ⟨m, e⟩
    · cases z
    · rcases unown_get e' with ⟨z, _⟩ | ⟨m', e'⟩
      · cases z
      · rw [wipe_get m, wipe_get m']; exact S.inj i j o o' a e e'
  exb := S.exb
  keep := S.keep
  frs := S.frs
  iot := S.iot
  fx := fun i a c e => by rw [hx] at e; cases e
theorem back_length (env : Evn) : ∀ (own : List Nat) (e : Evn), (back env own e).length = e.length
  | [], _ => rfl
  | i :: is, e => by
    unfold back
    split
    · rw [List.length_set, back_length env is e]
    · exact back_length env is e
theorem back_get {e : Evn} {i : Nat} {s : Sl} : ∀ {own : List Nat}, (back env own e)[i]? = some s → (i ∈ own ∧ env[i]? = some s) ∨ e[i]? = some s ∧ (i ∉ own ∨ env[i]? = none)
  | [], h => .inr ⟨h, .inl (by simp)⟩
  | j :: js, h => by
    unfold back at h
    cases hj : env[j]? with
    | none =>
      rw [hj] at h
      rcases back_get h with ⟨m, e'⟩ | ⟨e', m⟩
      · exact .inl ⟨List.mem_cons_of_mem _ m, e'⟩
      · refine .inr ⟨e', ?_⟩
        by_cases hij : i = j
        · subst hij; exact .inr hj
        · rcases m with m | m
          · exact .inl (by simp only [List.mem_cons, not_or]; exact ⟨hij, m⟩)
          · exact .inr m
    | some t =>
      rw [hj] at h
      by_cases hij : j = i
      · subst hij
        by_cases hl : j < (back env js e).length
        · rw [List.getElem?_set_self hl] at h; cases h; exact .inl ⟨List.mem_cons_self, hj⟩
        · rw [List.getElem?_eq_none (by simpa using hl)] at h; cases h
      · rw [List.getElem?_set_ne hij] at h
        rcases back_get h with ⟨m, e'⟩ | ⟨e', m⟩
        · exact .inl ⟨List.mem_cons_of_mem _ m, e'⟩
        · refine .inr ⟨e', ?_⟩
          rcases m with m | m
          · exact .inl (by simp only [List.mem_cons, not_or]; exact ⟨fun z => hij z.symm, m⟩)
          · exact .inr m
/-- behind the block -/
theorem Stt.unblk {own : List Nat} {env' : Evn} {Hb' H' : Hp} (hx : B.fx = none) (S : Stt K B env σ Hb H) (T : Stt K (reb B (unown own env) (L2.wipe σ own) Hb H) env' (L2.wipe σ own) Hb' H') (sh : Shp (unown own env) env') :
    Stt K B (back env own env') σ Hb' H' ∧ Shp env (back env own env') := by
  have SW := S.wipe hx own
  have TB := SW.un T sh
  have le : Le Hb Hb' := T.exb
  have lenE : env'.length = env.length := by rw [← T.len, wipe_length, S.len]
  -- an owned thing at an own slot stands
  have stay : ∀ (i : Nat) (o : OB), i ∈ own → env[i]? = some (.ow o) → ∃ a, σ[i]? = some (some (.ref a)) ∧ Hb' a = none ∧ OBat K Hb' H' a o ∧ (if B.ios i = true then B.io a else B.H a = none ∧ ¬ B.io a) := fun i o hi e => by
    obtain ⟨a, h1, h2, h3, h4⟩ := S.ow i o e
    obtain ⟨u, hu⟩ := h3.there
    obtain ⟨k1, k2⟩ := T.stands hu h2 fun j o' e' z => by
      rcases unown_get e' with ⟨q, _⟩ | ⟨m, e''⟩
      · cases q
      · rw [wipe_get m] at z
        have := S.inj i j o o' a e e'' h1 z
        exact m (this ▸ hi)
    exact ⟨a, h1, k2, h3.mono le (by rw [k1, hu]), h4⟩
  have out : ∀ (i : Nat), env[i]? = none → env'[i]? = none := fun i h => by
    rw [List.getElem?_eq_none_iff] at h ⊢; omega
  have owk : ∀ (i : Nat) (o : OB), (back env own env')[i]? = some (.ow o) → (i ∈ own ∧ env[i]? = some (.ow o)) ∨ (i ∉ own ∧ env'[i]? = some (.ow o) ∧ ∃ o', env[i]? = some (.ow o')) := fun i o e => by
    rcases back_get e with ⟨m, e1⟩ | ⟨e1, m⟩
    · exact .inl ⟨m, e1⟩
    · have m' : i ∉ own := by
        rcases m with m | m
        · exact m
        · rw [out i m] at e1; cases e1
      obtain ⟨o1, e2⟩ := sh i o e1
      rcases unown_get e2 with ⟨q, _⟩ | ⟨_, e3⟩
      · cases q
      · exact .inr ⟨m', e1, o1, e3⟩
  refine ⟨⟨by rw [back_length, lenE]; exact S.len, T.sub, fun i d e => ?_, fun i o e => ?_, fun i j o o' a e e' z z' => ?_, TB.exb, TB.keep, TB.frs, TB.iot, fun i a c e => by rw [hx] at e; cases e⟩, fun i o e => ?_⟩
  · rcases back_get e with ⟨m, e1⟩ | ⟨e1, m⟩
    · obtain ⟨v, h1, h2⟩ := S.im i d e1
      exact ⟨v, h1, Rp.mono le _ _ h2⟩
    · have m' : i ∉ own := by
        rcases m with m | m
        · exact m
        · rw [out i m] at e1; cases e1
      obtain ⟨v, h1, h2⟩ := T.im i d e1
      rw [wipe_get m'] at h1
      exact ⟨v, h1, h2⟩
  · rcases owk i o e with ⟨m, e1⟩ | ⟨m, e1, _⟩
    · exact stay i o m e1
    · obtain ⟨a, h1, h2, h3, h4⟩ := TB.ow i o e1
      rw [wipe_get m] at h1
      exact ⟨a, h1, h2, h3, h4⟩
  · have g : ∀ (k : Nat) (o1 : OB), (back env own env')[k]? = some (.ow o1) → ∃ o2, env[k]? = some (.ow o2) := fun k o1 q => by
      rcases owk k o1 q with ⟨_, e1⟩ | ⟨_, _, e1⟩
      · exact ⟨o1, e1⟩
      · exact e1
    obtain ⟨o2, g1⟩ := g _ _ e
    obtain ⟨o3, g2⟩ := g _ _ e'
    exact S.inj i j o2 o3 a g1 g2 z z'
  · rcases owk i o e with ⟨_, e1⟩ | ⟨_, _, e1⟩
    · exact ⟨o, e1⟩
    · exact e1
end
end HB

set_option Elab.async false
set_option linter.all false
set_option maxRecDepth 100000
set_option maxHeartbeats 2000000
/-! HBSnd5: expressions, form by form. -/
namespace HB
open PySem PySem.Spec PyProof.Rows L2

def Rd (X : Cx) (W : WX) (ct : CT) (te : TE) (f : Mo RV) : Prop := ∀ (B : Bs) (σ : L2.St) (Hb H : Hp) (env : Evn) (Q : VK), BX X ct B → Stt X.K B env σ Hb H →
  GotE (f env) (fun r env' => ∀ v Hb' H', Stt X.K B env' σ Hb' H' → Le Hb Hb' → Shp env env' → RVOk X.K B env' σ Hb' H' v r → Q v H') (Xw X W ct B σ Hb) → te σ H Q
def Rds (X : Cx) (W : WX) (ct : CT) (te : TE) (f : Mo RV) : Prop := ∀ (B : Bs) (σ : L2.St) (Hb H : Hp) (env : Evn) (Q : VK), BX X ct B → Stt X.K B env σ Hb H →
  GotE (f env) (fun r env' => ∀ v Hb' H', Stt X.K B env' σ Hb' H' → Le Hb Hb' → Shp env env' → NoFr r → RVOk X.K B env' σ Hb' H' v r → Q v H') (Xw X W ct B σ Hb) → te σ H Q
theorem GotE.same {α : Type} {o : Option (Out α)} {P P' : α → Evn → Prop} {R : Nat → Evn → Prop} (h : GotE o P R) (hP : ∀ a e, P a e → P' a e) : GotE o P' R := h.imp hP fun _ _ q => q
section
variable {X : Cx} {W : WX} {ct : CT} {a b c : Expr} {fa fb fc f : Mo RV} {pos : Pos} {ta tb tc : TE}
theorem two (ka : Rds X W ct ta fa) (kb : Rds X W ct tb fb) {B : Bs} {σ : L2.St} {Hb H : Hp} {env : Evn} {Q : V → V → Hp → Prop} (hX : BX X ct B) (S : Stt X.K B env σ Hb H)
    (g : GotE (fa env) (fun x e1 => GotE (fb e1) (fun y e2 => ∀ v u Hb' H', Stt X.K B e2 σ Hb' H' → Le Hb Hb' → Shp env e2 → NoFr x → NoFr y → RVOk X.K B e2 σ Hb' H' v x → RVOk X.K B e2 σ Hb' H' u y → Q v u H') (Xw X W ct B σ Hb)) (Xw X W ct B σ Hb)) :
    ta σ H fun v H1 => tb σ H1 fun u H2 => Q v u H2 := by
  refine ka B σ Hb H env _ hX S (g.same fun x e1 g1 v Hb1 H1 S1 le1 sh1 nx rx => kb B σ Hb1 H1 e1 _ hX S1 (g1.imp (fun y e2 g2 u Hb2 H2 S2 le2 sh2 ny ry => ?_) fun c e h => Xw.mono (X := X) le1 h))
  exact g2 v u Hb2 H2 S2 (le1.trans le2) (sh1.trans sh2) nx ny (rx.keep nx le2) ry
theorem SE.bin {op : Operator} {r : R2} {g : D → D → Option RV} (ho : OpR X (binaryOp op) r) (hg : OpB X r g) (ha : SEs X W ct a fa) (hb : SEs X W ct b fb) :
    SE X W ct (.BinOp a op b pos) (fa.bnd fun x => fb.bnd fun y => (Mo.opd x).bnd fun d => (Mo.opd y).bnd fun e => Mo.lift (g d e)) := by
  obtain ⟨ta, pa, ka⟩ := ha
  obtain ⟨tb, pb, kb⟩ := hb
  refine ⟨_, pe_op ho pa pb, fun B σ Hb H env Q hX S q => two ka kb hX S (q.bnd.same fun x e1 g1 => g1.bnd.same fun y e2 g2 v u Hb' H' S2 le sh nx ny rx ry => ?_)⟩
  obtain ⟨d, hd, g3⟩ := g2.bnd.opd
  obtain ⟨e, he, g4⟩ := g3.bnd.opd
  obtain ⟨rv, hrv, g5⟩ := g4.lift
  exact hg B e2 σ Hb' H' S2 d e v u rv hrv (S2.view rx hd) (S2.view ry he) Q fun w Hb2 H2 S3 le2 rw => g5 w Hb2 H2 S3 (le.trans le2) sh rw
theorem SE.ix (hcl : X.A.units + 1 < cLine) (ha : SEs X W ct a fa) (hb : SEs X W ct b fb) (hs : PlainIx b) :
    SE X W ct (.Subscript a b pos) (fa.bnd fun x => fb.bnd fun y => (Mo.opd x).bnd fun d => (Mo.opd y).bnd fun e => Mo.lift ((atD d e).map .val)) := by
  obtain ⟨ta, pa, ka⟩ := ha
  obtain ⟨tb, pb, kb⟩ := hb
  refine ⟨_, pe_ix ((ix_list.or ix_tup).or (ix_dct hcl)) pa pb hs, fun B σ Hb H env Q hX S q => two ka kb hX S (q.bnd.same fun x e1 g1 => g1.bnd.same fun y e2 g2 v u Hb' H' S2 le sh nx ny rx ry => ?_)⟩
  obtain ⟨d, hd, g3⟩ := g2.bnd.opd
  obtain ⟨e, he, g4⟩ := g3.bnd.opd
  obtain ⟨rv, hrv, g5⟩ := g4.lift
  obtain ⟨z, hz, rfl⟩ := Option.map_eq_some_iff.mp hrv
  have hv := S2.view rx hd
  have hu := S2.view ry he
  have key : ∀ (ds : List D) (i : Int) (xs : List V), atI ds i = some z → RpAll X.K Hb' ds xs → ∃ w, atI xs i = some w ∧ Rp X.K Hb' z w := fun ds i xs h r => by
    unfold L2.atI at h ⊢
    rw [← r.length]
    obtain ⟨j, hj, h⟩ := Option.bind_eq_some_iff.mp h
    obtain ⟨w, hw, rw'⟩ := r.get h
    exact ⟨w, by rw [hj]; exact hw, rw'⟩
  cases d <;> cases e <;> simp only [atD] at hz <;> try cases hz
  · obtain ⟨p, xs, rfl, h1, h2⟩ := hv
    cases hu
    obtain ⟨w, hw, rw⟩ := key _ _ xs hz h2
    exact .inl (.inl ⟨p, xs, _, w, rfl, rfl, SqL.of h1, hw, g5 w Hb' H' S2 le sh rw⟩)
  · obtain ⟨p, xs, rfl, h1, h2⟩ := hv
    cases hu
    obtain ⟨w, hw, rw⟩ := key _ _ xs hz h2
    exact .inl (.inr ⟨p, xs, _, w, rfl, rfl, S2.sub.sqt h1, hw, g5 w Hb' H' S2 le sh rw⟩)
  · obtain ⟨p, xs, rfl, h1, h2⟩ := hv
    cases hu
    obtain ⟨w, hw, rw⟩ := key _ _ xs hz h2
    exact .inl (.inl ⟨p, xs, _, w, rfl, rfl, S2.sub.sql h1, hw, g5 w Hb' H' S2 le sh rw⟩)
  · obtain ⟨p, xs, rfl, h1, hl, h2⟩ := hv
    cases hu
    obtain ⟨w, hw, rw⟩ := (atK_rp _ h2).1 z hz
    exact .inr ⟨p, _, .inl _, w, rfl, rfl, h1, hw, g5 w Hb' H' S2 le sh rw⟩
  · obtain ⟨p, xs, rfl, h1, hl, h2⟩ := hv
    cases hu
    obtain ⟨w, hw, rw⟩ := (atK_rp _ h2).1 z hz
    exact .inr ⟨p, _, .inr _, w, rfl, rfl, h1, hw, g5 w Hb' H' S2 le sh rw⟩
theorem SE.cmp {op : CmpOp} {r : R2} {g : D → D → Option Bool} (ho : OpR X (compareOp op) r) (hg : OpC X r g) (ha : SEs X W ct a fa) (hb : SEs X W ct b fb) (hm : behindInMarks op b = false) :
    SE X W ct (.Compare a [op] [b] pos) (fa.bnd fun x => fb.bnd fun y => (Mo.opd x).bnd fun d => (Mo.opd y).bnd fun e => Mo.lift ((g d e).map fun b => .val (.bl b))) := by
  obtain ⟨ta, pa, ka⟩ := ha
  obtain ⟨tb, pb, kb⟩ := hb
  refine ⟨_, pe_cmpR ho pa pb hm, fun B σ Hb H env Q hX S q => two ka kb hX S (q.bnd.same fun x e1 g1 => g1.bnd.same fun y e2 g2 v u Hb' H' S2 le sh nx ny rx ry => ?_)⟩
  obtain ⟨d, hd, g3⟩ := g2.bnd.opd
  obtain ⟨e, he, g4⟩ := g3.bnd.opd
  obtain ⟨rv, hrv, g5⟩ := g4.lift
  obtain ⟨z, hz, rfl⟩ := Option.map_eq_some_iff.mp hrv
  exact hg Hb' H' S2.sub d e v u z hz (S2.view rx hd) (S2.view ry he) Q (g5 _ Hb' H' S2 le sh rfl)
theorem ST.cmp {op : CmpOp} {r : R2} {g : D → D → Option Bool} (ho : OpR X (compareOp op) r) (hg : OpC X r g) (ha : SEs X W ct a fa) (hb : SEs X W ct b fb) (hm : behindInMarks op b = false) :
    ST X W ct (.Compare a [op] [b] pos) (Mo.tst (fa.bnd fun x => fb.bnd fun y => (Mo.opd x).bnd fun d => (Mo.opd y).bnd fun e => Mo.lift ((g d e).map fun b => .val (.bl b)))) := by
  obtain ⟨ta, pa, ka⟩ := ha
  obtain ⟨tb, pb, kb⟩ := hb
  refine ⟨_, pt_cmpR ho pa pb hm, fun B σ Hb H env Q hX S q => two ka kb hX S ((GotE.bnd (GotE.bnd q)).same fun x e1 g1 => g1.bnd.same fun y e2 g2 v u Hb' H' S2 le sh nx ny rx ry => ?_)⟩
  obtain ⟨d, hd, g3⟩ := g2.bnd.opd
  obtain ⟨e, he, g4⟩ := g3.bnd.opd
  obtain ⟨rv, hrv, g5⟩ := g4.lift
  obtain ⟨z, hz, rfl⟩ := Option.map_eq_some_iff.mp hrv
  exact hg Hb' H' S2.sub d e v u z hz (S2.view rx hd) (S2.view ry he) _ ⟨z, rfl, g5 Hb' H' S2 le sh⟩
/-- a value taken as a bool -/
theorem Rd.tst (ka : Rd X W ct ta fa) {B : Bs} {σ : L2.St} {Hb H : Hp} {env : Evn} {Q : Bool → Hp → Prop} (hX : BX X ct B) (S : Stt X.K B env σ Hb H)
    (g : GotE (fa.tst env) (fun t e1 => ∀ Hb' H', Stt X.K B e1 σ Hb' H' → Le Hb Hb' → Shp env e1 → Q t H') (Xw X W ct B σ Hb)) : ta σ H fun x H1 => ∃ t, x = .bl t ∧ Q t H1 := by
  refine ka B σ Hb H env _ hX S ((GotE.bnd g).same fun x e1 g1 v Hb1 H1 S1 le1 sh1 rx => ?_)
  cases x with
  | val d =>
    cases d with
    | bl t => exact ⟨t, rx, g1 Hb1 H1 S1 le1 sh1⟩
    | _ => exact g1.elim
  | bo i => exact g1.elim
  | fr o => exact g1.elim
theorem ST.val (ha : SE X W ct a fa) (he : ∀ whole, isTrue a X.env whole = (do let v ← whole; standAt a.pos; holding [v] (truthy v))) : ST X W ct a fa.tst := by
  obtain ⟨ta, pa, ka⟩ := ha
  exact ⟨_, pt_val pa he, fun B σ Hb H env Q hX S q => Rd.tst ka hX S q⟩
theorem SE.neg (ha : SEs X W ct a fa) : SE X W ct (.UnaryOp .USub a pos) (fa.bnd fun x => (Mo.opd x).bnd fun d => Mo.lift ((intD d).map fun i => .val (.int (-i)))) := by
  obtain ⟨ta, pa, ka⟩ := ha
  refine ⟨_, pe_un un_neg pa, fun B σ Hb H env Q hX S q => ka B σ Hb H env _ hX S (q.bnd.same fun x e1 g1 v Hb' H' S2 le sh nx rx => ?_)⟩
  obtain ⟨d, hd, g3⟩ := g1.bnd.opd
  obtain ⟨rv, hrv, g5⟩ := g3.lift
  obtain ⟨z, hz, rfl⟩ := Option.map_eq_some_iff.mp hrv
  cases d <;> simp only [intD] at hz <;> cases hz
  exact ⟨_, S2.view rx hd, g5 _ Hb' H' S2 le sh rfl⟩
theorem SE.not (ha : SE X W ct a fa) : SE X W ct (.UnaryOp .Not a pos) (fa.tst.bnd fun b => Mo.ret (.val (.bl (!b)))) := by
  obtain ⟨ta, pa, ka⟩ := ha
  exact ⟨_, pe_not pa, fun B σ Hb H env Q hX S q => Rd.tst (Q := fun t H1 => Q (.bl (!t)) H1) ka hX S (q.bnd.same fun t e1 g1 Hb' H' S2 le sh => g1 _ Hb' H' S2 le sh rfl)⟩
theorem ST.not (ha : ST X W ct a fa.tst) : ST X W ct (.UnaryOp .Not a pos) (Mo.tst (fa.tst.bnd fun b => Mo.ret (.val (.bl (!b))))) := by
  obtain ⟨ta, pa, ka⟩ := ha
  exact ⟨_, pt_not pa, fun B σ Hb H env Q hX S q => ka B σ Hb H env _ hX S ((GotE.bnd (GotE.bnd q)).same fun t e1 g1 Hb' H' S2 le sh => g1 Hb' H' S2 le sh)⟩
theorem tst_bnd {f : Mo RV} {t : Bool → Mo RV} (env : Evn) : (Mo.tst (f.tst.bnd t)) env = (f.tst.bnd fun b => (t b).tst) env := by
  unfold Mo.tst Mo.bnd
  cases f env with
  | none => rfl
  | some o => cases o with
    | ex c e => rfl
    | ok r e =>
      simp only
      cases r with
      | bo i => rfl
      | fr o => rfl
      | val d => cases d <;> rfl
theorem Rd.ite (ka : Rd X W ct ta fa) {g : Bool → Mo RV} {B : Bs} {σ : L2.St} {Hb H : Hp} {env : Evn} {Q : VK} {Z : Bool → Hp → Prop} (hX : BX X ct B) (S : Stt X.K B env σ Hb H)
    (q : GotE ((fa.tst.bnd g) env) (fun r env' => ∀ v Hb' H', Stt X.K B env' σ Hb' H' → Le Hb Hb' → Shp env env' → RVOk X.K B env' σ Hb' H' v r → Q v H') (Xw X W ct B σ Hb))
    (z : ∀ t e1 Hb1 H1, Stt X.K B e1 σ Hb1 H1 → GotE (g t e1) (fun r env' => ∀ v Hb' H', Stt X.K B env' σ Hb' H' → Le Hb1 Hb' → Shp e1 env' → RVOk X.K B env' σ Hb' H' v r → Q v H') (Xw X W ct B σ Hb1) → Z t H1) :
    ta σ H fun x H1 => ∃ t, x = .bl t ∧ Z t H1 :=
  Rd.tst ka hX S (q.bnd.same fun t e1 g1 Hb1 H1 S1 le1 sh1 => z t e1 Hb1 H1 S1 (g1.imp (fun r e2 g2 v Hb2 H2 S2 le2 sh2 rv => g2 v Hb2 H2 S2 (le1.trans le2) (sh1.trans sh2) rv) fun c e h => Xw.mono (X := X) le1 h))
theorem SE.and {es : List Expr} {d : Expr} (ha : SE X W ct a fa) (hb : SE X W ct (.BoolOp .And (d :: es) pos) fb) : SE X W ct (.BoolOp .And (a :: d :: es) pos) (fa.tst.bnd fun t => if t = true then fb else Mo.ret (.val (.bl false))) := by
  obtain ⟨ta, pa, ka⟩ := ha
  obtain ⟨tb, pb, kb⟩ := hb
  refine ⟨_, pe_and pa pb, fun B σ Hb H env Q hX S q => Rd.ite ka hX S q fun t e1 Hb1 H1 S1 g => ?_⟩
  cases t with
  | true => exact kb B σ Hb1 H1 e1 _ hX S1 g
  | false => exact g _ Hb1 H1 S1 (Le.refl _) (Shp.refl _) rfl
theorem SE.or {es : List Expr} {d : Expr} (ha : SE X W ct a fa) (hb : SE X W ct (.BoolOp .Or (d :: es) pos) fb) : SE X W ct (.BoolOp .Or (a :: d :: es) pos) (fa.tst.bnd fun t => if t = true then Mo.ret (.val (.bl true)) else fb) := by
  obtain ⟨ta, pa, ka⟩ := ha
  obtain ⟨tb, pb, kb⟩ := hb
  refine ⟨_, pe_or pa pb, fun B σ Hb H env Q hX S q => Rd.ite ka hX S q fun t e1 Hb1 H1 S1 g => ?_⟩
  cases t with
  | true => exact g _ Hb1 H1 S1 (Le.refl _) (Shp.refl _) rfl
  | false => exact kb B σ Hb1 H1 e1 _ hX S1 g
theorem SE.one {op : BoolOp} (ha : SE X W ct a fa) : SE X W ct (.BoolOp op [a] pos) fa := by
  obtain ⟨ta, pa, ka⟩ := ha
  exact ⟨_, pe_one pa, ka⟩
/-- tests: and, or -/
def SW (X : Cx) (W : WX) (ct : CT) (e : Expr) (f : Mo Bool) : Prop := ∃ tt : TT, PW X e tt ∧ ∀ (B : Bs) (σ : L2.St) (Hb H : Hp) (env : Evn) (Q : Bool → Hp → Prop), BX X ct B → Stt X.K B env σ Hb H →
  GotE (f env) (fun b env' => ∀ Hb' H', Stt X.K B env' σ Hb' H' → Le Hb Hb' → Shp env env' → Q b H') (Xw X W ct B σ Hb) → tt σ H Q
theorem SW.st {f : Mo Bool} (h : SW X W ct a f) : ST X W ct a f := by
  obtain ⟨t, p, k⟩ := h
  exact ⟨t, p.pt, k⟩
theorem ST.go {f : Mo Bool} {g : Bool → Mo Bool} {tt : TT} (k : ∀ (B : Bs) (σ : L2.St) (Hb H : Hp) (env : Evn) (Q : Bool → Hp → Prop), BX X ct B → Stt X.K B env σ Hb H →
      GotE (f env) (fun b env' => ∀ Hb' H', Stt X.K B env' σ Hb' H' → Le Hb Hb' → Shp env env' → Q b H') (Xw X W ct B σ Hb) → tt σ H Q)
    {B : Bs} {σ : L2.St} {Hb H : Hp} {env : Evn} {Q : Bool → Hp → Prop} {Z : Bool → Hp → Prop} (hX : BX X ct B) (S : Stt X.K B env σ Hb H)
    (q : GotE ((f.bnd g) env) (fun b env' => ∀ Hb' H', Stt X.K B env' σ Hb' H' → Le Hb Hb' → Shp env env' → Q b H') (Xw X W ct B σ Hb))
    (z : ∀ t e1 Hb1 H1, Stt X.K B e1 σ Hb1 H1 → GotE (g t e1) (fun b env' => ∀ Hb' H', Stt X.K B env' σ Hb' H' → Le Hb1 Hb' → Shp e1 env' → Q b H') (Xw X W ct B σ Hb1) → Z t H1) : tt σ H Z :=
  k B σ Hb H env _ hX S (q.bnd.same fun t e1 g1 Hb1 H1 S1 le1 sh1 => z t e1 Hb1 H1 S1 (g1.imp (fun b e2 g2 Hb2 H2 S2 le2 sh2 => g2 Hb2 H2 S2 (le1.trans le2) (sh1.trans sh2)) fun c e h => Xw.mono (X := X) le1 h))
theorem SW.and1 {f : Mo Bool} (ha : ST X W ct a f) : SW X W ct (.BoolOp .And [a] pos) f := by
  obtain ⟨ta, pa, ka⟩ := ha
  exact ⟨_, pw_and1 pa, ka⟩
theorem SW.or1 {f : Mo Bool} (ha : ST X W ct a f) : SW X W ct (.BoolOp .Or [a] pos) f := by
  obtain ⟨ta, pa, ka⟩ := ha
  exact ⟨_, pw_or1 pa, ka⟩
theorem SW.and {es : List Expr} {d : Expr} (ha : ST X W ct a fa.tst) (hb : SW X W ct (.BoolOp .And (d :: es) pos) fb.tst) : SW X W ct (.BoolOp .And (a :: d :: es) pos) (Mo.tst (fa.tst.bnd fun t => if t = true then fb else Mo.ret (.val (.bl false)))) := by
  obtain ⟨ta, pa, ka⟩ := ha
  obtain ⟨tb, pb, kb⟩ := hb
  refine ⟨_, pw_and pa pb, fun B σ Hb H env Q hX S q => ?_⟩
  rw [tst_bnd] at q
  refine ST.go ka hX S q fun t e1 Hb1 H1 S1 g => ?_
  cases t with
  | true => exact kb B σ Hb1 H1 e1 _ hX S1 g
  | false => exact g Hb1 H1 S1 (Le.refl _) (Shp.refl _)
theorem SW.or {es : List Expr} {d : Expr} (ha : ST X W ct a fa.tst) (hb : SW X W ct (.BoolOp .Or (d :: es) pos) fb.tst) : SW X W ct (.BoolOp .Or (a :: d :: es) pos) (Mo.tst (fa.tst.bnd fun t => if t = true then Mo.ret (.val (.bl true)) else fb)) := by
  obtain ⟨ta, pa, ka⟩ := ha
  obtain ⟨tb, pb, kb⟩ := hb
  refine ⟨_, pw_or pa pb, fun B σ Hb H env Q hX S q => ?_⟩
  rw [tst_bnd] at q
  refine ST.go ka hX S q fun t e1 Hb1 H1 S1 g => ?_
  cases t with
  | true => exact g Hb1 H1 S1 (Le.refl _) (Shp.refl _)
  | false => exact kb B σ Hb1 H1 e1 _ hX S1 g
theorem SE.ite (hc : ST X W ct c fc.tst) (ha : SE X W ct a fa) (hb : SE X W ct b fb) : SE X W ct (.IfExp c a b pos) (fc.tst.bnd fun t => if t = true then fa else fb) := by
  obtain ⟨tc, pc, kc⟩ := hc
  obtain ⟨ta, pa, ka⟩ := ha
  obtain ⟨tb, pb, kb⟩ := hb
  refine ⟨_, pe_ifExp pc pa pb, fun B σ Hb H env Q hX S q => kc B σ Hb H env _ hX S (q.bnd.same fun t e1 g1 Hb1 H1 S1 le1 sh1 => ?_)⟩
  have g2 : GotE ((if t = true then fa else fb) e1) (fun r env' => ∀ v Hb' H', Stt X.K B env' σ Hb' H' → Le Hb1 Hb' → Shp e1 env' → RVOk X.K B env' σ Hb' H' v r → Q v H') (Xw X W ct B σ Hb1) :=
    g1.imp (fun r e2 g2 v Hb2 H2 S2 le2 sh2 rv => g2 v Hb2 H2 S2 (le1.trans le2) (sh1.trans sh2) rv) fun c e h => Xw.mono (X := X) le1 h
  cases t with
  | true => exact ka B σ Hb1 H1 e1 _ hX S1 g2
  | false => exact kb B σ Hb1 H1 e1 _ hX S1 g2
/-- a op b op c -/
theorem chain_rd {r r' : R2} {g g' : D → D → Option Bool} (hg : OpC X r g) (hg' : OpC X r' g') (ka : Rds X W ct ta fa) (kb : Rds X W ct tb fb) (kc : Rds X W ct tc fc) {B : Bs} {σ : L2.St} {Hb H : Hp} {env : Evn} {Q : VK} (hX : BX X ct B) (S : Stt X.K B env σ Hb H)
    (q : GotE ((fa.bnd fun x => fb.bnd fun y => (Mo.opd x).bnd fun d => (Mo.opd y).bnd fun e => (Mo.lift (g d e)).bnd fun t =>
      if t = true then fc.bnd fun z => (Mo.opd y).bnd fun e => (Mo.opd z).bnd fun h => Mo.lift ((g' e h).map fun b => .val (.bl b)) else Mo.ret (.val (.bl false))) env)
      (fun r env' => ∀ v Hb' H', Stt X.K B env' σ Hb' H' → Le Hb Hb' → Shp env env' → RVOk X.K B env' σ Hb' H' v r → Q v H') (Xw X W ct B σ Hb)) : tChain r r' ta tb tc σ H Q := by
  refine two ka kb hX S (q.bnd.same fun x e1 g1 => g1.bnd.same fun y e2 g2 v u Hb' H' S2 le sh nx ny rx ry => ?_)
  obtain ⟨d, hd, g3⟩ := g2.bnd.opd
  obtain ⟨e, he, g4⟩ := g3.bnd.opd
  obtain ⟨t, ht, g5⟩ := g4.bnd.lift
  refine hg Hb' H' S2.sub d e v u t ht (S2.view rx hd) (S2.view ry he) _ ⟨t, rfl, ?_⟩
  cases t with
  | false => exact g5 _ Hb' H' S2 le sh rfl
  | true =>
    refine kc B σ Hb' H' e2 _ hX S2 (GotE.imp (GotE.bnd g5) (fun z e3 g6 w Hb3 H3 S3 le3 sh3 nz rz => ?_) fun c e h => Xw.mono (X := X) le h)
    obtain ⟨d6, hd6, g7⟩ := g6.bnd.opd
    obtain ⟨d7, hd7, g8⟩ := g7.bnd.opd
    obtain ⟨rv, hrv, g9⟩ := g8.lift
    obtain ⟨z', hz, rfl⟩ := Option.map_eq_some_iff.mp hrv
    exact hg' Hb3 H3 S3.sub d6 d7 u w z' hz (S3.view (ry.keep ny le3) hd6) (S3.view rz hd7) Q (g9 _ Hb3 H3 S3 (le.trans le3) (sh.trans sh3) rfl)
theorem SE.chain {op op' : CmpOp} {r r' : R2} {g g' : D → D → Option Bool} (ho : OpR X (compareOp op) r) (ho' : OpR X (compareOp op') r') (hg : OpC X r g) (hg' : OpC X r' g') (ha : SEs X W ct a fa) (hb : SEs X W ct b fb) (hc : SEs X W ct c fc) (hm : lastMarks [op, op'] [b, c] = false) :
    SE X W ct (.Compare a [op, op'] [b, c] pos) (fa.bnd fun x => fb.bnd fun y => (Mo.opd x).bnd fun d => (Mo.opd y).bnd fun e => (Mo.lift (g d e)).bnd fun t =>
      if t = true then fc.bnd fun z => (Mo.opd y).bnd fun e => (Mo.opd z).bnd fun h => Mo.lift ((g' e h).map fun b => .val (.bl b)) else Mo.ret (.val (.bl false))) := by
  obtain ⟨ta, pa, ka⟩ := ha
  obtain ⟨tb, pb, kb⟩ := hb
  obtain ⟨tc, pc, kc⟩ := hc
  exact ⟨_, pe_chain ho ho' pa pb pc hm, fun B σ Hb H env Q hX S q => chain_rd hg hg' ka kb kc hX S q⟩
theorem ST.chain {op op' : CmpOp} {r r' : R2} {g g' : D → D → Option Bool} (ho : OpR X (compareOp op) r) (ho' : OpR X (compareOp op') r') (hg : OpC X r g) (hg' : OpC X r' g') (ha : SEs X W ct a fa) (hb : SEs X W ct b fb) (hc : SEs X W ct c fc) (hm : lastMarks [op, op'] [b, c] = false) :
    ST X W ct (.Compare a [op, op'] [b, c] pos) (Mo.tst (fa.bnd fun x => fb.bnd fun y => (Mo.opd x).bnd fun d => (Mo.opd y).bnd fun e => (Mo.lift (g d e)).bnd fun t =>
      if t = true then fc.bnd fun z => (Mo.opd y).bnd fun e => (Mo.opd z).bnd fun h => Mo.lift ((g' e h).map fun b => .val (.bl b)) else Mo.ret (.val (.bl false)))) := by
  obtain ⟨ta, pa, ka⟩ := ha
  obtain ⟨tb, pb, kb⟩ := hb
  obtain ⟨tc, pc, kc⟩ := hc
  refine ⟨_, pt_chain ho ho' pa pb pc hm, fun B σ Hb H env Q hX S q => chain_rd (Q := fun x H' => ∃ k, x = .bl k ∧ Q k H') hg hg' ka kb kc hX S ((GotE.bnd q).same fun r e1 g1 v Hb' H' S2 le sh rx => ?_)⟩
  cases r with
  | val d =>
    cases d with
    | bl t => exact ⟨t, rx, g1 Hb' H' S2 le sh⟩
    | _ => exact g1.elim
  | bo i => exact g1.elim
  | fr o => exact g1.elim
theorem SE.var {i : Nat} {x : Str} {Φ : Fn} (hN : X.N[i]? = some x) (hv : Vis X.env.scope x) (hd : (x == ("__debug__" : Str)) = false) (hcd : (x == ("__classdict__" : Str)) = false) : SE X W ct (.Name x pos) (ev Φ (.var i)) := by
  refine ⟨_, pe_var hN hv hd hcd, fun B σ Hb H env Q hX S q => ?_⟩
  have q' : GotE (match env[i]? with
    | some (.im d) => some (.ok (.val d) env)
    | some (.ow _) => some (.ok (.bo i) env)
    | _ => none) (fun r env' => ∀ v Hb' H', Stt X.K B env' σ Hb' H' → Le Hb Hb' → Shp env env' → RVOk X.K B env' σ Hb' H' v r → Q v H') (Xw X W ct B σ Hb) := by rw [ev] at q; exact q
  cases ho : env[i]? with
  | none => rw [ho] at q'; exact False.elim q'
  | some t =>
    cases t with
    | un => rw [ho] at q'; exact False.elim q'
    | im d =>
      rw [ho] at q'
      obtain ⟨v, h1, h2⟩ := S.im i d ho
      exact ⟨v, h1, q' v Hb H S (Le.refl _) (Shp.refl _) h2⟩
    | ow o =>
      rw [ho] at q'
      obtain ⟨p, h1, h2⟩ := S.ow i o ho
      exact ⟨_, h1, q' _ Hb H S (Le.refl _) (Shp.refl _) h1⟩
theorem SE.cst {d : D} {v : V} (hp : PE X a (tC v)) (h : ∀ H, Rp X.K H d v) : SE X W ct a (Mo.ret (.val d)) :=
  ⟨_, hp, fun B σ Hb H env Q hX S q => q v Hb H S (Le.refl _) (Shp.refl _) (h Hb)⟩
theorem SE.dct0 : SE X W ct (.Dict [] [] pos) (Mo.ret (.fr (.dK [] []))) :=
  ⟨_, pe_dnewK, fun B σ Hb H env Q hX S q p hp => q _ Hb _ (S.newH hp) (Le.refl _) (Shp.refl _) ⟨p, rfl, S.hbn hp, ⟨[], upd_same, rfl, rfl⟩, (S.fresh hp).1, (S.fresh hp).2, S.nofr hp⟩⟩
end
/-! ### arguments -/
section
variable {X : Cx} {W : WX} {ct : CT} {e : Expr} {es : List Expr} {fe : Mo RV} {fs : Mo (List RV)} {pos : Pos}
theorem SA.nil : SA X W ct [] (Mo.ret []) := ⟨_, pa_nil, fun B σ Hb H env Q hX S q => q [] Hb H S (Le.refl _) (Shp.refl _) rfl⟩
theorem SA.cons (h : SEs X W ct e fe) (k : SA X W ct es fs) (hn : notStar e = true) : SA X W ct (e :: es) (fe.bnd fun x => fs.bnd fun xs => Mo.ret (x :: xs)) := by
  obtain ⟨te, pe, ke⟩ := h
  obtain ⟨ts, ps, ks⟩ := k
  refine ⟨_, pa_cons pe ps (starEach_plain hn), fun B σ Hb H env Q hX S q => ke B σ Hb H env _ hX S (q.bnd.same fun x e1 g1 v Hb1 H1 S1 le1 sh1 nx rx => ks B σ Hb1 H1 e1 _ hX S1 (g1.bnd.imp (fun xs e2 g2 vs Hb2 H2 S2 le2 sh2 rs => ?_) fun c e h => Xw.mono (X := X) le1 h))⟩
  exact g2 _ Hb2 H2 S2 (le1.trans le2) (sh1.trans sh2) ⟨v, vs, rfl, rx.keep nx le2, nx, rs⟩
end
end HB

set_option Elab.async false
set_option linter.all false
set_option maxRecDepth 100000
set_option maxHeartbeats 2000000
/-! HBSnd6: displays, slices, calls, methods, isinstance. -/
namespace HB
open PySem PySem.Spec PyProof.Rows L2

section
variable {X : Cx} {W : WX} {ct : CT} {a b c e : Expr} {es : List Expr} {fa fb fe f : Mo RV} {fs : Mo (List RV)} {pos : Pos} {ta tb tc te : TE} {ts : TA}
def RdA (X : Cx) (W : WX) (ct : CT) (ts : TA) (fs : Mo (List RV)) : Prop := ∀ (B : Bs) (σ : L2.St) (Hb H : Hp) (env : Evn) (Q : List V → Hp → Prop), BX X ct B → Stt X.K B env σ Hb H →
  GotE (fs env) (fun rs env' => ∀ vs Hb' H', Stt X.K B env' σ Hb' H' → Le Hb Hb' → Shp env env' → RVsOk X.K B env' σ Hb' H' rs vs → Q vs H') (Xw X W ct B σ Hb) → ts σ H Q
theorem SA.star {p : Pos} (h : SEs X W ct e fe) (k : SA X W ct es fs) : SA X W ct (.Starred e p :: es) (fe.bnd fun x => (Mo.opd x).bnd fun d => match seqD d with
    | some ds => fs.bnd fun xs => Mo.ret (ds.map RV.val ++ xs)
    | none => fun _ => none) := by
  obtain ⟨te, pe, ke⟩ := h
  obtain ⟨ts, ps, ks⟩ := k
  refine ⟨_, StX.pa_star pe ps rfl, fun B σ Hb H env Q hX S q => ke B σ Hb H env _ hX S (q.bnd.same fun x e1 g1 v Hb1 H1 S1 le1 sh1 nx rx => ?_)⟩
  obtain ⟨d, hd, g2⟩ := g1.bnd.opd
  have hv := S1.view rx hd
  have key : ∃ p xs ds, v = V.ref p ∧ (SqT X.K H1 p xs ∨ SqL X.K H1 p xs) ∧ seqD d = some ds ∧ RpAll X.K Hb1 ds xs := by
    cases d with
    | lst ds => obtain ⟨p, xs, h1, h2, h3⟩ := hv; exact ⟨p, xs, ds, h1, .inr (SqL.of h2), rfl, h3⟩
    | tup ds => obtain ⟨p, xs, h1, h2, h3⟩ := hv; exact ⟨p, xs, ds, h1, .inl (S1.sub.sqt h2), rfl, h3⟩
    | frz ds => obtain ⟨p, xs, h1, h2, h3⟩ := hv; exact ⟨p, xs, ds, h1, .inr (S1.sub.sql h2), rfl, h3⟩
    | _ => exact False.elim g2
  obtain ⟨p, xs, ds, h1, h2, h3, h4⟩ := key
  refine ⟨p, xs, h1, h2, ?_⟩
  rw [h3] at g2
  refine ks B σ Hb1 H1 e1 _ hX S1 (GotE.imp (GotE.bnd g2) (fun ys e2 g3 vs Hb2 H2 S2 le2 sh2 rs => ?_) fun c e h => Xw.mono (X := X) le1 h)
  exact g3 _ Hb2 H2 S2 (le1.trans le2) (sh1.trans sh2) ((RVsOk.vals h4 : RVsOk X.K B e1 σ Hb1 H1 _ _).keep le2 |>.app rs)
theorem SE.lst (h : SA X W ct es fs) : SE X W ct (.List es pos) (fs.bnd fun rs => (Mo.imms rs).bnd fun ds => if ds.length ≤ LIM then Mo.ret (.fr (.lst ds)) else fun _ => none) := by
  obtain ⟨ts, ps, ks⟩ := h
  refine ⟨_, pe_lst ps, fun B σ Hb H env Q hX S q => ks B σ Hb H env _ hX S (q.bnd.same fun rs e1 g1 vs Hb1 H1 S1 le1 sh1 rv => ?_)⟩
  obtain ⟨ds, e2, Hb2, g2, le2, sh2, S2, rp⟩ := S1.imms rv g1.bnd
  by_cases hl : ds.length ≤ LIM
  · rw [if_pos hl] at g2
    refine ⟨by rw [← rp.length]; exact lim_le hl, fun p hp => ?_⟩
    obtain ⟨S3, r3⟩ := S2.madeL hp rp
    exact g2 _ Hb2 _ S3 (le1.trans le2) (sh1.trans sh2) r3
  · rw [if_neg hl] at g2; exact False.elim g2
theorem SE.tup {k : Nat} (h : SA X W ct es fs) : SE X W ct (.Tuple es k pos) (fs.bnd fun rs => (Mo.imms rs).bnd fun ds => if ds.length ≤ LIM then Mo.ret (.val (.tup ds)) else fun _ => none) := by
  obtain ⟨ts, ps, ks⟩ := h
  refine ⟨_, pe_tup ps, fun B σ Hb H env Q hX S q => ks B σ Hb H env _ hX S (q.bnd.same fun rs e1 g1 vs Hb1 H1 S1 le1 sh1 rv => ?_)⟩
  obtain ⟨ds, e2, Hb2, g2, le2, sh2, S2, rp⟩ := S1.imms rv g1.bnd
  by_cases hl : ds.length ≤ LIM
  · rw [if_pos hl] at g2
    refine ⟨by rw [← rp.length]; exact lim_le hl, fun p hp => ?_⟩
    obtain ⟨Hb3, le3, S3, r3⟩ := S2.madeT hp rp
    exact g2 _ Hb3 _ S3 ((le1.trans le2).trans le3) (sh1.trans sh2) r3
  · rw [if_neg hl] at g2; exact False.elim g2
/-! slices -/
def SO (X : Cx) (W : WX) (ct : CT) (e : Option Expr) (f : Mo (Option Int)) : Prop := ∃ t : TO, PO X e t ∧ ∀ (B : Bs) (σ : L2.St) (Hb H : Hp) (env : Evn) (Q : Option Int → Hp → Prop), BX X ct B → Stt X.K B env σ Hb H →
  GotE (f env) (fun i env' => ∀ Hb' H', Stt X.K B env' σ Hb' H' → Le Hb Hb' → Shp env env' → Q i H') (Xw X W ct B σ Hb) → t σ H Q
theorem SO.no : SO X W ct none (Mo.ret none) := ⟨_, po_none, fun B σ Hb H env Q hX S q => q Hb H S (Le.refl _) (Shp.refl _)⟩
theorem SO.yes (h : SE X W ct e fe) : SO X W ct (some e) (fe.bnd fun r => match r with
    | .val (.int i) => Mo.ret (some i)
    | _ => fun _ => none) := by
  obtain ⟨te, pe, ke⟩ := h
  refine ⟨_, po_some pe, fun B σ Hb H env Q hX S q => ke B σ Hb H env _ hX S (q.bnd.same fun r e1 g1 v Hb1 H1 S1 le1 sh1 rv => ?_)⟩
  cases r with
  | val d =>
    cases d with
    | int i => exact ⟨i, rv, g1 Hb1 H1 S1 le1 sh1⟩
    | _ => exact g1.elim
  | bo i => exact g1.elim
  | fr o => exact g1.elim
theorem rp_cut {K : Fg} {H : Hp} {ds : List D} {xs : List V} (lo hi : Option Int) (h : RpAll K H ds xs) : RpAll K H (cutD ds lo hi) (cutV xs lo hi) := by
  unfold cutD cutV
  rw [← h.length]
  exact (h.drop _).take _
theorem SE.slc {lo hi : Option Expr} {fl fh : Mo (Option Int)} {p2 : Pos} (ha : SEs X W ct a fa) (hl : SO X W ct lo fl) (hh : SO X W ct hi fh) :
    SE X W ct (.Subscript a (.Slice lo hi none p2) pos) (fa.bnd fun x => fl.bnd fun l => fh.bnd fun h => (Mo.opd x).bnd fun d => Mo.lift (slcD d l h)) := by
  obtain ⟨ta, pa, ka⟩ := ha
  obtain ⟨tl, pl, kl⟩ := hl
  obtain ⟨th, ph, kh⟩ := hh
  refine ⟨_, pe_slice (sl_list.or sl_tupA) pa pl ph, fun B σ Hb H env Q hX S q => ka B σ Hb H env _ hX S (q.bnd.same fun x e1 g1 v Hb1 H1 S1 le1 sh1 nx rx =>
    kl B σ Hb1 H1 e1 _ hX S1 (g1.bnd.imp (fun l e2 g2 Hb2 H2 S2 le2 sh2 => kh B σ Hb2 H2 e2 _ hX S2 (g2.bnd.imp (fun h e3 g3 Hb3 H3 S3 le3 sh3 => ?_) fun c e h => Xw.mono (X := X) (le1.trans le2) h)) fun c e h => Xw.mono (X := X) le1 h))⟩
  obtain ⟨d, hd, g4⟩ := g3.bnd.opd
  obtain ⟨rv, hrv, g5⟩ := g4.lift
  have le := (le1.trans le2).trans le3
  have sh := (sh1.trans sh2).trans sh3
  have hv := S3.view (rx.keep nx (le2.trans le3)) hd
  cases d <;> simp only [slcD] at hrv <;> try cases hrv
  · obtain ⟨p, xs, rfl, h1, h2⟩ := hv
    refine .inl ⟨p, xs, rfl, SqL.of h1, fun q hq => ?_⟩
    obtain ⟨S4, r4⟩ := S3.madeL hq (rp_cut l h h2)
    exact g5 _ Hb3 _ S4 le sh r4
  · obtain ⟨p, xs, rfl, h1, h2⟩ := hv
    refine .inr ⟨p, xs, rfl, S3.sub.sqt h1, fun w => ?_, fun _ q hq => ?_⟩
    · have e : cutV xs l h = xs := by
        unfold cutV
        rw [w.1, w.2]
        simp
      have z := rp_cut l h h2
      rw [e] at z
      exact g5 _ Hb3 H3 S3 le sh ⟨p, xs, rfl, h1, z⟩
    · obtain ⟨Hb4, le4, S4, r4⟩ := S3.madeT hq (rp_cut l h h2)
      exact g5 _ Hb4 _ S4 (le.trans le4) sh r4
theorem SE.rev {k : Nat} {p1 p2 p3 : Pos} (ha : SEs X W ct a fa) : SE X W ct (.Subscript a (.Slice none none (some (.UnaryOp .USub (.Constant (.int 1) k p1) p2)) p3) pos) (fa.bnd fun x => (Mo.opd x).bnd fun d => match d with
    | .lst ds => Mo.ret (.fr (.lst ds.reverse))
    | _ => fun _ => none) := by
  obtain ⟨ta, pa, ka⟩ := ha
  refine ⟨_, pe_revL pa, fun B σ Hb H env Q hX S q => ka B σ Hb H env _ hX S (q.bnd.same fun x e1 g1 v Hb1 H1 S1 le1 sh1 nx rx => ?_)⟩
  obtain ⟨d, hd, g2⟩ := g1.bnd.opd
  have hv := S1.view rx hd
  cases d with
  | lst ds =>
    obtain ⟨p, xs, rfl, h1, h2⟩ := hv
    refine ⟨p, xs, rfl, SqL.of h1, fun q hq => ?_⟩
    obtain ⟨S4, r4⟩ := S1.madeL hq h2.rev
    exact g2 _ Hb1 _ S4 le1 sh1 r4
  | _ => exact False.elim g2
/-! the machine's functions -/
theorem SE.blt {x : Str} {p : Pos} {r : List V → Hp → VK → Prop} {g : List D → Option RV} (hb : BltOk X x r) (ho : OpA X r g) (hg : Gl X x) (hm : X.mg x = none) (hp : allPlain (e :: es) = true) (h : SA X W ct (e :: es) fs) :
    SE X W ct (.Call (.Name x p) (e :: es) [] pos) (fs.bnd fun rs env => match opds env rs with
      | some ds => Mo.lift (g ds) env
      | none => none) := by
  obtain ⟨ts, ps, ks⟩ := h
  refine ⟨_, hb.pe e es ts p pos hg hm hp ps, fun B σ Hb H env Q hX S q => ks B σ Hb H env _ hX S (q.bnd.same fun rs e1 g1 vs Hb1 H1 S1 le1 sh1 rv => ?_)⟩
  have g1 : GotE (match opds e1 rs with
      | some ds => Mo.lift (g ds) e1
      | none => none) (fun r env' => ∀ v Hb' H', Stt X.K B env' σ Hb' H' → Le Hb Hb' → Shp env env' → RVOk X.K B env' σ Hb' H' v r → Q v H') (Xw X W ct B σ Hb) := g1
  cases hd : opds e1 rs with
  | none => rw [hd] at g1; exact False.elim g1
  | some ds =>
    rw [hd] at g1
    obtain ⟨w, hw, g2⟩ := g1.lift
    exact ho B e1 σ Hb1 H1 S1 ds vs w hw (S1.views rv hd) Q fun v Hb' H' S' le' rv' => g2 v Hb' H' S' (le1.trans le') sh1 rv'
theorem SE.listRng {p p2 q : Pos} (hc : X.calm = true) (hg : Gl X "list") (hm : X.mg "list" = none) (hg2 : Gl X "range") (hm2 : X.mg "range" = none) (hn : notStar e = true) (h : SEs X W ct e fe) :
    SE X W ct (.Call (.Name "list" p) [.Call (.Name "range" p2) [e] [] q] [] pos) ((fe.bnd fun x => Mo.ret [x]).bnd fun rs env => match opds env rs with
      | some ds => Mo.lift (bltD .listRng ds) env
      | none => none) := by
  obtain ⟨te, pe, ke⟩ := h
  refine ⟨_, pe_listRg hc hg hm (prg_1 hg2 hm2 pe (starEach_plain hn)), fun B σ Hb H env Q hX S q => ke B σ Hb H env _ hX S ((GotE.bnd (GotE.bnd q)).same fun r e1 g1 v Hb1 H1 S1 le1 sh1 nr rv => ?_)⟩
  have g1 : GotE (match opds e1 [r] with
      | some ds => Mo.lift (bltD .listRng ds) e1
      | none => none) (fun r env' => ∀ v Hb' H', Stt X.K B env' σ Hb' H' → Le Hb Hb' → Shp env env' → RVOk X.K B env' σ Hb' H' v r → Q v H') (Xw X W ct B σ Hb) := g1
  cases hd : opds e1 [r] with
  | none => rw [hd] at g1; exact False.elim g1
  | some ds =>
    rw [hd] at g1
    obtain ⟨w, hw, g2⟩ := g1.lift
    unfold opds at hd
    split at hd
    · rename_i d ds' h1 h2
      cases h2
      cases hd
      have hv := S1.view rv h1
      cases d <;> simp only [bltD] at hw <;> try cases hw
      rename_i n
      split at hw
      · rename_i hn
        cases hw
        refine ⟨n, hv, ⟨by omega, by omega, by omega, by omega, by omega⟩, fun q hq => ?_⟩
        have rp : RpAll X.K Hb1 ((List.range n.toNat).map fun (k : Nat) => D.int (k : Int)) (rgV 0 n) := by
          unfold rgV
          have e : (n - 0).toNat = n.toNat := by omega
          rw [e]
          have z := rp_ints (K := X.K) (Hb := Hb1) ((List.range n.toNat).map fun (k : Nat) => (k : Int))
          rw [List.map_map, List.map_map] at z
          simpa [Function.comp_def] using z
        obtain ⟨S4, r4⟩ := S1.madeL hq rp
        exact g2 _ Hb1 _ S4 le1 sh1 r4
      · cases hw
    · cases hd
/-- len(set(e)) -/
theorem SE.lenset {p p2 q : Pos} (hc : X.calm = true) (hg : Gl X "len") (hm : X.mg "len" = none) (hg2 : Gl X "set") (hm2 : X.mg "set" = none) (hn : notStar e = true) (h : SEs X W ct e fe) :
    SE X W ct (.Call (.Name "len" p) [.Call (.Name "set" p2) [e] [] q] [] pos) ((fe.bnd fun x => Mo.ret [x]).bnd fun rs env => match opds env rs with
      | some ds => Mo.lift (bltD .lenset ds) env
      | none => none) := by
  obtain ⟨te, pe, ke⟩ := h
  refine ⟨_, pe_lenSetI hc hg hm hg2 hm2 pe (starEach_plain hn), fun B σ Hb H env Q hX S q => ke B σ Hb H env _ hX S ((GotE.bnd (GotE.bnd q)).same fun r e1 g1 v Hb1 H1 S1 le1 sh1 nr rv => ?_)⟩
  have g1 : GotE (match opds e1 [r] with
      | some ds => Mo.lift (bltD .lenset ds) e1
      | none => none) (fun r env' => ∀ v Hb' H', Stt X.K B env' σ Hb' H' → Le Hb Hb' → Shp env env' → RVOk X.K B env' σ Hb' H' v r → Q v H') (Xw X W ct B σ Hb) := g1
  cases hd : opds e1 [r] with
  | none => rw [hd] at g1; exact False.elim g1
  | some ds =>
    rw [hd] at g1
    obtain ⟨w, hw, g2⟩ := g1.lift
    unfold opds at hd
    split at hd
    · rename_i d ds' h1 h2
      cases h2
      cases hd
      have hv := S1.view rv h1
      cases d <;> simp only [bltD] at hw <;> try cases hw
      rename_i es
      cases hi : intsD es with
      | none => simp [hi] at hw
      | some is =>
        simp only [hi] at hw
        rcases ite_or hw with ⟨hl, hw⟩ | ⟨_, hw⟩
        · cases hw
          obtain ⟨a, xs, rfl, k1, k2⟩ := hv
          rw [ints_is hi k2] at k1
          exact ⟨a, is, rfl, SqL.of k1, hl, g2 _ Hb1 _ S1 le1 sh1 rfl⟩
        · cases hw
    · cases hd
/-- list(range(a, b)) -/
theorem SE.listR2 {p p2 q : Pos} (hc : X.calm = true) (hg : Gl X "list") (hm : X.mg "list" = none) (hg2 : Gl X "range") (hm2 : X.mg "range" = none) (hn : notStar a = true) (hn2 : notStar b = true) (ha : SEs X W ct a fa) (hb : SEs X W ct b fb) :
    SE X W ct (.Call (.Name "list" p) [.Call (.Name "range" p2) [a, b] [] q] [] pos) (fa.bnd fun x => fb.bnd fun y => match x, y with
    | .val (.int i), .val (.int j) => if -100000 ≤ i ∧ i ≤ 100000 ∧ -100000 ≤ j ∧ j ≤ 100000 then Mo.ret (.fr (.lst ((List.range (j - i).toNat).map fun (k : Nat) => D.int (i + (k : Int))))) else fun _ => none
    | _, _ => fun _ => none) := by
  obtain ⟨ta, pa, ka⟩ := ha
  obtain ⟨tb, pb, kb⟩ := hb
  refine ⟨_, pe_listRg hc hg hm (prg_2 hg2 hm2 pa pb (by rw [starEach_plain hn]) (starEach_plain hn2) (backTo_plain (by simp [allPlain, hn2]))), fun B σ Hb H env Q hX S q => two ka kb hX S (q.bnd.same fun x e1 g1 => g1.bnd.same fun y e2 g2 v u Hb' H' S2 le sh nx ny rx ry => ?_)⟩
  cases x with
  | bo i => exact g2.elim
  | fr o => exact g2.elim
  | val d =>
  cases d with
  | int i =>
    cases y with
    | bo i => exact g2.elim
    | fr o => exact g2.elim
    | val d2 =>
    cases d2 with
    | int j =>
      simp only at g2
      split at g2
      · rename_i hi
        cases rx
        cases ry
        refine ⟨i, j, rfl, rfl, ⟨by omega, by omega, by omega, by omega, by omega⟩, fun q hq => ?_⟩
        have rp : RpAll X.K Hb' ((List.range (j - i).toNat).map fun (k : Nat) => D.int (i + (k : Int))) (rgV i j) := by
          unfold rgV
          have z := rp_ints (K := X.K) (Hb := Hb') ((List.range (j - i).toNat).map fun (k : Nat) => i + (k : Int))
          rw [List.map_map, List.map_map] at z
          simpa [Function.comp_def] using z
        obtain ⟨S4, r4⟩ := S2.madeL hq rp
        exact g2 _ Hb' _ S4 le sh r4
      · exact g2.elim
    | _ => exact g2.elim
  | _ => exact g2.elim
end
/-! ### calls of defs -/
section
variable {K : Fg} {B : Bs} {env : Evn} {σ : L2.St} {Hb Hc Hb' H' : Hp}
/-- behind a call that changes nothing handed in -/
theorem Stt.aft0 (S : Stt K B env σ Hb Hc) (A : Aft Hb Hc Hb' H' (fun _ => False)) : Stt K B env σ Hb' H' where
  len := S.len
  sub := A.sub
  im := fun i d e => by obtain ⟨v, h1, h2⟩ := S.im i d e; exact ⟨v, h1, Rp.mono A.le _ _ h2⟩
  ow := fun i o e => by
    obtain ⟨a, h1, h2, h3, h4⟩ := S.ow i o e
    obtain ⟨u, hu⟩ := h3.there
    have hn : Hb' a = none := by
      cases q : Hb' a with
      | none => rfl
      | some x => rw [A.frs a x q h2] at hu; cases hu
    exact ⟨a, h1, hn, h3.mono A.le (by rw [A.keep a u hu (fun z => z), hu]), h4⟩
  inj := S.inj
  exb := S.exb.trans A.le
  keep := fun b o e n => A.keep b o (S.keep b o e n) fun z => z
  frs := fun b o e n => by
    cases q : Hb b with
    | some x => exact S.frs b x q n
    | none => exact .inl (S.fresh (A.frs b o e q)).1
  iot := fun b z => by obtain ⟨o, e⟩ := S.iot b z; exact ⟨o, A.keep b o e fun z => z⟩
  fx := S.fx
/-- behind a call that changes the thing owned by slot i -/
theorem Stt.aft1 (S : Stt K B env σ Hb Hc) {i : Nat} {o o' : OB} {a : Addr} (h : env[i]? = some (.ow o)) (ha : σ[i]? = some (some (.ref a))) (A : Aft Hb Hc Hb' H' (fun b => a = b)) (k1 : Hb' a = none) (k2 : OBat K Hb' H' a o') : Stt K B (env.set i (.ow o')) σ Hb' H' := by
  obtain ⟨a', h1, h2, h3, h4⟩ := S.ow i o h
  rw [ha] at h1; cases h1
  have hl := lt_of_get h
  refine ⟨by rw [List.length_set]; exact S.len, A.sub, fun j d e => ?_, fun j o1 e => ?_, fun j k o1 o2 b e1 e2 => ?_, S.exb.trans A.le, fun b x e n => ?_, fun b x e n => ?_, fun b z => ?_, fun j b c e => by
    have ne : i ≠ j := fun z => S.nfx (i := i) (fun d e => by rw [h] at e; cases e) b c (by rw [z]; exact e)
    rw [get_set_ne ne]
    exact S.fx j b c e⟩
  · by_cases hij : i = j
    · subst hij; rw [get_set_eq hl] at e; cases e
    · rw [get_set_ne hij] at e
      obtain ⟨v, q1, q2⟩ := S.im j d e
      exact ⟨v, q1, Rp.mono A.le _ _ q2⟩
  · by_cases hij : i = j
    · subst hij
      rw [get_set_eq hl] at e; cases e
      exact ⟨a, ha, k1, k2, h4⟩
    · rw [get_set_ne hij] at e
      obtain ⟨b, q1, q2, q3, q4⟩ := S.ow j o1 e
      have nb : a ≠ b := fun z => hij (S.inj i j o o1 a h e ha (by rw [q1, z]))
      obtain ⟨u, hu⟩ := q3.there
      have hn : Hb' b = none := by
        cases q : Hb' b with
        | none => rfl
        | some x => rw [A.frs b x q q2] at hu; cases hu
      exact ⟨b, q1, hn, q3.mono A.le (by rw [A.keep b u hu nb, hu]), q4⟩
  · have g : ∀ (m : Nat) (o3 : OB), (env.set i (.ow o'))[m]? = some (.ow o3) → ∃ o4, env[m]? = some (.ow o4) := fun m o3 e => by
      by_cases him : i = m
      · subst him; exact ⟨o, h⟩
      · rw [get_set_ne him] at e; exact ⟨o3, e⟩
    obtain ⟨o4, g1⟩ := g _ _ e1
    obtain ⟨o5, g2⟩ := g _ _ e2
    exact S.inj j k o4 o5 b g1 g2
  · have nb : a ≠ b := fun z => by
      subst z
      split at h4
      · exact n h4
      · rw [h4.1] at e; cases e
    exact A.keep b x (S.keep b x e n) nb
  · cases q : Hb b with
    | some y => exact S.frs b y q n
    | none => exact .inl (S.fresh (A.frs b x e q)).1
  · obtain ⟨y, e⟩ := S.iot b z
    by_cases hb : a = b
    · subst hb; exact k2.there
    · exact ⟨y, A.keep b y e hb⟩
theorem RetOk.rv (S : Stt K B env σ Hb Hc) {env' : Evn} {v : V} {r : RV} (h : RetOk K Hc Hb' H' v r) (sh : Shp env env') : RVOk K B env' σ Hb' H' v r := by
  cases r with
  | val d => exact h
  | bo i => exact False.elim h
  | fr o =>
    obtain ⟨p, e, h1, h2, h3⟩ := h
    refine ⟨p, e, h1, h2, (S.fresh h3).1, (S.fresh h3).2, fun i o' e1 z => ?_⟩
    obtain ⟨o1, e2⟩ := sh i o' e1
    exact S.nofr h3 i o1 e2 z
end
section
variable {X : Cx} {W : WX} {ct : CT} {a b c e : Expr} {es : List Expr} {fa fb fe f : Mo RV} {fs : Mo (List RV)} {pos p : Pos} {k n : Nat} {x : Str} {ps : List Str} {io : Bool} {Φ : Fn}
theorem SE.call {kl : List (List Str × List Nat)} (F : FnAt X.prog X.w X.K X.mg X.base ct.at_ k x ps kl (fun o ds => if o.isSome = io then Φ n o ds else none)) (hr : Room k X.A) (hgd : X.A.guards = some []) (hg : Gl X x) (tk : Takes X W) (hdb : (x == ("__debug__" : Str)) = false) (hp : allPlain (e :: es) = true) (hl : (e :: es).length = ps.length)
    (ht : ∀ env rs, (∃ e', fs env = some (.ok rs e')) → rs.length = ps.length) (h : SA X W ct (e :: es) fs) : SE X W ct (.Call (.Name x p) (e :: es) [] pos) (fs.bnd fun rs => callD Φ n io rs) := by
  obtain ⟨ts, pa, ks⟩ := h
  obtain ⟨fa, fd, hm, hk, hb, _, F⟩ := F
  refine ⟨_, pe_callF F hr hgd hg hm hk hb tk pa hdb hp, fun B σ Hb H env Q hX S q => ks B σ Hb H env _ hX S ?_⟩
  have q1 := q.bnd
  cases hf : fs env with
  | none => rw [hf] at q1; exact False.elim q1
  | some t =>
  cases t with
  | ex c e1 => rw [hf] at q1; exact q1
  | ok rs e1 =>
  rw [hf] at q1
  have hlen := ht env rs ⟨e1, hf⟩
  intro vs Hb1 H1 S1 le1 sh1 rv
  have lv : ∀ {rs : List RV} {vs : List V}, RVsOk X.K B e1 σ Hb1 H1 rs vs → rs.length = vs.length := by
    intro rs
    induction rs with
    | nil => intro vs h; cases h; rfl
    | cons r rs ih => intro vs ⟨v, vs', e, _, _, h⟩; subst e; simp [ih h]
  refine ⟨by rw [← lv rv]; exact hlen, ?_⟩
  have q1 : GotE (callD Φ n io rs e1) (fun r env' => ∀ v Hb' H', Stt X.K B env' σ Hb' H' → Le Hb Hb' → Shp env env' → RVOk X.K B env' σ Hb' H' v r → Q v H') (Xw X W ct B σ Hb) := q1
  cases io with
  | false =>
    unfold callD at q1
    rw [if_neg Bool.false_ne_true] at q1
    obtain ⟨ds, e2, Hb2, g2, le2, sh2, S2, rp⟩ := S1.imms rv (GotE.bnd q1)
    refine ⟨Hb2, none, ds, none, S2.sub, rp, ?_⟩
    simp only [Option.isSome_none, if_true]
    cases hφ : Φ n none ds with
    | none => simp only [hφ] at g2; exact False.elim g2
    | some t =>
      cases t with
      | ok r io' =>
        cases io' with
        | some o => simp only [hφ] at g2; exact False.elim g2
        | none =>
          simp only [hφ] at g2
          intro v Hb' H' A _ rt
          have A' : Aft Hb2 H1 Hb' H' (fun _ => False) := ⟨A.le, A.sub, fun b o e z => A.keep b o e (fun z => nomatch z), A.frs⟩
          exact g2 v Hb' H' (S2.aft0 A') ((le1.trans le2).trans A.le) (sh1.trans sh2) (RetOk.rv S2 rt (Shp.refl _))
      | ex c =>
        simp only [hφ] at g2
        intro Hb' H' A
        have A' : Aft Hb2 H1 Hb' H' (fun _ => False) := ⟨A.le, A.sub, fun b o e z => A.keep b o e (fun z => nomatch z), A.frs⟩
        exact g2 Hb' H' (S2.aft0 A') ((le1.trans le2).trans A.le)
  | true =>
    unfold callD at q1
    rw [if_pos rfl] at q1
    cases rs with
    | nil => exact False.elim q1
    | cons r0 rs' =>
    cases r0 with
    | val d => exact False.elim q1
    | fr o => exact False.elim q1
    | bo i =>
    obtain ⟨v0, vs', ev, h0, _, rv'⟩ := rv
    subst ev
    obtain ⟨ds, e2, Hb2, g2, le2, sh2, S2, rp⟩ := S1.imms rv' (GotE.bnd q1)
    cases ho : e2[i]? with
    | none => simp only [ho] at g2; exact False.elim g2
    | some t =>
    cases t with
    | un => simp only [ho] at g2; exact False.elim g2
    | im d => simp only [ho] at g2; exact False.elim g2
    | ow o =>
    simp only [ho] at g2
    obtain ⟨a, h1, h2, h3, h4⟩ := S2.ow i o ho
    have h0' : σ[i]? = some (some v0) := h0
    rw [h0'] at h1; cases h1
    refine ⟨Hb2, some o, ds, some a, S2.sub, ⟨vs', rfl, h2, h3, rp⟩, ?_⟩
    simp only [Option.isSome_some, if_true]
    cases hφ : Φ n (some o) ds with
    | none => simp only [hφ] at g2; exact False.elim g2
    | some t =>
      cases t with
      | ex c => simp only [hφ] at g2; exact False.elim g2
      | ok r io' =>
        cases io' with
        | none => simp only [hφ] at g2; exact False.elim g2
        | some o' =>
          simp only [hφ] at g2
          intro v Hb' H' A ik rt
          have A' : Aft Hb2 H1 Hb' H' (fun b => a = b) := ⟨A.le, A.sub, fun b o e z => A.keep b o e (fun y => z (Option.some.inj y)), A.frs⟩
          exact g2 v Hb' H' (S2.aft1 ho h0' A' ik.1 ik.2) ((le1.trans le2).trans A.le) ((sh1.trans sh2).trans (Shp.set_ow ho)) (RetOk.rv S2 rt (Shp.set_ow ho))
theorem SE.call0 {kl : List (List Str × List Nat)} (F : FnAt X.prog X.w X.K X.mg X.base ct.at_ k x [] kl (fun o ds => if o.isSome = io then Φ n o ds else none)) (hr : Room k X.A) (hgd : X.A.guards = some []) (hg : Gl X x) (tk : Takes X W) (hdb : (x == ("__debug__" : Str)) = false) :
    SE X W ct (.Call (.Name x p) [] [] pos) ((Mo.ret []).bnd fun rs => callD Φ n io rs) := by
  obtain ⟨fa, fd, hm, hk, hb, _, F⟩ := F
  refine ⟨_, pe_callF0 F hr hgd hg hm hk hb tk hdb, fun B σ Hb H env Q hX S q => ?_⟩
  have q1 : GotE (callD Φ n io [] env) (fun r env' => ∀ v Hb' H', Stt X.K B env' σ Hb' H' → Le Hb Hb' → Shp env env' → RVOk X.K B env' σ Hb' H' v r → Q v H') (Xw X W ct B σ Hb) := q
  refine ⟨rfl, ?_⟩
  cases io with
  | true => exact q1.elim
  | false =>
    unfold callD at q1
    rw [if_neg Bool.false_ne_true] at q1
    refine ⟨Hb, none, [], none, S.sub, rfl, ?_⟩
    simp only [Option.isSome_none, if_true]
    have g2 : GotE ((fun (ds : List D) (env : Evn) => match Φ n none ds with
      | some (FOut.ok r none) => some (Out.ok r env)
      | some (.ex c) => some (.ex c env)
      | _ => none) [] env) (fun r env' => ∀ v Hb' H', Stt X.K B env' σ Hb' H' → Le Hb Hb' → Shp env env' → RVOk X.K B env' σ Hb' H' v r → Q v H') (Xw X W ct B σ Hb) := q1
    cases hφ : Φ n none [] with
    | none => simp only [hφ] at g2; exact False.elim g2
    | some t =>
      cases t with
      | ok r io' =>
        cases io' with
        | some o => simp only [hφ] at g2; exact False.elim g2
        | none =>
          simp only [hφ] at g2
          intro v Hb' H' A _ rt
          have A' : Aft Hb H Hb' H' (fun _ => False) := ⟨A.le, A.sub, fun b o e z => A.keep b o e (fun z => nomatch z), A.frs⟩
          exact g2 v Hb' H' (S.aft0 A') A.le (Shp.refl _) (RetOk.rv S rt (Shp.refl _))
      | ex c =>
        simp only [hφ] at g2
        intro Hb' H' A
        have A' : Aft Hb H Hb' H' (fun _ => False) := ⟨A.le, A.sub, fun b o e z => A.keep b o e (fun z => nomatch z), A.frs⟩
        exact g2 Hb' H' (S.aft0 A') A.le
/-- the values of keywords -/
def SK (X : Cx) (W : WX) (ct : CT) (kws : List Keyword) (f : Mo (List RV)) : Prop := ∃ ta : TA, PK X kws ta ∧ ∀ (B : Bs) (σ : L2.St) (Hb H : Hp) (env : Evn) (Q : List V → Hp → Prop), BX X ct B → Stt X.K B env σ Hb H →
  GotE (f env) (fun rs env' => ∀ vs Hb' H', Stt X.K B env' σ Hb' H' → Le Hb Hb' → Shp env env' → RVsOk X.K B env' σ Hb' H' rs vs → Q vs H') (Xw X W ct B σ Hb) → ta σ H Q
theorem SK.nil : SK X W ct [] (Mo.ret []) := ⟨_, pk_nil, fun B σ Hb H env Q hX S q => q [] Hb H S (Le.refl _) (Shp.refl _) rfl⟩
theorem SK.cons {nm : Option Str} {kp : Pos} {kws : List Keyword} (h : SEs X W ct e fe) (k : SK X W ct kws fs) : SK X W ct (⟨nm, e, kp⟩ :: kws) (fe.bnd fun x => fs.bnd fun xs => Mo.ret (x :: xs)) := by
  obtain ⟨te, pe, ke⟩ := h
  obtain ⟨ts, ps, ks⟩ := k
  refine ⟨_, pk_cons pe ps, fun B σ Hb H env Q hX S q => ke B σ Hb H env _ hX S (q.bnd.same fun x e1 g1 v Hb1 H1 S1 le1 sh1 nx rx => ks B σ Hb1 H1 e1 _ hX S1 (g1.bnd.imp (fun xs e2 g2 vs Hb2 H2 S2 le2 sh2 rs => ?_) fun c e h => Xw.mono (X := X) le1 h))⟩
  exact g2 _ Hb2 H2 S2 (le1.trans le2) (sh1.trans sh2) ⟨v, vs, rfl, rx.keep nx le2, nx, rs⟩
theorem RVsOk.len {K : Fg} {B : Bs} {env : Evn} {σ : L2.St} {Hb H : Hp} : ∀ {rs : List RV} {vs : List V}, RVsOk K B env σ Hb H rs vs → rs.length = vs.length
  | [], _, h => by cases h; rfl
  | r :: rs, _, ⟨v, vs', e, _, _, h⟩ => by subst e; simp [RVsOk.len h]
theorem RVsOk.get {K : Fg} {B : Bs} {env : Evn} {σ : L2.St} {Hb H : Hp} : ∀ {rs : List RV} {vs : List V} {i : Nat} {r : RV}, RVsOk K B env σ Hb H rs vs → rs[i]? = some r → ∃ v, vs[i]? = some v ∧ RVOk K B env σ Hb H v r ∧ NoFr r
  | [], _, _, _, _, h => by simp at h
  | r :: rs, _, 0, _, ⟨v, vs', e, h1, h2, h⟩, q => by subst e; cases q; exact ⟨v, rfl, h1, h2⟩
  | r :: rs, _, i + 1, _, ⟨v, vs', e, h1, h2, h⟩, q => by subst e; exact RVsOk.get (i := i) h (by simpa using q)
theorem RVsOk.perm {K : Fg} {B : Bs} {env : Evn} {σ : L2.St} {Hb H : Hp} {perm : List Nat} : ∀ {rs rs' : List RV} {vs : List V}, RVsOk K B env σ Hb H rs vs → permL perm rs = some rs' → ∃ vs', permL perm vs = some vs' ∧ RVsOk K B env σ Hb H rs' vs' := by
  induction perm with
  | nil => intro rs rs' vs r h; cases h; exact ⟨[], rfl, rfl⟩
  | cons i perm ih =>
    intro rs rs' vs r h
    unfold permL at h ⊢
    rw [List.mapM_cons] at h ⊢
    cases hz : rs[i]? with
    | none => rw [hz] at h; cases h
    | some z =>
      cases hr : permL perm rs with
      | none =>
        unfold permL at hr
        rw [hz, hr] at h; cases h
      | some vr =>
        obtain ⟨ws, hw, rw'⟩ := ih r hr
        unfold permL at hr hw
        rw [hz, hr] at h
        cases h
        obtain ⟨u, hu, ru, nr⟩ := r.get hz
        exact ⟨u :: ws, by rw [hu, hw]; rfl, ⟨u, ws, rfl, ru, nr, rw'⟩⟩
theorem permL_len {α : Type} {l l' : List α} : ∀ {perm : List Nat}, permL perm l = some l' → l'.length = perm.length := by
  intro perm
  induction perm generalizing l' with
  | nil => intro h; cases h; rfl
  | cons i perm ih =>
    intro h
    unfold permL at h
    rw [List.mapM_cons] at h
    cases hz : l[i]? with
    | none => rw [hz] at h; cases h
    | some z =>
      cases hr : permL perm l with
      | none =>
        unfold permL at hr
        rw [hz, hr] at h; cases h
      | some vr =>
        have := ih hr
        unfold permL at hr
        rw [hz, hr] at h
        cases h
        simp [this]
theorem SE.callK {kl : List (List Str × List Nat)} {ks : List Str} {perm : List Nat} {kws : List Keyword} (F : FnAt X.prog X.w X.K X.mg X.base ct.at_ k x ps kl (fun o ds => if o.isSome = false then Φ n o ds else none)) (hr : Room k X.A) (hgd : X.A.guards = some []) (hg : Gl X x) (tk : Takes X W) (hdb : (x == ("__debug__" : Str)) = false)
    (hn : kwNames kws = some ks) (hq : (ks, perm) ∈ kl) (hl : kws.length = ps.length) (hpl : perm.length = ps.length) (ht : ∀ env rs, (∃ e', fs env = some (.ok rs e')) → rs.length = kws.length) (h : SK X W ct kws fs) :
    SE X W ct (.Call (.Name x p) [] kws pos) (fs.bnd fun rs => match permL perm rs with
      | some rs' => callD Φ n false rs'
      | none => fun _ => none) := by
  obtain ⟨ts, pa, ks'⟩ := h
  obtain ⟨fa, fd, hm, hk, _, hb, F⟩ := F
  refine ⟨_, pe_callKF F hr hgd hg hm hk hb hq tk pa hn hdb, fun B σ Hb H env Q hX S q => ks' B σ Hb H env _ hX S ?_⟩
  have q1 := q.bnd
  cases hf : fs env with
  | none => rw [hf] at q1; exact False.elim q1
  | some t =>
  cases t with
  | ex c e1 => rw [hf] at q1; exact q1
  | ok rs0 e1 =>
  rw [hf] at q1
  have hlen := ht env rs0 ⟨e1, hf⟩
  intro zs Hb1 H1 S1 le1 sh1 rv0
  refine ⟨by rw [← rv0.len, hlen, hl], ?_⟩
  have q1 : GotE ((match permL perm rs0 with
      | some rs' => callD Φ n false rs'
      | none => fun _ => none) e1) (fun r env' => ∀ v Hb' H', Stt X.K B env' σ Hb' H' → Le Hb Hb' → Shp env env' → RVOk X.K B env' σ Hb' H' v r → Q v H') (Xw X W ct B σ Hb) := q1
  cases hp : permL perm rs0 with
  | none => rw [hp] at q1; exact False.elim q1
  | some rs =>
  obtain ⟨vs, hv, rv⟩ := rv0.perm hp
  refine ⟨vs, hv, by rw [permL_len hv, hpl], ?_⟩
  rw [hp] at q1
  have q1 : GotE (callD Φ n false rs e1) (fun r env' => ∀ v Hb' H', Stt X.K B env' σ Hb' H' → Le Hb Hb' → Shp env env' → RVOk X.K B env' σ Hb' H' v r → Q v H') (Xw X W ct B σ Hb) := q1
  unfold callD at q1
  rw [if_neg Bool.false_ne_true] at q1
  obtain ⟨ds, e2, Hb2, g2, le2, sh2, S2, rp⟩ := S1.imms rv (GotE.bnd q1)
  refine ⟨Hb2, none, ds, none, S2.sub, rp, ?_⟩
  simp only [Option.isSome_none, if_true]
  cases hφ : Φ n none ds with
  | none => simp only [hφ] at g2; exact False.elim g2
  | some t =>
    cases t with
    | ok r io' =>
      cases io' with
      | some o => simp only [hφ] at g2; exact False.elim g2
      | none =>
        simp only [hφ] at g2
        intro v Hb' H' A _ rt
        have A' : Aft Hb2 H1 Hb' H' (fun _ => False) := ⟨A.le, A.sub, fun b o e z => A.keep b o e (fun z => nomatch z), A.frs⟩
        exact g2 v Hb' H' (S2.aft0 A') ((le1.trans le2).trans A.le) (sh1.trans sh2) (RetOk.rv S2 rt (Shp.refl _))
    | ex c =>
      simp only [hφ] at g2
      intro Hb' H' A
      have A' : Aft Hb2 H1 Hb' H' (fun _ => False) := ⟨A.le, A.sub, fun b o e z => A.keep b o e (fun z => nomatch z), A.frs⟩
      exact g2 Hb' H' (S2.aft0 A') ((le1.trans le2).trans A.le)
end
end HB

set_option Elab.async false
set_option linter.all false
set_option maxRecDepth 100000
set_option maxHeartbeats 2000000
/-! HBSnd7: methods, isinstance, what is walked. -/
namespace HB
open PySem PySem.Spec PyProof.Rows L2

section
variable {X : Cx} {W : WX} {ct : CT} {a b c e o : Expr} {es : List Expr} {fa fb fe f fo : Mo RV} {fs : Mo (List RV)} {pos p : Pos}
/-! ### methods that change a list -/
/-- what a method's rule asks is what mutD says -/
def MutOk (X : Cx) (m : Mth) (r : V → List V → Hp → VK → Prop) : Prop := ∀ (Hb H : Hp) (a : Addr) (ob o' : OB) (ds : List D) (d : D) (vs : List V) (Q : VK), Le Hb H → OBat X.K Hb H a ob → RpAll X.K Hb ds vs → mutD m ob ds = some (d, o') →
  (∀ v u, Rp X.K Hb d v → OBat X.K Hb (upd H a u) a o' → Q v (upd H a u)) → r (.ref a) vs H Q
theorem mut_append : MutOk X .append rAppend := by
  intro Hb H a ob o' ds d vs Q le h rp hm q
  cases ob <;> simp only [mutD] at hm <;> try cases hm
  rename_i xs
  match ds, hm with
  | [d1], hm =>
    simp only at hm
    split at hm
    · rename_i hl
      cases hm
      obtain ⟨ys, h1, h2⟩ := h
      obtain ⟨y, vs', rfl, r1, r2⟩ := rp
      cases r2
      exact ⟨a, ys, y, rfl, rfl, h1, by rw [← h2.length]; exact lim_lt hl, q .non _ rfl ⟨_, upd_same, h2.app (RpAll.one r1)⟩⟩
    · cases hm
theorem mut_pop : MutOk X .pop rPop := by
  intro Hb H a ob o' ds d vs Q le h rp hm q
  cases ob <;> simp only [mutD] at hm <;> try cases hm
  rename_i xs
  match ds, hm with
  | [], hm =>
    obtain ⟨d1, hd, e⟩ := Option.map_eq_some_iff.mp hm
    cases e
    obtain ⟨ys, h1, h2⟩ := h
    cases rp
    obtain ⟨y, hy, r1⟩ := h2.get hd
    have dl : ∀ {ds : List D} {xs : List V}, RpAll X.K Hb ds xs → RpAll X.K Hb ds.dropLast xs.dropLast := fun {ds xs} h => by
      rw [List.dropLast_eq_take, List.dropLast_eq_take, ← h.length]; exact h.take _
    exact ⟨a, ys, y, rfl, rfl, h1, by rw [← h2.length]; exact hy, q y _ r1 ⟨_, upd_same, dl h2⟩⟩
theorem mut_popAt : MutOk X .popAt rPopAt := by
  intro Hb H a ob o' ds d vs Q le h rp hm q
  cases ob <;> simp only [mutD] at hm <;> try cases hm
  rename_i xs
  match ds, hm with
  | [.int i], hm =>
    simp only at hm
    split at hm
    · rename_i hl
      obtain ⟨d1, hd, e⟩ := Option.map_eq_some_iff.mp hm
      cases e
      obtain ⟨ys, h1, h2⟩ := h
      obtain ⟨y, vs', rfl, r1, r2⟩ := rp
      cases r1
      cases r2
      obtain ⟨y, hy, r1⟩ := h2.get hd
      have hlt : i.toNat < ys.length := lt_of_get hy
      exact ⟨a, ys, i, i.toNat, y, rfl, rfl, h1, by omega, by omega, by rw [seqIndex_of hl.1 (by omega)], hy, q y _ r1 ⟨_, upd_same, h2.erase _⟩⟩
    · cases hm
theorem mut_extend : MutOk X .extend rExtend := by
  intro Hb H a ob o' ds d vs Q le h rp hm q
  cases ob <;> simp only [mutD] at hm <;> try cases hm
  rename_i xs
  match ds, hm with
  | [.lst ys], hm =>
    simp only at hm
    split at hm
    · rename_i hl
      cases hm
      obtain ⟨zs, h1, h2⟩ := h
      obtain ⟨y, vs', rfl, ⟨b, ws, rfl, r1, r3⟩, r2⟩ := rp
      cases r2
      exact ⟨a, b, zs, ws, rfl, rfl, h1, le b _ r1, by rw [← h2.length, ← r3.length]; exact lim_le hl, q .non _ rfl ⟨_, upd_same, h2.app r3⟩⟩
    · cases hm
theorem mth_rd {m : Mth} {r : V → List V → Hp → VK → Prop} (hi : isMut m = true) (mo : MutOk X m r) {B : Bs} {σ : L2.St} {Hb H : Hp} {env : Evn} {Q : VK} {v : V} {vs : List V} {rv : RV} {rs : List RV} (S : Stt X.K B env σ Hb H) (hn : NoFr rv) (hv : RVOk X.K B env σ Hb H v rv)
    (hs : RVsOk X.K B env σ Hb H rs vs) {R : Nat → Evn → Prop} (q : GotE (methD m rv rs env) (fun r env' => ∀ v Hb' H', Stt X.K B env' σ Hb' H' → Le Hb Hb' → Shp env env' → RVOk X.K B env' σ Hb' H' v r → Q v H') R) : r v vs H Q := by
  unfold methD at q
  rw [if_pos hi] at q
  cases rv with
  | val d => exact False.elim q
  | fr o => exact hn.elim
  | bo i =>
  obtain ⟨ds, e2, Hb2, g2, le2, sh2, S2, rp⟩ := S.imms hs (GotE.bnd q)
  cases ho : e2[i]? with
  | none => simp only [ho] at g2; exact False.elim g2
  | some t =>
  cases t with
  | un => simp only [ho] at g2; exact False.elim g2
  | im d => simp only [ho] at g2; exact False.elim g2
  | ow o =>
  simp only [ho] at g2
  cases hm : mutD m o ds with
  | none => simp only [hm] at g2; exact False.elim g2
  | some t =>
  obtain ⟨d, o'⟩ := t
  simp only [hm] at g2
  obtain ⟨a, h1, h2, h3, h4⟩ := S2.ow i o ho
  have hv' : σ[i]? = some (some v) := hv
  rw [hv'] at h1; cases h1
  refine mo Hb2 H a o o' ds d vs Q S2.sub h3 rp hm fun w u rw' ob => ?_
  exact g2 w Hb2 _ (S2.write ho hv' ob) le2 (sh2.trans (Shp.set_ow ho)) rw'
/-- what a reading method's rule asks is what mthD says -/
def RdOk (X : Cx) (m : Mth) (r : V → List V → Hp → VK → Prop) : Prop := ∀ (Hb H : Hp) (d g : D) (ds : List D) (v : V) (vs : List V) (Q : VK), Le Hb H → Vw X.K Hb H d v → RpAll X.K Hb ds vs → mthD m d ds = some g → (∀ w, Rp X.K Hb g w → Q w H) → r v vs H Q
def MthOk (X : Cx) (m : Mth) (r : V → List V → Hp → VK → Prop) : Prop := (isMut m = true ∧ MutOk X m r) ∨ (isMut m = false ∧ RdOk X m r)
theorem find_idx {p : V → Bool} : ∀ {vs : List V} {j : Nat}, vs.findIdx? p = some j → ∃ z, vs[j]? = some z ∧ p z = true ∧ ∀ (m : Nat) (z' : V), m < j → vs[m]? = some z' → p z' = false := by
  intro vs j h
  rw [List.findIdx?_eq_some_iff_getElem] at h
  obtain ⟨hl, h1, h2⟩ := h
  refine ⟨vs[j], List.getElem?_eq_getElem hl, h1, fun m z' hm hz => ?_⟩
  have hml : m < vs.length := by omega
  rw [List.getElem?_eq_getElem hml] at hz
  cases hz
  simpa using h2 m hm
theorem rd_index : RdOk X .index (rIndex X.K) := by
  intro Hb H d g ds v vs Q le hv hs hm q
  cases d with
  | lst xs =>
    rcases ds with _ | ⟨d1, _ | ⟨d2, r⟩⟩ <;> simp only [mthD] at hm <;> try cases hm
    cases h1 : flatD d1 with
    | none => simp [h1] at hm
    | some w =>
    cases h2 : flatDs xs with
    | none => simp [h1, h2] at hm
    | some ws =>
    simp only [h1, h2] at hm
    obtain ⟨j, hj, rfl⟩ := Option.map_eq_some_iff.mp hm
    obtain ⟨a, ys, rfl, k1, k2⟩ := hv
    obtain ⟨y, vs', rfl, r1, r2⟩ := hs
    cases r2
    obtain ⟨e1, f1⟩ := flat_is h1 r1
    obtain ⟨e2, f2⟩ := flats_is h2 k2
    subst e1 e2
    obtain ⟨z, z1, z2, z3⟩ := find_idx hj
    exact ⟨a, ys, y, j, z, rfl, rfl, SqL.of k1, f1, f2, z1, z2, z3, q _ rfl⟩
  | _ => simp [mthD] at hm
theorem rd_count : RdOk X .count (rCntF X.K) := by
  intro Hb H d g ds v vs Q le hv hs hm q
  cases d with
  | lst xs =>
    rcases ds with _ | ⟨d1, _ | ⟨d2, r⟩⟩ <;> simp only [mthD] at hm <;> try cases hm
    cases h1 : flatD d1 with
    | none => simp [h1] at hm
    | some w =>
    cases h2 : flatDs xs with
    | none => simp [h1, h2] at hm
    | some ws =>
    simp only [h1, h2] at hm
    cases hm
    obtain ⟨a, ys, rfl, k1, k2⟩ := hv
    obtain ⟨y, vs', rfl, r1, r2⟩ := hs
    cases r2
    obtain ⟨e1, f1⟩ := flat_is h1 r1
    obtain ⟨e2, f2⟩ := flats_is h2 k2
    subst e1 e2
    exact ⟨a, ys, y, rfl, rfl, SqL.of k1, f1, f2, q _ rfl⟩
  | _ => simp [mthD] at hm
theorem find_int {k : Int} {is : List Int} {j : Nat} (h : is.findIdx? (· == k) = some j) : is[j]? = some k ∧ ∀ m : Nat, m < j → is[m]? ≠ some k := by
  rw [List.findIdx?_eq_some_iff_getElem] at h
  obtain ⟨hl, h1, h2⟩ := h
  refine ⟨by rw [List.getElem?_eq_getElem hl]; simpa using h1, fun m hm e => ?_⟩
  have hml : m < is.length := by omega
  rw [List.getElem?_eq_getElem hml] at e
  have := h2 m hm
  simp only [Option.some.injEq] at e
  simp [e] at this
theorem mut_remove : MutOk X .remove rRemI := by
  intro Hb H a ob o' ds d vs Q le h rp hm q
  cases ob <;> simp only [mutD] at hm <;> try cases hm
  rename_i xs
  match ds, hm with
  | [.int k], hm =>
    simp only at hm
    cases hi : intsD xs with
    | none => simp [hi] at hm
    | some is =>
      simp only [hi] at hm
      obtain ⟨j, hj, e⟩ := Option.map_eq_some_iff.mp hm
      cases e
      obtain ⟨ys, h1, h2⟩ := h
      obtain ⟨y, vs', rfl, r1, r2⟩ := rp
      cases r1
      cases r2
      have e := ints_is hi h2
      subst e
      obtain ⟨k1, k2⟩ := find_int hj
      refine ⟨a, is, k, j, rfl, rfl, h1, k1, k2, q .non _ rfl ⟨_, upd_same, ?_⟩⟩
      have z := h2.erase j
      rwa [erase_mapI] at z
theorem mth_any {m : Mth} {r : V → List V → Hp → VK → Prop} (mo : MthOk X m r) {B : Bs} {σ : L2.St} {Hb H : Hp} {env : Evn} {Q : VK} {v : V} {vs : List V} {rv : RV} {rs : List RV} (S : Stt X.K B env σ Hb H) (hn : NoFr rv) (hv : RVOk X.K B env σ Hb H v rv)
    (hs : RVsOk X.K B env σ Hb H rs vs) {R : Nat → Evn → Prop} (q : GotE (methD m rv rs env) (fun r env' => ∀ v Hb' H', Stt X.K B env' σ Hb' H' → Le Hb Hb' → Shp env env' → RVOk X.K B env' σ Hb' H' v r → Q v H') R) : r v vs H Q := by
  rcases mo with ⟨hi, mo⟩ | ⟨hi, mo⟩
  · exact mth_rd hi mo S hn hv hs q
  · unfold methD at q
    rw [if_neg (by rw [hi]; exact Bool.false_ne_true)] at q
    obtain ⟨ds, e2, Hb2, g2, le2, sh2, S2, rp⟩ := S.imms hs (GotE.bnd q)
    obtain ⟨d, hd, g3⟩ := (GotE.bnd g2).opd
    obtain ⟨w, hw, g4⟩ := g3.lift
    obtain ⟨g, hg, rfl⟩ := Option.map_eq_some_iff.mp hw
    exact mo Hb2 H d g ds v vs Q S2.sub (S2.view (hv.keep hn le2) hd) rp hg fun w rw => g4 w Hb2 H S2 le2 sh2 rw
theorem few_ok (hp : allPlain (e :: es) = true) (hf : (e :: es).length < 20) : ((backTo pos (starEach (e :: es) X.env)).all (fun x => !x.1) && (backToKw pos (keywordEach [] X.env)).all (fun x => x.1.isSome) && decide ((e :: es).length + ([] : List Keyword).length + (if ([] : List Keyword).isEmpty then 0 else 1) < 30)) = true := by
  have all : ∀ (es : List Expr), allPlain es = true → (backTo pos (starEach es X.env)).all (fun x => !x.1) = true := by
    intro es
    induction es with
    | nil => intro _; rfl
    | cons e es ih =>
      intro h
      have h' : notStar e = true ∧ allPlain es = true := by simpa [allPlain] using h
      rw [starEach_plain h'.1]
      show (!false && (backTo pos (starEach es X.env)).all (fun x => !x.1)) = true
      rw [ih h'.2]
      rfl
  rw [all _ hp]
  have k : (backToKw pos (keywordEach [] X.env)).all (fun x => x.1.isSome) = true := rfl
  rw [k]
  have d : decide ((e :: es).length + ([] : List Keyword).length + (if ([] : List Keyword).isEmpty then 0 else 1) < 30) = true := by
    simp only [List.isEmpty_nil, if_true, decide_eq_true_eq, List.length_nil]; omega
  rw [d]
  rfl
/-! ### d.get -/
theorem is_dk {K : Fg} {Hb H : Hp} {ks : List Key} {ds : List D} {v : V} (h : Vw K Hb H (.dK ks ds) v) : ∃ a, v = .ref a ∧ IsD H a := by
  obtain ⟨a, xs, e, h1, _⟩ := h
  exact ⟨a, e, .inl ⟨_, .inl h1⟩⟩
theorem SE.get1 {k : Expr} {fk : Mo RV} {apos : Pos} (hcl : X.A.units + 1 < cLine) (hbase : attributeBase o "get" X.env (eval o X.env) = eval o X.env) (hline : (apos.endLine == pos.line) = true) (hn : notStar k = true) (ho : SEs X W ct o fo) (hk : SEs X W ct k fk) :
    SE X W ct (.Call (.Attribute o "get" apos) [k] [] pos) (fo.bnd fun r => (Mo.opd r).bnd fun d => match d with
    | .dK _ _ => fk.bnd fun y => (Mo.opd r).bnd fun d => (Mo.opd y).bnd fun e => Mo.lift ((get1D d e).map .val)
    | _ => fun _ => none) := by
  obtain ⟨to, po, ko⟩ := ho
  obtain ⟨tk, pk, kk⟩ := hk
  refine ⟨_, pe_getA hcl po pk ⟨hbase, few_ok (by simp [allPlain, hn]) (by simp), hline, by rw [starEach_plain hn]; rfl⟩, fun B σ Hb H env Q hX S q => ko B σ Hb H env _ hX S (q.bnd.same fun rv e1 g1 v Hb1 H1 S1 le1 sh1 nx rx => ?_)⟩
  obtain ⟨d, hd, g2⟩ := g1.bnd.opd
  cases d with
  | dK ks0 ds0 =>
    obtain ⟨a, ea, hda⟩ := is_dk (S1.view rx hd)
    subst ea
    refine ⟨a, rfl, hda, kk B σ Hb1 H1 e1 _ hX S1 (GotE.imp (GotE.bnd g2) (fun y e2 g3 w Hb2 H2 S2 le2 sh2 ny ry => ?_) fun c e h => Xw.mono (X := X) le1 h)⟩
    obtain ⟨d, hd2, g4⟩ := g3.bnd.opd
    obtain ⟨e, he, g5⟩ := g4.bnd.opd
    obtain ⟨z, hz, g6⟩ := g5.lift
    obtain ⟨z, hz, rfl⟩ := Option.map_eq_some_iff.mp hz
    have hv := S2.view (rx.keep nx le2) hd2
    have hw := S2.view ry he
    cases d with
    | dK ks ds =>
      obtain ⟨a', xs, e0, h1, hl, h2⟩ := hv
      cases e0
      simp only [get1D] at hz
      cases hk : keyD e with
      | some kk =>
        rw [hk] at hz
        cases hz
        have hw' : Rp X.K Hb2 e w := by cases e <;> first | exact hw | cases hk
        obtain rfl := key_rp hk hw'
        refine ⟨_, valV (ks.zip xs) kk, h1, .inl ⟨kk, rfl, rfl⟩, ?_⟩
        obtain ⟨r1, r2⟩ := atK_rp kk h2
        cases ha : atK ks ds kk with
        | some d =>
          rw [ha] at g6
          obtain ⟨u, hu, ru⟩ := r1 d ha
          have e : valV (ks.zip xs) kk = some u := hu
          rw [e]
          exact g6 u Hb2 H2 S2 (le1.trans le2) (sh1.trans sh2) ru
        | none =>
          rw [ha] at g6
          have e : valV (ks.zip xs) kk = none := r2 ha
          rw [e]
          exact g6 _ Hb2 H2 S2 (le1.trans le2) (sh1.trans sh2) rfl
      | none =>
        rw [hk] at hz
        cases e <;> simp only at hz <;> cases hz
        cases hw
        exact ⟨_, none, h1, .inr ⟨rfl, rfl⟩, g6 _ Hb2 H2 S2 (le1.trans le2) (sh1.trans sh2) rfl⟩
    | _ => simp [get1D] at hz
  | _ => exact False.elim g2
theorem SE.get2 {k x : Expr} {fk fx : Mo RV} {apos : Pos} (hcl : X.A.units + 1 < cLine) (hbase : attributeBase o "get" X.env (eval o X.env) = eval o X.env) (hline : (apos.endLine == pos.line) = true) (hn : notStar k = true) (hn2 : notStar x = true) (ho : SEs X W ct o fo) (hk : SEs X W ct k fk) (hx : SEs X W ct x fx) :
    SE X W ct (.Call (.Attribute o "get" apos) [k, x] [] pos) (fo.bnd fun r => (Mo.opd r).bnd fun d => match d with
    | .dK _ _ => fk.bnd fun y => fx.bnd fun z => (Mo.imm z).bnd fun g => (Mo.opd r).bnd fun d => (Mo.opd y).bnd fun e => Mo.lift ((get2D d e g).map .val)
    | _ => fun _ => none) := by
  obtain ⟨to, po, ko⟩ := ho
  obtain ⟨tk, pk, kk⟩ := hk
  obtain ⟨tx, px, kx⟩ := hx
  refine ⟨_, pe_dget2 hcl po pk px ⟨hbase, few_ok (by simp [allPlain, hn, hn2]) (by simp), hline, by rw [starEach_plain hn, starEach_plain hn2]; rfl⟩, fun B σ Hb H env Q hX S q => ko B σ Hb H env _ hX S (q.bnd.same fun rv e1 g1 v Hb1 H1 S1 le1 sh1 nx rx => ?_)⟩
  obtain ⟨d, hd, g2⟩ := g1.bnd.opd
  cases d with
  | dK ks0 ds0 =>
    obtain ⟨a, ea, hda⟩ := is_dk (S1.view rx hd)
    subst ea
    refine ⟨a, rfl, hda, kk B σ Hb1 H1 e1 _ hX S1 (GotE.imp (GotE.bnd g2) (fun y e2 g3 w Hb2 H2 S2 le2 sh2 ny ry => ?_) fun c e h => Xw.mono (X := X) le1 h)⟩
    refine kx B σ Hb2 H2 e2 _ hX S2 (GotE.imp (GotE.bnd g3) (fun z e3 g4 w3 Hb3 H3 S3 le3 sh3 nz rz => ?_) fun c e h => Xw.mono (X := X) (le1.trans le2) h)
    obtain ⟨g, e4, Hb4, g5, le4, sh4, S4, rg⟩ := S3.imm rz (GotE.bnd g4)
    obtain ⟨d, hd2, g6⟩ := (GotE.bnd g5).opd
    obtain ⟨e, he, g7⟩ := g6.bnd.opd
    obtain ⟨z, hz, g8⟩ := g7.lift
    obtain ⟨z, hz, rfl⟩ := Option.map_eq_some_iff.mp hz
    have hv := S4.view (rx.keep nx ((le2.trans le3).trans le4)) hd2
    have hw := S4.view (ry.keep ny (le3.trans le4)) he
    have leA := (le1.trans le2).trans (le3.trans le4)
    have shA := (sh1.trans sh2).trans (sh3.trans sh4)
    cases d with
    | dK ks ds =>
      obtain ⟨a', xs, e0, h1, hl, h2⟩ := hv
      cases e0
      simp only [get2D] at hz
      cases hk : keyD e with
      | some kk =>
        rw [hk] at hz
        cases hz
        have hw' : Rp X.K Hb4 e w := by cases e <;> first | exact hw | cases hk
        obtain rfl := key_rp hk hw'
        refine ⟨valV (ks.zip xs) kk, DGet.k h1, ?_⟩
        obtain ⟨r1, r2⟩ := atK_rp kk h2
        cases ha : atK ks ds kk with
        | some d =>
          rw [ha] at g8
          obtain ⟨u, hu, ru⟩ := r1 d ha
          have e : valV (ks.zip xs) kk = some u := hu
          rw [e]
          exact g8 u Hb4 H3 S4 leA shA ru
        | none =>
          rw [ha] at g8
          have e : valV (ks.zip xs) kk = none := r2 ha
          rw [e]
          exact g8 _ Hb4 H3 S4 leA shA rg
      | none =>
        rw [hk] at hz
        cases hz
    | _ => simp [get2D] at hz
  | _ => exact False.elim g2
theorem SE.meth {m : Mth} {name : Str} {id : String} {r : V → List V → Hp → VK → Prop} {apos : Pos} (slot : Slot "list" name id) (hty : typeOf (.builtin id) = pure (.type "method_descriptor")) (hm : MtR X id r) (mo : MthOk X m r)
    (hbase : attributeBase o name X.env (eval o X.env) = eval o X.env) (hline : (apos.endLine == pos.line) = true) (hp : allPlain (e :: es) = true) (hf : (e :: es).length < 20) (ho : SEs X W ct o fo) (h : SA X W ct (e :: es) fs) :
    SE X W ct (.Call (.Attribute o name apos) (e :: es) [] pos) (fo.bnd fun r => (Mo.opd r).bnd fun d => match d with
      | .lst _ => fs.bnd fun rs => methD m r rs
      | _ => fun _ => none) := by
  obtain ⟨to, po, ko⟩ := ho
  obtain ⟨ts, ps, ks⟩ := h
  have h' : notStar e = true ∧ allPlain es = true := by simpa [allPlain] using hp
  have few := few_ok (X := X) (pos := pos) hp hf
  refine ⟨_, pe_bm PySem.F.plainAttrs_list slot hty hm po ps hbase few hline (starEach_plain h'.1) (backTo_plain h'.2), fun B σ Hb H env Q hX S q => ko B σ Hb H env _ hX S (q.bnd.same fun rv e1 g1 v Hb1 H1 S1 le1 sh1 nx rx => ?_)⟩
  obtain ⟨d, hd, g2⟩ := g1.bnd.opd
  have hv := S1.view rx hd
  cases d with
  | lst ds =>
    obtain ⟨a, xs, e0, h1, h2⟩ := hv
    refine ⟨by rw [e0]; exact .inl ⟨rfl, xs, SqL.of h1⟩, ?_⟩
    refine ks B σ Hb1 H1 e1 _ hX S1 (GotE.imp (GotE.bnd g2) (fun rs e2 g3 vs Hb2 H2 S2 le2 sh2 rs' => ?_) fun c e h => Xw.mono (X := X) le1 h)
    exact mth_any mo S2 nx (rx.keep nx le2) rs' (g3.same fun r e3 g4 v Hb3 H3 S3 le3 sh3 rv => g4 v Hb3 H3 S3 ((le1.trans le2).trans le3) ((sh1.trans sh2).trans sh3) rv)
  | _ => exact False.elim g2
theorem SE.meth0 {m : Mth} {name : Str} {id : String} {r : V → List V → Hp → VK → Prop} {apos : Pos} (slot : Slot "list" name id) (hty : typeOf (.builtin id) = pure (.type "method_descriptor")) (hm : MtR X id r) (mo : MthOk X m r)
    (hbase : attributeBase o name X.env (eval o X.env) = eval o X.env) (hline : (apos.endLine == pos.line) = true) (ho : SEs X W ct o fo) :
    SE X W ct (.Call (.Attribute o name apos) [] [] pos) (fo.bnd fun r => (Mo.opd r).bnd fun d => match d with
      | .lst _ => (Mo.ret []).bnd fun rs => methD m r rs
      | _ => fun _ => none) := by
  obtain ⟨to, po, ko⟩ := ho
  refine ⟨_, pe_bm0 PySem.F.plainAttrs_list slot hty hm po hbase hline, fun B σ Hb H env Q hX S q => ko B σ Hb H env _ hX S (q.bnd.same fun rv e1 g1 v Hb1 H1 S1 le1 sh1 nx rx => ?_)⟩
  obtain ⟨d, hd, g2⟩ := g1.bnd.opd
  have hv := S1.view rx hd
  cases d with
  | lst ds =>
    obtain ⟨a, xs, e0, h1, h2⟩ := hv
    refine ⟨by rw [e0]; exact .inl ⟨rfl, xs, SqL.of h1⟩, ?_⟩
    have g3 := GotE.bnd g2
    exact mth_any mo S1 nx rx (rs := []) (vs := []) rfl (GotE.same g3 fun r e3 g4 v Hb3 H3 S3 le3 sh3 rv => g4 v Hb3 H3 S3 (le1.trans le3) (sh1.trans sh3) rv)
  | _ => exact False.elim g2
/-! ### isinstance -/
def tyN : D → String
  | .non => "NoneType"
  | .bl _ => "bool"
  | .int _ => "int"
  | .str _ => "str"
  | .lst _ => "list"
  | .tup _ => "tuple"
  | .frz _ => "list"
  | .dK _ _ => "dict"
  | .dT _ _ => "dict"
  | .exc _ => ""
def tycN : Tyc → String
  | .int => "int"
  | .bool => "bool"
  | .str => "str"
  | .list => "list"
  | .tuple => "tuple"
  | .dict => "dict"
  | .cls _ => ""
theorem kit_of_ty {K : Fg} {d : D} {t : Tyc} {b : Bool} (h : tyD d t = some b) : PySem.W.kitOne K (.type (tyN d)) (.type (tycN t)) = some b := by
  cases d <;> cases t <;> simp only [tyD] at h <;> cases h <;> rfl
theorem kits_of_ty {K : Fg} {d : D} : ∀ {ts : List Tyc} {b : Bool}, tysD d ts = some b → PySem.W.kitAny K (.type (tyN d)) (ts.map fun t => Value.type (tycN t)) = some b
  | [], _, h => by cases h; rfl
  | t :: ts, b, h => by
    unfold tysD at h
    split at h
    · rename_i x y h1 h2
      cases h
      show (match PySem.W.kitOne K (.type (tyN d)) (.type (tycN t)) with
        | some true => some true
        | some false => PySem.W.kitAny K (.type (tyN d)) (ts.map fun t => Value.type (tycN t))
        | none => none) = _
      rw [kit_of_ty h1]
      cases x with
      | true => rfl
      | false => simpa using kits_of_ty h2
    · cases h
theorem ty_of_vw {K : Fg} {Hb H : Hp} {d : D} {v : V} (le : Le Hb H) (hf : (∀ ds, d ≠ .frz ds) ∧ ∀ c, d ≠ .exc c) (h : Vw K Hb H d v) : TyX K H v (.type (tyN d)) := by
  cases d with
  | non => cases h; exact .base .non
  | bl b => cases h; exact .base (.bl b)
  | int b => cases h; exact .base (.int b)
  | str b => cases h; exact .base (.str b)
  | lst ds => obtain ⟨a, xs, rfl, h1, _⟩ := h; exact .base (.lst h1)
  | tup ds =>
    obtain ⟨a, xs, rfl, h1, _⟩ := h
    rcases le.sqt h1 with (h1 | ⟨o, h1⟩) | ⟨o, its, n, h1, h2, _⟩
    · exact .base (.tup h1)
    · exact .fTuple h1
    · exact .kTuple h1 h2
  | frz ds => exact (hf.1 ds rfl).elim
  | exc c => exact (hf.2 c rfl).elim
  | dK ks ds => obtain ⟨a, xs, rfl, h1, _⟩ := h; exact .base (.dK h1)
  | dT ks ds => obtain ⟨a, xs, rfl, h1, _⟩ := h; exact .base (.dT h1)
/-- a class's name -/
theorem tyc_pe {S : Sc} {t : Tyc} (hg : ∀ x, S.bl x = true → Gl X x ∧ X.mg x = none) (h : tycOf S e = some t) : PE X e (tC (.ty (tycN t))) ∧ notStar e = true ∧ isTup e = false := by
  cases e <;> simp only [tycOf] at h <;> try cases h
  rename_i x p
  rcases ite_or h with ⟨hb, h⟩ | ⟨_, h⟩
  · obtain ⟨g, m⟩ := hg x hb
    refine ⟨?_, rfl, rfl⟩
    rcases ite_or h with ⟨e, h⟩ | ⟨_, h⟩
    · cases h; subst e; exact pe_bltn g m boot_int rfl
    rcases ite_or h with ⟨e, h⟩ | ⟨_, h⟩
    · cases h; subst e; exact pe_bltn g m boot_bool rfl
    rcases ite_or h with ⟨e, h⟩ | ⟨_, h⟩
    · cases h; subst e; exact pe_bltn g m boot_str rfl
    rcases ite_or h with ⟨e, h⟩ | ⟨_, h⟩
    · cases h; subst e; exact pe_bltn g m boot_list rfl
    rcases ite_or h with ⟨e, h⟩ | ⟨_, h⟩
    · cases h; subst e; exact pe_bltn g m boot_tuple rfl
    rcases ite_or h with ⟨e, h⟩ | ⟨_, h⟩
    · cases h; subst e; exact pe_bltn g m boot_dict rfl
    · cases h
  · cases h
theorem tycs_pa {S : Sc} (hg : ∀ x, S.bl x = true → Gl X x ∧ X.mg x = none) : ∀ {es : List Expr} {ts : List Tyc}, tycsOf S es = some ts → PA X es (fun _ H Q => Q (ts.map fun t => V.ty (tycN t)) H) ∧ ts.length = es.length
  | [], ts, h => by cases h; exact ⟨pa_nil, rfl⟩
  | e :: es, ts, h => by
    unfold tycsOf at h
    split at h
    · rename_i t ts' h1 h2
      cases h
      obtain ⟨p1, p2, _⟩ := tyc_pe hg h1
      obtain ⟨p3, p4⟩ := tycs_pa hg h2
      exact ⟨pa_cons p1 p3 (starEach_plain p2), by simp [p4]⟩
    · cases h
theorem clsv_all : ∀ ts : List Tyc, Paired ClsV (ts.map fun t => V.ty (tycN t)) (ts.map fun t => Value.type (tycN t))
  | [] => .nil
  | t :: ts => .cons (.ty _) (clsv_all ts)
theorem tys_nofrz {d : D} {ts : List Tyc} {b : Bool} (h : tysD d ts = some b) (ht : ts ≠ []) : (∀ ds, d ≠ .frz ds) ∧ ∀ c, d ≠ .exc c := by
  refine ⟨?_, ?_⟩ <;> intro ds z <;> subst z
  all_goals
    cases ts with
    | nil => exact ht rfl
    | cons t ts =>
      unfold tysD at h
      split at h
      · rename_i x y h1 h2
        cases t <;> simp [tyD] at h1
      · cases h
theorem SE.isi {S : Sc} {t : Expr} {ts : List Tyc} (hg : ∀ x, S.bl x = true → Gl X x ∧ X.mg x = none) (hb : S.bl "isinstance" = true) (ht : tysArg S t = some ts) (hne : ts ≠ []) (hlen : ts.length ≤ 1000) (hn : notStar e = true) (h : SEs X W ct e fe) :
    SE X W ct (.Call (.Name "isinstance" p) [e, t] [] pos) (fe.bnd fun x => (Mo.opd x).bnd fun d => Mo.lift ((tysD d ts).map fun b => .val (.bl b))) := by
  obtain ⟨te, pe, ke⟩ := h
  obtain ⟨g0, m0⟩ := hg _ hb
  have one : ∀ {t1 : Tyc}, ts = [t1] → PE X t (tC (.ty (tycN t1))) → notStar t = true → SE X W ct (.Call (.Name "isinstance" p) [e, t] [] pos) (fe.bnd fun x => (Mo.opd x).bnd fun d => Mo.lift ((tysD d ts).map fun b => .val (.bl b))) := fun {t1} ets pt nt => by
    refine ⟨_, pe_callB call_isi g0 m0 PyProof.Rows.boot_isinstance (pa_cons pe (pa_cons pt pa_nil (starEach_plain nt)) (starEach_plain hn)) (by decide) (by decide) (starEach_plain hn) (backTo_plain (by simp [allPlain, nt])),
      fun B σ Hb H env Q hX S q => ke B σ Hb H env _ hX S (q.bnd.same fun x e1 g1 v Hb1 H1 S1 le1 sh1 nx rx => ?_)⟩
    obtain ⟨d, hd, g2⟩ := g1.bnd.opd
    obtain ⟨w, hw, g3⟩ := g2.lift
    obtain ⟨b', hb', rfl⟩ := Option.map_eq_some_iff.mp hw
    have k := kits_of_ty (K := X.K) hb'
    have z : tyD d t1 = some b' := by
      subst ets
      unfold tysD at hb'
      split at hb'
      · rename_i x y h1 h2
        cases hb'
        cases h2
        simpa using h1
      · cases hb'
    exact ⟨v, _, _, _, b', rfl, .ty _, ty_of_vw S1.sub (tys_nofrz hb' hne) (S1.view rx hd), kit_of_ty z, g3 _ Hb1 H1 S1 le1 sh1 rfl⟩
  have name : (tycOf S t).map ([·]) = some ts → SE X W ct (.Call (.Name "isinstance" p) [e, t] [] pos) (fe.bnd fun x => (Mo.opd x).bnd fun d => Mo.lift ((tysD d ts).map fun b => .val (.bl b))) := fun h => by
    obtain ⟨t1, h1, rfl⟩ := Option.map_eq_some_iff.mp h
    obtain ⟨p1, p2, _⟩ := tyc_pe hg h1
    exact one rfl p1 p2
  cases t with
  | Tuple cs k p3 =>
    obtain ⟨pa, pl⟩ := tycs_pa hg (show tycsOf S cs = some ts from ht)
    refine ⟨_, pe_callB call_isiT g0 m0 PyProof.Rows.boot_isinstance (pa_cons pe (pa_cons (pe_tup (x1 := k) pa) pa_nil rfl) (starEach_plain hn)) (by decide) (by decide) (starEach_plain hn) (backTo_plain rfl),
      fun B σ Hb H env Q hX S q => ke B σ Hb H env _ hX S (q.bnd.same fun x e1 g1 v Hb1 H1 S1 le1 sh1 nx rx => ?_)⟩
    obtain ⟨d, hd, g2⟩ := g1.bnd.opd
    obtain ⟨w, hw, g3⟩ := g2.lift
    obtain ⟨b', hb', rfl⟩ := Option.map_eq_some_iff.mp hw
    refine ⟨by rw [List.length_map]; exact Nat.le_trans hlen (by decide), fun q0 hq => ?_⟩
    have S2 := S1.newH (u := .tup (ts.map fun t => V.ty (tycN t))) hq
    exact ⟨v, q0, _, _, _, b', rfl, upd_same, clsv_all ts, ty_of_vw S2.sub (tys_nofrz hb' hne) (S2.view (rx.keep nx (Le.refl _)) hd), kits_of_ty hb', g3 _ Hb1 _ S2 le1 sh1 rfl⟩
  | _ => exact name ht
end
end HB

set_option Elab.async false
set_option linter.all false
set_option maxRecDepth 100000
set_option maxHeartbeats 2000000
/-! HBEnT: enumerate over a list or a tuple. -/
namespace HB
open PySem PySem.Spec PyProof.Rows L2
open AutoSeq1 (wpAny_loadPart')

theorem meets_enumerate_newT (l : Addr) (items : Array Value) (n : Nat) (dct : Option Addr) (sl : Array (Option Value)) :
    Meets (Builtin.«enumerate.__new__» ⟨[.type "enumerate", .ref l], []⟩) (fun _ R s => s.heap.get? l = some { cls := .type "tuple", dict := dct, data := .seq items n, slots := sl } ∧
      R (.ok (.ret (.ref (s.heap.push { cls := .type "tuple_iterator", data := .fields #[.ref l, .int 0 0] }).objs.size)))
        { s with heap := (s.heap.push { cls := .type "tuple_iterator", data := .fields #[.ref l, .int 0 0] }).push { cls := .type "enumerate", data := .fields #[.none, .bool false, .ref s.heap.objs.size, rawInt 0, .none, .none] } }) :=
  .of_wp fun prog w A R s h => by
    obtain ⟨hp, g, d, tk, os⟩ := s; obtain ⟨hl, h⟩ := h
    have hsub := sub_enumerate
    have hL : Heap.IsTuple (Shared.heap ⟨hp, g, d, tk, os⟩) l items := ⟨_, hl, rfl, n, rfl⟩
    wp_walk using wpAny_loadPart' hl
    refine wpAny_stack_any fun st => wpAny_pure ?_
    split
    · rename_i c _ _ _ _ _
      cases (c == Value.type "enumerate")
      · wp_walk using wpAny_loadPart' hl, wpAny_pyIter_tuple hL
        exact ⟨_, rfl, h⟩
      · wp_walk using wpAny_loadPart' hl, wpAny_pyIter_tuple hL
        exact ⟨_, rfl, h⟩
    · wp_walk using wpAny_loadPart' hl, wpAny_pyIter_tuple hL
      exact ⟨_, rfl, h⟩
section
variable {prog : Program} {w : World} {A : Around} {E : Value → Shared → Prop} {s : Shared}
theorem call_enumerate_tuple {l : Addr} {items : Array Value} {Q : Value → Shared → Prop} (hL : s.heap.IsTuple l items)
    (h : ∀ h', IsEnum h' (s.heap.objs.size + 1) s.heap.objs.size 0 .none → h'.IsTupleIter s.heap.objs.size l 0 → h'.objs.size = s.heap.objs.size + 2 →
      (∀ b o, s.heap.get? b = some o → h'.get? b = some o) → Q (.ref (s.heap.objs.size + 1)) { s with heap := h' }) :
    wpAny (model prog w) A (call (.type "enumerate") [.ref l]) Q E s := by
  obtain ⟨⟨c, dct, dt, sl⟩, hl, hc, n, hd⟩ := hL
  replace hc : c = .type "tuple" := hc
  replace hd : dt = .seq items n := hd
  subst hc hd
  refine callType_new F.called_enumerate (by decide) (F.typeCall_enumerate_1 _) (F.newCall_enumerate_1 _) (fun obj => F.args_object_init_2 obj _) F.entry_enumerate_new
    (meets_enumerate_newT l items n dct sl) ⟨hl, ?_⟩
  have hz : (s.heap.push { cls := .type "tuple_iterator", data := .fields #[.ref l, .int 0 0] }).objs.size = s.heap.objs.size + 1 := Heap.size_push ..
  show _ ∧ _
  rw [hz]
  have he : IsEnum ((s.heap.push { cls := .type "tuple_iterator", data := .fields #[.ref l, .int 0 0] }).push
      { cls := .type "enumerate", data := .fields #[.none, .bool false, .ref s.heap.objs.size, rawInt 0, .none, .none] }) (s.heap.objs.size + 1) s.heap.objs.size 0 .none := by
    have := Heap.get?_push_size (s.heap.push { cls := .type "tuple_iterator", data := .fields #[.ref l, .int 0 0] })
      (o := { cls := .type "enumerate", data := .fields #[.none, .bool false, .ref s.heap.objs.size, rawInt 0, .none, .none] }) rfl
    rw [hz] at this; exact this
  refine ⟨⟨_, he, rfl⟩, h _ he ⟨_, Heap.get?_push_of_some _ (Heap.get?_push_size _ rfl), rfl, rfl⟩ (by rw [Heap.size_push, hz]) fun b o x => Heap.get?_push_of_some _ (Heap.get?_push_of_some _ x)⟩
end
/-- the tuple at a, each item in a new pair -/
def Iet (K : PySem.W.Frag) (a : Addr) : It :=
  ⟨fun i H => ∃ (xs : List V) (x : V), SqT K H a xs ∧ xs[i]? = some x, fun i H v H' => ∃ T x, v = .ref T ∧ H T = none ∧ H' = upd H T (.tup [.int (i : Nat), x]) ∧ ∀ xs, SqT K H a xs → xs[i]? = some x, fun i H => ∃ xs : List V, SqT K H a xs ∧ xs.length ≤ i⟩
theorem turn_enumT {P : Program} {w : World} {K : PySem.W.Frag} {elts : List Expr} {kk : Nat} {tpos : Pos} (a e it : Addr) :
    Turn P w K (.Tuple elts kk tpos) (Iet K a) [e, it] e (fun i h => (∃ old, IsEnum h e it ((i : Nat) : Int) old) ∧ h.IsTupleIter it a i ∧ e ≠ it) where
  mem := by simp
  obj := fun i h st b hb => by
    obtain ⟨⟨old, he⟩, ⟨o, ho, hc, hd⟩, _⟩ := st
    have e' : b = e ∨ b = it := by simpa using hb
    rcases e' with z | z
    · rw [z]; exact ⟨_, he, fun v q => nomatch q⟩
    · rw [z]; exact ⟨o, ho, fun v q => by rw [hd] at q; cases q⟩
  keep := fun i h h' st k => let ⟨⟨old, he⟩, hi, hne⟩ := st; ⟨⟨old, k e (by simp) _ he⟩, hi.at fun o q => k it (by simp) o q, hne⟩
  item := by
    intro X hP hw hK hc i pins s σ H E I hf st hg
    subst hP hw hK
    obtain ⟨⟨old, he⟩, hit, hne⟩ := st
    obtain ⟨xs, x, hq, hx⟩ := hg
    obtain ⟨its, rv, p, hz⟩ := I.tuple hq
    obtain ⟨u, hu, ru⟩ := rv.get hx
    have hel : e < s.heap.objs.size := Heap.lt_size he
    have hil : it < s.heap.objs.size := by obtain ⟨_, q, _⟩ := hit; exact Heap.lt_size q
    have pt : s.heap.IsTuple a its.toArray := p
    have hai : a ≠ it := fun z => by
      obtain ⟨o1, h1, c1, _⟩ := pt
      obtain ⟨o2, h2, c2, _⟩ := hit
      rw [z, h2] at h1; cases h1
      rw [c1] at c2
      exact absurd c2 (by decide)
    have hae : e ≠ a := fun z => by
      obtain ⟨o1, h1, c1, _⟩ := pt
      rw [← z, show s.heap.get? e = _ from he] at h1; cases h1
      have c1 : (Value.type "enumerate") = .type "tuple" := c1
      injection c1 with c1
      exact absurd c1 (by decide)
    refine wpAny_pyNext_enum_itemC (Draws.tuple (show X.A.in1.handled = none from I.ok.hd hc) it a hai its.toArray) he ⟨hit, pt⟩ (n := its.toArray.size) (i := i) (by have := lt_of_get hu; simpa using this) hne (by simp [hne, hae]) fun u' h' tk hP ho hit' hT hsz hk => ?_
    have eu : u' = u := by
      have : its.toArray[i]? = some u' := hP
      have h2 : its.toArray[i]? = some u := by simpa using hu
      rw [h2] at this
      exact (Option.some.inj this).symm
    subst eu
    refine ⟨_, rfl, wpAny_letOwnedTupleGo_enum (s := { s with heap := h', toks := tk + 1 }) ho fun h'' he' sb => ?_⟩
    have hT2 : h''.get? s.heap.objs.size = some { cls := .type "tuple", data := .seq #[.int i tk, u'] } := (sb.2 _ (Nat.ne_of_gt hel)).trans hT
    have new : ObjOk X.prog X.w (upd H s.heap.objs.size (.tup [.int (i : Nat), x])) h'' s.heap.objs.size (.tup [.int (i : Nat), x]) :=
      ⟨by show 2 ≤ sizeLine; decide, [.int i tk, u'], .cons ⟨_, rfl⟩ (.cons ru .nil), ⟨_, hT2, rfl, _, rfl⟩⟩
    have I1 : Inv X pins σ (upd H s.heap.objs.size (.tup [.int (i : Nat), x])) { s with heap := h'', toks := tk + 1 } :=
      I.turnedNew (ch := [e, it]) (fun b ob hb q => (sb.2 b (fun z => hb (by simp [z]))).trans (hk b ob (fun z => hb (by simp [z])) (fun z => hb (by simp [z])) q)) hf (Nat.le_refl _) new
    refine ⟨.ref s.heap.objs.size, _, I1, rfl, ⟨_, x, rfl, I.hok.fresh (Nat.le_refl _), rfl, fun ys hy => by rw [I.tuple_inj hy hq]; exact hx⟩, ⟨⟨u', ?_⟩, hit'.1.at fun o q => (sb.2 it (Ne.symm hne)).trans q, hne⟩, fun b hb => ?_⟩
    · have e1 : ((i + 1 : Nat) : Int) = (i : Int) + 1 := by omega
      rw [e1]; exact he'
    · have hb' : b < s.heap.objs.size := by
        have e' : b = e ∨ b = it := by simpa using hb
        rcases e' with z | z
        · rw [z]; exact hel
        · rw [z]; exact hil
      rw [upd_ne (Nat.ne_of_lt hb')]
      exact (hf b hb).1
  done := by
    intro X hP hw hK hc i pins s σ H E I hf st hg
    subst hP hw hK
    obtain ⟨⟨old, he⟩, hit, hne⟩ := st
    obtain ⟨xs, hq, hx⟩ := hg
    obtain ⟨its, rv, p, hz⟩ := I.tuple hq
    obtain ⟨f0, f1, f2, f3, f4, f5⟩ := hf it (by simp)
    have hl := rv.length
    have pt : s.heap.IsTuple a its.toArray := p
    have hT : s.TypeIs (.ref e) "enumerate" := ⟨_, he, rfl⟩
    unfold pyNext
    refine wpAny_bind (wpAny_attempt (wpAny_callSpecial?_slot (name := Str.ofString "__next__") hT F.slot_enumerate_next
      (wpAny_call_entry F.slot_enumerate_next hT F.entry_enumerate_next ?_ (F.args_enumerate_next_1 _))))
    show wpAny _ _ (field (.ref e) 2 >>= _) _ _ _
    refine wpAny_bind (wpAny_field he rfl (x := .ref it) rfl ?_)
    refine wpAny_bind (wpAny_nextOf_tuple_end (show X.A.in1.handled = none from I.ok.hd hc) hit pt (by simp; omega) fun h' x eb hx' => ?_)
    obtain ⟨o, ho, hc'⟩ := hx'
    refine wpAny_bind (wpAny_isInstance (T := "StopIteration") (b := true) ⟨o, ho, hc'⟩ isSubtype_stop ?_)
    exact wpAny_pure ⟨rfl, I.turned (t' := s.toks) (fun b o hb q => eb b o hb q) f0 f1 f3 f4 f5⟩
  self := fun A i s Q E st h => let ⟨⟨_, he⟩, _⟩ := st; wpAny_pyIter_enum he h
def iEnumA (K : PySem.W.Frag) (ta : TA) : TI := fun σ H R => ta σ H fun vs H1 => ∃ a, vs = [.ref a] ∧ ((∃ xs, SqL K H1 a xs ∧ R (Ite K a) H1) ∨ ∃ xs, SqT K H1 a xs ∧ R (Iet K a) H1)
theorem pi_enumA {X : Cx} {e : Expr} {ta : TA} {p pos tpos : Pos} {elts : List Expr} {kk : Nat} (hg : Gl X "enumerate") (hm : X.mg "enumerate" = none) (ha : PA X [e] ta) (hs : starEach [e] X.env = [(false, eval e X.env)] := by rfl) :
    PI X (.Tuple elts kk tpos) (.Call (.Name "enumerate" p) [e] [] pos) (iEnumA X.K ta) := by
  refine ⟨fun pins s σ H R I h => ?_⟩
  refine Call_ (ld_blt I hg hm boot_enumerate (PyProof.Rows.callWith_type1 (thn (ha.run pos pins s σ H _ I h) fun us s1 ⟨vs, H1, I1, r1, q1⟩ => ?_) hs rfl))
  obtain ⟨a, ex, q⟩ := q1
  subst ex
  cases r1 with
  | cons r rr =>
    cases rr
    cases r
    have fp : ∀ b ∈ [s1.heap.objs.size + 1, s1.heap.objs.size], FpOk X pins H1 b := fun b hb => by
      have e' : b = s1.heap.objs.size + 1 ∨ b = s1.heap.objs.size := by simpa using hb
      have hle : s1.heap.objs.size ≤ b := by
        rcases e' with z | z
        · rw [z]; exact Nat.le_add_right _ _
        · rw [z]; exact Nat.le_refl _
      exact I1.fpOk hle (I1.hok.fresh hle)
    rcases q with ⟨xs, hq, q⟩ | ⟨xs, hq, q⟩
    · obtain ⟨its, rv, p', hz⟩ := I1.list hq
      refine call_enumerate_list p'.isList fun h' he hit hsz hk => wpAny_pyIter_enum he ?_
      have I2 : Inv X pins σ H1 { s1 with heap := h' } := I1.kept (t' := s1.toks) hk
      exact ⟨s1.heap.objs.size + 1, [s1.heap.objs.size + 1, s1.heap.objs.size], _, _, H1, rfl, I2, turn_enum a (s1.heap.objs.size + 1) s1.heap.objs.size, ⟨⟨.none, he⟩, hit, Nat.succ_ne_self _⟩, fp, q⟩
    · obtain ⟨its, rv, p', hz⟩ := I1.tuple hq
      have pt : s1.heap.IsTuple a its.toArray := p'
      refine call_enumerate_tuple pt fun h' he hit hsz hk => wpAny_pyIter_enum he ?_
      have I2 : Inv X pins σ H1 { s1 with heap := h' } := I1.kept (t' := s1.toks) hk
      exact ⟨s1.heap.objs.size + 1, [s1.heap.objs.size + 1, s1.heap.objs.size], _, _, H1, rfl, I2, turn_enumT a (s1.heap.objs.size + 1) s1.heap.objs.size, ⟨⟨.none, he⟩, hit, Nat.succ_ne_self _⟩, fp, q⟩
end HB

set_option Elab.async false
set_option linter.all false
set_option maxRecDepth 100000
set_option maxHeartbeats 2000000
/-! HBSnd8: targets, what is walked, comprehensions. -/
namespace HB
open PySem PySem.Spec PyProof.Rows L2

/-! ### targets -/
def gAll : List Nat → TGs
  | [] => gNil
  | i :: is => gCons (gName i) (gAll is)
def tgG (K : Fg) : List Nat → TG
  | [i] => gName i
  | is => gTup K is.length (gAll is)
section
variable {K : Fg} {B : Bs} {env : Evn} {σ : L2.St} {Hb H : Hp}
theorem Stt.store (S : Stt K B env σ Hb H) {i : Nat} {d : D} {v : V} (hf : ∀ a c, B.fx ≠ some (i, a, c)) (hl : i < env.length) (h : Rp K Hb d v) : Stt K B (env.set i (.im d)) (σ.set i (some v)) Hb H where
  len := by rw [List.length_set, List.length_set]; exact S.len
  sub := S.sub
  im := fun j e q => by
    by_cases hij : i = j
    · subst hij
      rw [get_set_eq hl] at q; cases q
      exact ⟨v, List.getElem?_set_self (by rw [S.len]; exact hl), h⟩
    · rw [get_set_ne hij] at q
      rw [List.getElem?_set_ne hij]
      exact S.im j e q
  ow := fun j o q => by
    by_cases hij : i = j
    · subst hij; rw [get_set_eq hl] at q; cases q
    · rw [get_set_ne hij] at q
      rw [List.getElem?_set_ne hij]
      exact S.ow j o q
  inj := fun j k o o' a q q' z z' => by
    by_cases hij : i = j
    · subst hij; rw [get_set_eq hl] at q; cases q
    · by_cases hik : i = k
      · subst hik; rw [get_set_eq hl] at q'; cases q'
      · rw [get_set_ne hij] at q; rw [get_set_ne hik] at q'
        rw [List.getElem?_set_ne hij] at z; rw [List.getElem?_set_ne hik] at z'
        exact S.inj j k o o' a q q' z z'
  exb := S.exb
  keep := S.keep
  frs := S.frs
  iot := S.iot
  fx := fun j a c e => by
    have ne : i ≠ j := fun z => hf a c (by rw [z]; exact e)
    rw [List.getElem?_set_ne ne, List.getElem?_set_ne ne]
    exact S.fx j a c e
theorem wipe_set {i : Nat} {v : Option V} : ∀ {own : List Nat}, i ∈ own → wipe (σ.set i v) own = wipe σ own
  | j :: js, h => by
    unfold wipe
    by_cases hj : j = i
    · subst hj
      apply List.ext_getElem?
      intro m
      by_cases hm : j = m
      · subst hm
        by_cases hl : j < σ.length
        · rw [List.getElem?_set_self (by rw [wipe_length, List.length_set]; exact hl), List.getElem?_set_self (by rw [wipe_length]; exact hl)]
        · rw [List.getElem?_eq_none (by rw [List.length_set, wipe_length, List.length_set]; omega), List.getElem?_eq_none (by rw [List.length_set, wipe_length]; omega)]
      · rw [List.getElem?_set_ne hm, List.getElem?_set_ne hm]
        by_cases hin : j ∈ js
        · rw [wipe_set hin]
        · have : ∀ (σ : L2.St) (js : List Nat), wipe (σ.set j v) js = (wipe σ js) ∨ (wipe (σ.set j v) js)[m]? = (wipe σ js)[m]? := fun σ js => .inr (by
            induction js with
            | nil => exact List.getElem?_set_ne hm
            | cons k ks ih =>
              unfold wipe
              by_cases hk : k = m
              · subst hk
                by_cases hl : k < σ.length
                · rw [List.getElem?_set_self (by rw [wipe_length, List.length_set]; exact hl), List.getElem?_set_self (by rw [wipe_length]; exact hl)]
                · rw [List.getElem?_eq_none (by rw [List.length_set, wipe_length, List.length_set]; omega), List.getElem?_eq_none (by rw [List.length_set, wipe_length]; omega)]
              · rw [List.getElem?_set_ne hk, List.getElem?_set_ne hk]; exact ih)
          rcases this σ js with e | e
          · rw [e]
          · exact e
    · have hin : i ∈ js := by
        rcases List.mem_cons.mp h with e | h
        · exact absurd e.symm hj
        · exact h
      rw [wipe_set hin]
theorem wipe_get_in {i : Nat} : ∀ {own : List Nat}, i ∈ own → (wipe σ own)[i]? = if i < σ.length then some none else none
  | j :: js, h => by
    unfold wipe
    by_cases hj : j = i
    · subst hj
      by_cases hl : j < σ.length
      · rw [List.getElem?_set_self (by rw [wipe_length]; exact hl), if_pos hl]
      · rw [List.getElem?_eq_none (by rw [List.length_set, wipe_length]; omega), if_neg hl]
    · rw [List.getElem?_set_ne hj]
      rcases List.mem_cons.mp h with e | h
      · exact absurd e.symm hj
      · exact wipe_get_in h
theorem wipe_wipe (own : List Nat) : wipe (wipe σ own) own = wipe σ own := by
  apply List.ext_getElem?
  intro i
  by_cases h : i ∈ own
  · rw [wipe_get_in h, wipe_get_in h, wipe_length]
  · rw [wipe_get h]
theorem Shp.unown (own : List Nat) : Shp env (unown own env) := fun i o e => by
  rcases unown_get e with ⟨z, _⟩ | ⟨_, e⟩
  · cases z
  · exact ⟨o, e⟩
theorem gAll_rd {B : Bs} (hx : B.fx = none) {Q : L2.St → Hp → Prop} : ∀ {is : List Nat} {ds : List D} {vs : List V} {env : Evn} {σ : L2.St}, Stt K B env σ Hb H → RpAll K Hb ds vs → ds.length = is.length → (∀ i ∈ is, i < env.length) →
    (∀ σ', Stt K B ((is.zip ds).foldl (fun e p => e.set p.1 (.im p.2)) env) σ' Hb H → Shp env ((is.zip ds).foldl (fun e p => e.set p.1 (.im p.2)) env) → (∀ own, (∀ i ∈ is, i ∈ own) → wipe σ' own = wipe σ own) → Q σ' H) → gAll is vs σ H Q
  | [], ds, vs, env, σ, S, rp, hl, _, q => by
    have e : ds = [] := List.length_eq_zero_iff.mp hl
    subst e
    cases rp
    exact ⟨rfl, q σ S (Shp.refl _) fun _ _ => rfl⟩
  | i :: is, [], _, _, _, _, _, hl, _, _ => by simp at hl
  | i :: is, d :: ds, vs, env, σ, S, ⟨v, vs', e, r1, r2⟩, hl, hi, q => by
    subst e
    have h0 := hi i List.mem_cons_self
    refine ⟨v, vs', rfl, ?_⟩
    refine gAll_rd hx (S.store (nofx hx) h0 r1) r2 (by simpa using hl) (fun j hj => by rw [List.length_set]; exact hi j (List.mem_cons_of_mem _ hj)) fun σ' S' sh w => ?_
    refine q σ' S' ((Shp.set_im i d).trans sh) fun own ho => ?_
    rw [w own fun j hj => ho j (List.mem_cons_of_mem _ hj), wipe_set (ho i List.mem_cons_self)]
theorem bindT_tup {t : List Nat} {d : D} {env env' : Evn} (hn : ¬ ∃ i, t = [i]) (hb : bindT t d env = some env') : ∃ ds, d = .tup ds ∧ ds.length = t.length ∧ (∀ i ∈ t, i < env.length) ∧ env' = (t.zip ds).foldl (fun e p => e.set p.1 (.im p.2)) env := by
  unfold bindT at hb
  split at hb
  · rename_i i; exact (hn ⟨i, rfl⟩).elim
  · split at hb
    · rename_i ds
      split at hb
      · rename_i hc
        cases hb
        exact ⟨ds, rfl, hc.1, fun i hi => by simpa using List.all_eq_true.mp hc.2 i hi, rfl⟩
      · cases hb
    · cases hb
theorem tg_rd {t : List Nat} {d : D} {v : V} {env' : Evn} {Q : L2.St → Hp → Prop} (hx : B.fx = none) (S : Stt K B env σ Hb H) (h : Rp K Hb d v) (hb : bindT t d env = some env')
    (q : ∀ σ', Stt K B env' σ' Hb H → Shp env env' → (∀ own, (∀ i ∈ t, i ∈ own) → wipe σ' own = wipe σ own) → Q σ' H) : tgG K t v σ H Q := by
  have tupc : (¬ ∃ i, t = [i]) → gTup K t.length (gAll t) v σ H Q := fun hn => by
    obtain ⟨ds, rfl, c1, c2, rfl⟩ := bindT_tup hn hb
    obtain ⟨a, xs, rfl, h1, h2⟩ := h
    exact ⟨a, xs, rfl, S.sub.sqt h1, by rw [← h2.length]; exact c1, gAll_rd hx S h2 c1 c2 q⟩
  match t, hb, q, tupc with
  | [i], hb, q, _ =>
    simp only [bindT] at hb
    split at hb
    · rename_i hl
      cases hb
      exact q _ (S.store (nofx hx) hl h) (Shp.set_im i d) fun own ho => wipe_set (ho i (by simp))
    · cases hb
  | [], hb, q, c => exact c (by rintro ⟨i, e⟩; cases e)
  | i :: j :: r, hb, q, c => exact c (by rintro ⟨i, e⟩; cases e)
end
theorem ixOf_get {x : Str} : ∀ {N : List Str} {i : Nat}, ixOf x N = some i → N[i]? = some x
  | [], _, h => by cases h
  | y :: r, i, h => by
    unfold ixOf at h
    by_cases e : y = x
    · rw [if_pos e] at h; cases h; subst e; rfl
    · rw [if_neg e] at h
      obtain ⟨j, hj, rfl⟩ := Option.map_eq_some_iff.mp h
      simpa using ixOf_get hj
section
variable {S : Sc} {Φ : Fn} {ct : CT} {k : Nat} {X : Cx} {W : WX}
theorem wr_ok (C : CkE S Φ ct k X W) {x : Str} {i : Nat} (h : S.wr x = some i) : X.N[i]? = some x ∧ L2.Loc X.env.scope x ∧ (X.fn x = true ∨ X.env.scope.names.lookup x = some .local) := by
  unfold Sc.wr at h
  rcases ite_or h with ⟨hc, h⟩ | ⟨_, h⟩
  · rw [Bool.and_eq_true, Bool.and_eq_true] at hc
    obtain ⟨⟨_, h1⟩, h2⟩ := hc
    refine ⟨by rw [C.N]; exact ixOf_get h, ?_, ?_⟩
    · unfold locB at h1
      unfold L2.Loc
      rw [C.sc]
      split at h1
      · rename_i e; exact .inl e
      · rename_i e; exact .inr e
      · cases h1
    · cases hf : S.fnb with
      | none => exact .inl (C.fnb x (by rw [hf]))
      | some s =>
        rw [hf] at h2
        simp only [Bool.or_eq_true] at h2
        rcases h2 with h2 | h2
        · unfold isLoc at h2
          rw [C.sc]
          split at h2
          · rename_i e; exact .inr e
          · cases h2
        · exact .inl (C.fnb x (by rw [hf]; exact h2))
  · cases h
theorem wr_nx (C : CkE S Φ ct k X W) {x : Str} {i : Nat} (h : S.wr x = some i) {B : Bs} (hX : BX X ct B) : ∀ a c, B.fx ≠ some (i, a, c) := by
  unfold Sc.wr at h
  rcases ite_or h with ⟨hc, h⟩ | ⟨_, h⟩
  · rw [Bool.and_eq_true, Bool.and_eq_true] at hc
    obtain ⟨⟨h0, _⟩, _⟩ := hc
    intro a c e
    cases hx : ct.xi with
    | none => rw [hX.none_ hx] at e; cases e
    | some j =>
      have hX' := hX
      unfold BX at hX'
      rw [hx] at hX'
      obtain ⟨a', c', _, _, e', _⟩ := hX'
      rw [e'] at e
      cases e
      rw [C.xi] at hx
      cases hn : S.ex with
      | none => rw [hn] at hx; cases hx
      | some n =>
        rw [hn] at hx
        have k1 := ixOf_get h
        have k2 := ixOf_get (show ixOf n S.N = some i from hx)
        rw [k1] at k2
        cases k2
        rw [hn] at h0
        simp at h0
  · cases h
theorem rd_ok (C : CkE S Φ ct k X W) {x : Str} {i : Nat} (h : S.rd x = some i) : X.N[i]? = some x ∧ Vis X.env.scope x ∧ (x == ("__debug__" : Str)) = false ∧ (x == ("__classdict__" : Str)) = false := by
  unfold Sc.rd at h
  split at h
  · rename_i hc
    simp only [Bool.and_eq_true, Bool.not_eq_true'] at hc
    obtain ⟨⟨h1, h2⟩, h3⟩ := hc
    refine ⟨by rw [C.N]; exact ixOf_get h, ?_, h2, h3⟩
    unfold visB at h1
    unfold Vis
    rw [C.sc]
    split at h1
    · rename_i e; exact .inl e
    · rename_i e; exact .inr (.inl e)
    · rename_i e; exact .inr (.inr e)
    · cases h1
  · cases h
theorem gl_ok (C : CkE S Φ ct k X W) {x : Str} (h : glOk S x = true) : Gl X x ∧ (x == ("__debug__" : Str)) = false := by
  unfold glOk at h
  simp only [Bool.and_eq_true, Bool.not_eq_true'] at h
  obtain ⟨⟨h1, h2⟩, h3⟩ := h
  refine ⟨?_, h2⟩
  unfold glbB at h1
  unfold Gl Env.kindOf
  rw [C.sc]
  split at h1
  · assumption
  · cases h1
theorem bl_ok (C : CkE S Φ ct k X W) {x : Str} (h : S.bl x = true) : Gl X x ∧ X.mg x = none := by
  unfold Sc.bl at h
  simp only [Bool.and_eq_true, decide_eq_true_eq] at h
  exact ⟨(gl_ok C h.1).1, C.bl x h.2⟩
theorem names_ok (C : CkE S Φ ct k X W) : ∀ {es : List Expr} {is : List Nat}, namesOf S es = some is → PGs X es (gAll is) ∧ (assignEach es X.env).length = is.length ∧ (assignEach es X.env).findIdx? (·.1) = none ∧ (assignEach es X.env).map (·.2) = es.map fun e => assign e X.env
  | [], is, h => by cases h; exact ⟨pgs_nil, rfl, rfl, rfl⟩
  | e :: es, is, h => by
    cases e <;> simp only [namesOf] at h <;> try cases h
    rename_i x p
    split at h
    · rename_i i is' h1 h2
      cases h
      obtain ⟨q1, q2, q3⟩ := wr_ok C h1
      obtain ⟨k1, k2, k3, k4⟩ := names_ok C h2
      refine ⟨pgs_cons (pg_name C.nd q1 q2 q3) k1 rfl, ?_, ?_, ?_⟩
      · show (assignEach es X.env).length + 1 = is'.length + 1
        rw [k2]
      · show List.findIdx? (·.1) ((false, assign (.Name x p) X.env) :: assignEach es X.env) = none
        rw [List.findIdx?_cons, k3]
        rfl
      · show assign (.Name x p) X.env :: (assignEach es X.env).map (·.2) = _
        rw [k4]
        rfl
    · cases h
theorem tgt_ok (C : CkE S Φ ct k X W) {e : Expr} {t : List Nat} (h : tgtOf S e = some t) : PG X e (tgG X.K t) := by
  cases e <;> simp only [tgtOf] at h <;> try cases h
  · rename_i x p
    obtain ⟨i, hi, rfl⟩ := Option.map_eq_some_iff.mp h
    obtain ⟨q1, q2, q3⟩ := wr_ok C hi
    exact pg_name C.nd q1 q2 q3
  · rename_i es kk p
    split at h
    · rename_i is hi
      split at h
      · rename_i hl
        cases h
        obtain ⟨k1, k2, k3, k4⟩ := names_ok C hi
        have z := pg_tup (X := X) (pos := p) (k := kk) (C.calm hl.2) k1 k2 k3
        match t, hl.1 with
        | i :: j :: r, _ => exact z
      · cases h
    · cases h
end

/-! ### what is walked -/
def Wk (K : Fg) (J : It) (Hb : Hp) (ds : List D) : Prop :=
  (∀ i Hb2 H, Le Hb Hb2 → Le Hb2 H → i < ds.length → J.go i H) ∧ (∀ i Hb2 H, Le Hb Hb2 → Le Hb2 H → ds.length ≤ i → J.stop i H) ∧
  ∀ (i : Nat) (d : D) (Hb2 H : Hp) (x : V) (H' : Hp), Le Hb Hb2 → Le Hb2 H → ds[i]? = some d → J.yld i H x H' → (H' = H ∧ Rp K Hb2 d x) ∨ ∃ T u, H T = none ∧ H' = upd H T u ∧ Rp K (upd Hb2 T u) d x
theorem Wk.mono {K : Fg} {J : It} {Hb Hb' : Hp} {ds : List D} (h : Wk K J Hb ds) (e : Le Hb Hb') : Wk K J Hb' ds :=
  ⟨fun i Hb2 H l1 l2 => h.1 i Hb2 H (e.trans l1) l2, fun i Hb2 H l1 l2 => h.2.1 i Hb2 H (e.trans l1) l2, fun i d Hb2 H x H' l1 l2 => h.2.2 i d Hb2 H x H' (e.trans l1) l2⟩
def SI (X : Cx) (W : WX) (ct : CT) (tg iter : Expr) (f : Mo (List D)) : Prop := ∃ wi : TI, PI X tg iter wi ∧ ∀ (B : Bs) (σ : L2.St) (Hb H : Hp) (env : Evn) (R : It → Hp → Prop), BX X ct B → Stt X.K B env σ Hb H →
  GotE (f env) (fun ds env' => ∀ J Hb' H', Stt X.K B env' σ Hb' H' → Le Hb Hb' → Shp env env' → Wk X.K J Hb' ds → R J H') (Xw X W ct B σ Hb) → wi σ H R
theorem wk_lst {K : Fg} {Hb : Hp} {a : Addr} {xs : List V} {ds : List D} (h : SqL K Hb a xs) (r : RpAll K Hb ds xs) : Wk K (Itl K a) Hb ds := by
  refine ⟨fun i Hb2 H l1 l2 hi => ?_, fun i Hb2 H l1 l2 hi => ⟨xs, (l1.trans l2).sql h, by rw [← r.length]; exact hi⟩, fun i d Hb2 H x H' l1 l2 hd y => ?_⟩
  · obtain ⟨x, hx, _⟩ := r.get (List.getElem?_eq_getElem hi)
    exact ⟨xs, x, (l1.trans l2).sql h, hx⟩
  · obtain ⟨e, y⟩ := y
    have hx := y xs ((l1.trans l2).sql h)
    obtain ⟨x', hx', rx⟩ := r.get hd
    rw [hx] at hx'; cases hx'
    exact .inl ⟨e, Rp.mono l1 _ _ rx⟩
theorem wk_tup {K : Fg} {Hb : Hp} {a : Addr} {xs : List V} {ds : List D} (h : SqT K Hb a xs) (r : RpAll K Hb ds xs) : Wk K (Itt K a) Hb ds := by
  refine ⟨fun i Hb2 H l1 l2 hi => ?_, fun i Hb2 H l1 l2 hi => ⟨xs, (l1.trans l2).sqt h, by rw [← r.length]; exact hi⟩, fun i d Hb2 H x H' l1 l2 hd y => ?_⟩
  · obtain ⟨x, hx, _⟩ := r.get (List.getElem?_eq_getElem hi)
    exact ⟨xs, x, (l1.trans l2).sqt h, hx⟩
  · obtain ⟨e, y⟩ := y
    have hx := y xs ((l1.trans l2).sqt h)
    obtain ⟨x', hx', rx⟩ := r.get hd
    rw [hx] at hx'; cases hx'
    exact .inl ⟨e, Rp.mono l1 _ _ rx⟩
theorem wk_rng {K : Fg} {Hb : Hp} (lo : Int) (n : Nat) : Wk K (Itr lo n) Hb ((List.range n).map fun (k : Nat) => D.int (lo + (k : Int))) := by
  refine ⟨fun i Hb2 H l1 l2 hi => ?_, fun i Hb2 H l1 l2 hi => ?_, fun i d Hb2 H x H' l1 l2 hd y => ?_⟩
  · exact show i < n by simpa using hi
  · exact show n ≤ i by simpa using hi
  · obtain ⟨e, ex⟩ := y
    rw [List.getElem?_map] at hd
    obtain ⟨k, hk, rfl⟩ := Option.map_eq_some_iff.mp hd
    have : k = i := by
      rw [List.getElem?_range] at hk
      · exact (Option.some.inj hk).symm
      · have := lt_of_get hk; simpa using this
    subst this
    exact .inl ⟨e, ex⟩
theorem wk_rngC {K : Fg} {Hb : Hp} (lo c : Int) (n : Nat) : Wk K (Itc lo c n) Hb ((List.range n).map fun (k : Nat) => D.int (lo + (k : Int) * c)) := by
  refine ⟨fun i Hb2 H l1 l2 hi => ?_, fun i Hb2 H l1 l2 hi => ?_, fun i d Hb2 H x H' l1 l2 hd y => ?_⟩
  · exact show i < n by simpa using hi
  · exact show n ≤ i by simpa using hi
  · obtain ⟨e, ex⟩ := y
    rw [List.getElem?_map] at hd
    obtain ⟨k, hk, rfl⟩ := Option.map_eq_some_iff.mp hd
    have : k = i := by
      rw [List.getElem?_range] at hk
      · exact (Option.some.inj hk).symm
      · have := lt_of_get hk; simpa using this
    subst this
    exact .inl ⟨e, ex⟩
theorem wk_enum {K : Fg} {Hb : Hp} {a : Addr} {xs : List V} {ds : List D} (h : SqL K Hb a xs) (r : RpAll K Hb ds xs) : Wk K (Ite K a) Hb ((List.range ds.length).zip ds |>.map fun p => D.tup [.int (p.1 : Int), p.2]) := by
  have hlen : ((List.range ds.length).zip ds |>.map fun p => D.tup [.int (p.1 : Int), p.2]).length = ds.length := by simp
  refine ⟨fun i Hb2 H l1 l2 hi => ?_, fun i Hb2 H l1 l2 hi => ⟨xs, (l1.trans l2).sql h, by rw [← r.length]; rw [hlen] at hi; exact hi⟩, fun i d Hb2 H x H' l1 l2 hd y => ?_⟩
  · rw [hlen] at hi
    obtain ⟨x, hx, _⟩ := r.get (List.getElem?_eq_getElem hi)
    exact ⟨xs, x, (l1.trans l2).sql h, hx⟩
  · obtain ⟨T, x', e1, e2, e3, y⟩ := y
    rw [List.getElem?_map] at hd
    obtain ⟨⟨k, d'⟩, hk, rfl⟩ := Option.map_eq_some_iff.mp hd
    have hk' := List.getElem?_zip_eq_some.mp hk
    obtain ⟨k1, k2⟩ := hk'
    have : k = i := by
      rw [List.getElem?_range] at k1
      · exact (Option.some.inj k1).symm
      · have := lt_of_get k1; simpa using this
    subst this
    have hx := y xs ((l1.trans l2).sql h)
    obtain ⟨x2, hx2, rx⟩ := r.get k2
    rw [hx] at hx2; cases hx2
    have hn : Hb2 T = none := l2.none e2
    refine .inr ⟨T, _, e2, e3, ?_⟩
    subst e1
    exact ⟨T, _, rfl, SqT.of upd_same, _, _, rfl, rfl, _, _, rfl, Rp.mono (l1.trans (Le.new hn)) _ _ rx, rfl⟩
theorem wk_enumT {K : Fg} {Hb : Hp} {a : Addr} {xs : List V} {ds : List D} (h : SqT K Hb a xs) (r : RpAll K Hb ds xs) : Wk K (Iet K a) Hb ((List.range ds.length).zip ds |>.map fun p => D.tup [.int (p.1 : Int), p.2]) := by
  have hlen : ((List.range ds.length).zip ds |>.map fun p => D.tup [.int (p.1 : Int), p.2]).length = ds.length := by simp
  refine ⟨fun i Hb2 H l1 l2 hi => ?_, fun i Hb2 H l1 l2 hi => ⟨xs, (l1.trans l2).sqt h, by rw [← r.length]; rw [hlen] at hi; exact hi⟩, fun i d Hb2 H x H' l1 l2 hd y => ?_⟩
  · rw [hlen] at hi
    obtain ⟨x, hx, _⟩ := r.get (List.getElem?_eq_getElem hi)
    exact ⟨xs, x, (l1.trans l2).sqt h, hx⟩
  · obtain ⟨T, x', e1, e2, e3, y⟩ := y
    rw [List.getElem?_map] at hd
    obtain ⟨⟨k, d'⟩, hk, rfl⟩ := Option.map_eq_some_iff.mp hd
    have hk' := List.getElem?_zip_eq_some.mp hk
    obtain ⟨k1, k2⟩ := hk'
    have : k = i := by
      rw [List.getElem?_range] at k1
      · exact (Option.some.inj k1).symm
      · have := lt_of_get k1; simpa using this
    subst this
    have hx := y xs ((l1.trans l2).sqt h)
    obtain ⟨x2, hx2, rx⟩ := r.get k2
    rw [hx] at hx2; cases hx2
    have hn : Hb2 T = none := l2.none e2
    refine .inr ⟨T, _, e2, e3, ?_⟩
    subst e1
    exact ⟨T, _, rfl, SqT.of upd_same, _, _, rfl, rfl, _, _, rfl, Rp.mono (l1.trans (Le.new hn)) _ _ rx, rfl⟩
section
variable {X : Cx} {W : WX} {ct : CT} {a b c e tg : Expr} {fa fb : Mo RV} {pos p : Pos}
def tiOr (wi wi' : TI) : TI := fun σ H R => wi σ H R ∨ wi' σ H R
theorem pi_or {iter : Expr} {wi wi' : TI} (h : PI X tg iter wi) (h' : PI X tg iter wi') : PI X tg iter (tiOr wi wi') :=
  ⟨fun pins s σ H R I q => q.elim (h.run pins s σ H R I) (h'.run pins s σ H R I)⟩
theorem SI.seq (h : SEs X W ct a fa) : SI X W ct tg a (fa.bnd fun r => (Mo.imm r).bnd fun d => Mo.lift (seqD d)) := by
  obtain ⟨ta, pa, ka⟩ := h
  refine ⟨_, pi_or (pi_list pa) (pi_tup pa), fun B σ Hb H env R hX S q => ?_⟩
  have q1 := q.bnd
  have main : ∀ (T : Bool), (∀ r e1, fa env = some (.ok r e1) → ∃ d e2, Mo.imm r e1 = some (.ok d e2) ∧ (∃ ds, d = .tup ds) = (T = true)) →
      (if T = true then iTup X.K ta σ H R else iList X.K ta σ H R) := fun T hT => by
    have step : ∀ (Z : V → Hp → Prop), (∀ v Hb2 H2 d ds e2, Stt X.K B e2 σ Hb2 H2 → Le Hb Hb2 → Rp X.K Hb2 d v → seqD d = some ds → (∃ ds, d = .tup ds) = (T = true) → (∀ J Hb' H', Stt X.K B e2 σ Hb' H' → Le Hb Hb' → Wk X.K J Hb' ds → R J H') → Z v H2) → ta σ H Z := fun Z hz => by
      refine ka B σ Hb H env Z hX S ?_
      cases hf : fa env with
      | none => rw [hf] at q1; exact False.elim q1
      | some t =>
      cases t with
      | ex c e1 => rw [hf] at q1; exact q1
      | ok r e1 =>
      rw [hf] at q1
      intro v Hb1 H1 S1 le1 sh1 nr rv
      obtain ⟨d, e2, hd, ht⟩ := hT r e1 hf
      have g0 : GotE (Mo.imm r e1) (fun d' e' => d' = d ∧ e' = e2) (fun _ _ => False) := by rw [hd]; exact ⟨rfl, rfl⟩
      obtain ⟨d', e', Hb2, ⟨z1, z2⟩, le2, sh2, S2, rp⟩ := S1.imm rv g0
      subst z1 z2
      have g2 : GotE (((Mo.imm r).bnd fun d => Mo.lift (seqD d)) e1) (fun ds env' => ∀ J Hb' H', Stt X.K B env' σ Hb' H' → Le Hb Hb' → Shp env env' → Wk X.K J Hb' ds → R J H') (Xw X W ct B σ Hb) := q1
      have g3 := GotE.bnd g2
      rw [hd] at g3
      obtain ⟨ds, hds, g4⟩ := GotE.lift g3
      exact hz v Hb2 H1 d' ds e' S2 (le1.trans le2) rp hds ht fun J Hb' H' S' le' w => g4 J Hb' H' S' le' (sh1.trans sh2) w
    cases T with
    | true =>
      refine step _ fun v Hb2 H2 d ds e2 S2 le rp hds ht k => ?_
      have : ∃ ds, d = .tup ds := by rw [ht]
      obtain ⟨ds', rfl⟩ := this
      cases hds
      obtain ⟨p, xs, rfl, h1, h2⟩ := rp
      exact ⟨p, rfl, ⟨xs, S2.sub.sqt h1⟩, k _ Hb2 H2 S2 le (wk_tup h1 h2)⟩
    | false =>
      refine step _ fun v Hb2 H2 d ds e2 S2 le rp hds ht k => ?_
      cases d with
      | tup ds' => exact (Bool.false_ne_true (ht.mp ⟨ds', rfl⟩)).elim
      | lst ds' =>
        cases hds
        obtain ⟨p, xs, rfl, h1, h2⟩ := rp
        exact ⟨p, rfl, ⟨xs, S2.sub.sql (SqL.of h1)⟩, k _ Hb2 H2 S2 le (wk_lst (SqL.of h1) h2)⟩
      | frz ds' =>
        cases hds
        obtain ⟨p, xs, rfl, h1, h2⟩ := rp
        exact ⟨p, rfl, ⟨xs, S2.sub.sql h1⟩, k _ Hb2 H2 S2 le (wk_lst h1 h2)⟩
      | _ => cases hds
  cases hf : fa env with
  | none => rw [hf] at q1; exact False.elim q1
  | some t =>
  cases t with
  | ex c e1 =>
    have := main true (fun r e1 h => by rw [hf] at h; cases h)
    exact .inr (by simpa using this)
  | ok r e1 =>
    rw [hf] at q1
    have g2 : GotE (((Mo.imm r).bnd fun d => Mo.lift (seqD d)) e1) (fun ds env' => ∀ J Hb' H', Stt X.K B env' σ Hb' H' → Le Hb Hb' → Shp env env' → Wk X.K J Hb' ds → R J H') (Xw X W ct B σ Hb) := q1
    have g3 := GotE.bnd g2
    cases hi : Mo.imm r e1 with
    | none => rw [hi] at g3; exact False.elim g3
    | some t =>
    cases t with
    | ex c e2 =>
      cases r <;> simp [Mo.imm, Mo.ret] at hi
      split at hi <;> cases hi
    | ok d e2 =>
      by_cases hd : ∃ ds, d = .tup ds
      · have := main true (fun r' e' h => by rw [hf] at h; cases h; exact ⟨d, e2, hi, by simp [hd]⟩)
        exact .inr (by simpa using this)
      · have := main false (fun r' e' h => by rw [hf] at h; cases h; exact ⟨d, e2, hi, by simp [hd]⟩)
        exact .inl (by simpa using this)
theorem SI.rng1 (hg : Gl X "range") (hm : X.mg "range" = none) (hn : notStar a = true) (h : SE X W ct a fa) : SI X W ct tg (.Call (.Name "range" p) [a] [] pos) (fa.bnd fun r => match r with
    | .val (.int i) => if -100000 ≤ i ∧ i ≤ 100000 then Mo.ret ((List.range i.toNat).map fun (k : Nat) => D.int (0 + (k : Int))) else fun _ => none
    | _ => fun _ => none) := by
  obtain ⟨ta, pa, ka⟩ := h
  refine ⟨_, pi_range1 hg hm (pa_cons pa pa_nil (starEach_plain hn)) (starEach_plain hn), fun B σ Hb H env R hX S q => ka B σ Hb H env _ hX S (q.bnd.same fun r e1 g1 v Hb1 H1 S1 le1 sh1 rv => ?_)⟩
  cases r with
  | val d =>
    cases d with
    | int i =>
      simp only at g1
      split at g1
      · rename_i hi
        cases rv
        exact ⟨i, rfl, by omega, by omega, g1 _ Hb1 H1 S1 le1 sh1 (wk_rng 0 _)⟩
      · exact False.elim g1
    | _ => exact g1.elim
  | bo i => exact g1.elim
  | fr o => exact g1.elim
theorem SI.rng2 (hg : Gl X "range") (hm : X.mg "range" = none) (hn : notStar a = true) (hn2 : notStar b = true) (ha : SEs X W ct a fa) (hb : SEs X W ct b fb) : SI X W ct tg (.Call (.Name "range" p) [a, b] [] pos) (fa.bnd fun r => fb.bnd fun r' => match r, r' with
    | .val (.int i), .val (.int j) => if -100000 ≤ i ∧ i ≤ 100000 ∧ -100000 ≤ j ∧ j ≤ 100000 then Mo.ret ((List.range (j - i).toNat).map fun (k : Nat) => D.int (i + (k : Int))) else fun _ => none
    | _, _ => fun _ => none) := by
  obtain ⟨ta, pa, ka⟩ := ha
  obtain ⟨tb, pb, kb⟩ := hb
  refine ⟨_, pi_range2 hg hm (pa_cons pa (pa_cons pb pa_nil (starEach_plain hn2)) (starEach_plain hn)) (by rw [starEach_plain hn, starEach_plain hn2]; rfl) (starEach_plain hn2), fun B σ Hb H env R hX S q => ?_⟩
  refine two ka kb hX S (q.bnd.same fun x e1 g1 => g1.bnd.same fun y e2 g2 v u Hb' H' S2 le sh nx ny rx ry => ?_)
  cases x with
  | val d =>
    cases d with
    | int i =>
      cases y with
      | val d2 =>
        cases d2 with
        | int j =>
          simp only at g2
          split at g2
          · rename_i hi
            cases rx
            cases ry
            exact ⟨i, j, rfl, by omega, g2 _ Hb' H' S2 le sh (wk_rng i _)⟩
          · exact False.elim g2
        | _ => exact g2.elim
      | bo i => exact g2.elim
      | fr o => exact g2.elim
    | _ => exact g2.elim
  | bo i => exact g2.elim
  | fr o => exact g2.elim
theorem SI.rng3 (hg : Gl X "range") (hm : X.mg "range" = none) (hn : notStar a = true) (hn2 : notStar b = true) (hn3 : notStar c = true) (ha : SEs X W ct a fa) (hb : SEs X W ct b fb) (hc : SEs X W ct c fc) : SI X W ct tg (.Call (.Name "range" p) [a, b, c] [] pos) (fa.bnd fun r => fb.bnd fun r' => fc.bnd fun r2 => match r, r', r2 with
    | .val (.int i), .val (.int j), .val (.int c) => if -100000 ≤ i ∧ i ≤ 100000 ∧ -100000 ≤ j ∧ j ≤ 100000 ∧ c = -1 then Mo.ret ((List.range (i - j).toNat).map fun (k : Nat) => D.int (i + (k : Int) * c)) else fun _ => none
    | _, _, _ => fun _ => none) := by
  obtain ⟨ta, pa, ka⟩ := ha
  obtain ⟨tb, pb, kb⟩ := hb
  obtain ⟨tc, pc, kc⟩ := hc
  refine ⟨_, pi_range3 hg hm (pa_cons pa (pa_cons pb (pa_cons pc pa_nil (starEach_plain hn3)) (starEach_plain hn2)) (starEach_plain hn)) (by rw [starEach_plain hn]) (backTo_plain (by simp [allPlain, hn2, hn3])), fun B σ Hb H env R hX S q => ?_⟩
  refine two ka kb hX S (q.bnd.same fun x e1 g1 => g1.bnd.same fun y e2 g2 v u Hb' H' S2 le sh nx ny rx ry => ?_)
  refine kc B σ Hb' H' e2 _ hX S2 (GotE.imp (GotE.bnd g2) (fun z e3 g3 w Hb3 H3 S3 le3 sh3 nz rz => ?_) fun c e h => Xw.mono (X := X) le h)
  cases x with
  | bo i => exact g3.elim
  | fr o => exact g3.elim
  | val d =>
  cases d with
  | int i =>
    cases y with
    | bo i => exact g3.elim
    | fr o => exact g3.elim
    | val d2 =>
    cases d2 with
    | int j =>
      cases z with
      | bo i => exact g3.elim
      | fr o => exact g3.elim
      | val d3 =>
      cases d3 with
      | int c =>
        simp only at g3
        split at g3
        · rename_i hi
          obtain ⟨h1, h2, h3, h4, h5⟩ := hi
          subst h5
          cases rx
          cases ry
          cases rz
          exact ⟨i, j, -1, _, rfl, RgC.neg (by omega) (by omega) (by omega) (by omega), g3 _ Hb3 H3 S3 (le.trans le3) (sh.trans sh3) (wk_rngC i (-1) _)⟩
        · exact False.elim g3
      | _ => exact g3.elim
    | _ => exact g3.elim
  | _ => exact g3.elim
theorem SI.enum (hg : Gl X "enumerate") (hm : X.mg "enumerate" = none) (hn : notStar a = true) (ht : isTup tg = true) (h : SEs X W ct a fa) : SI X W ct tg (.Call (.Name "enumerate" p) [a] [] pos) (fa.bnd fun r => (Mo.imm r).bnd fun d => (Mo.lift (lstD d)).bnd fun ds => Mo.ret ((List.range ds.length).zip ds |>.map fun p => D.tup [.int (p.1 : Int), p.2])) := by
  obtain ⟨ta, pa, ka⟩ := h
  cases tg <;> simp only [isTup] at ht <;> try cases ht
  refine ⟨_, pi_enumA hg hm (pa_cons pa pa_nil (starEach_plain hn)) (starEach_plain hn), fun B σ Hb H env R hX S q => ka B σ Hb H env _ hX S (q.bnd.same fun r e1 g1 v Hb1 H1 S1 le1 sh1 nr rv => ?_)⟩
  obtain ⟨d, e2, Hb2, g2, le2, sh2, S2, rp⟩ := S1.imm rv g1.bnd
  obtain ⟨ds, hds, g3⟩ := GotE.lift (GotE.bnd g2)
  have g4 := g3
  cases d with
  | lst ds' =>
    cases hds
    obtain ⟨p, xs, rfl, h1, h2⟩ := rp
    exact ⟨p, rfl, .inl ⟨xs, S2.sub.sql (SqL.of h1), g4 _ Hb2 H1 S2 (le1.trans le2) (sh1.trans sh2) (wk_enum (SqL.of h1) h2)⟩⟩
  | tup ds' =>
    cases hds
    obtain ⟨p, xs, rfl, h1, h2⟩ := rp
    exact ⟨p, rfl, .inr ⟨xs, S2.sub.sqt h1, g4 _ Hb2 H1 S2 (le1.trans le2) (sh1.trans sh2) (wk_enumT h1 h2)⟩⟩
  | frz ds' =>
    cases hds
    obtain ⟨p, xs, rfl, h1, h2⟩ := rp
    exact ⟨p, rfl, .inl ⟨xs, S2.sub.sql h1, g4 _ Hb2 H1 S2 (le1.trans le2) (sh1.trans sh2) (wk_enum h1 h2)⟩⟩
  | _ => cases hds
end
end HB

set_option Elab.async false
set_option linter.all false
set_option maxRecDepth 100000
set_option maxHeartbeats 2000000
/-! HBSnd9: comprehensions. -/
namespace HB
open PySem PySem.Spec PyProof.Rows L2

/-- the exception's wish, by the fragment -/
def tMs (K : Fg) (f : Mo RV) : TE := fun σ H Q => ∃ B Hb env, B.fx = none ∧ Stt K B env σ Hb H ∧ ∃ r env', f env = some (.ok r env') ∧ ∀ v Hb' H', Stt K B env' σ Hb' H' → Le Hb Hb' → Shp env env' → NoFr r → RVOk K B env' σ Hb' H' v r → Q v H'
def tMt (K : Fg) (f : Mo Bool) : TT := fun σ H Q => ∃ B Hb env, B.fx = none ∧ Stt K B env σ Hb H ∧ ∃ b env', f env = some (.ok b env') ∧ ∀ Hb' H', Stt K B env' σ Hb' H' → Le Hb Hb' → Shp env env' → Q b H'
section
variable {X : Cx} {W : WX} {ct : CT} {e : Expr}
theorem SEs.canon {f : Mo RV} (hn : ct.xi = none) (h : SEs X W ct e f) : PE X e (tMs X.K f) := by
  obtain ⟨te, pe, k⟩ := h
  refine ⟨fun pins s σ H Q I ⟨B, Hb, env, hx, S, r, env', hf, q⟩ => pe.run pins s σ H Q I (k B σ Hb H env Q (.of_none hn hx) S ?_)⟩
  rw [hf]
  exact q
theorem ST.canon {f : Mo Bool} (hn : ct.xi = none) (h : ST X W ct e f) : PT X e (tMt X.K f) := by
  obtain ⟨te, pe, k⟩ := h
  refine ⟨fun pins s σ H Q I ⟨B, Hb, env, hx, S, r, env', hf, q⟩ => pe.run pins s σ H Q I (k B σ Hb H env Q (.of_none hn hx) S ?_)⟩
  rw [hf]
  exact q
theorem pts_no : PTs X [] (tMt X.K (Mo.ret true)) :=
  ⟨fun pins s σ H Q I ⟨B, Hb, env, hx, S, r, env', hf, q⟩ => by
    cases hf
    exact pts_nil.run pins s σ H Q I (q Hb H S (Le.refl _) (Shp.refl _))⟩
theorem PTs.canon {f : Mo Bool} (hn : ct.xi = none) (h : ST X W ct e f) : PTs X [e] (tMt X.K f) := pts_one (h.canon hn)
end
theorem RVOk.reB {K : Fg} {B B' : Bs} {env env' : Evn} {σ : L2.St} {Hb H H' : Hp} {v : V} {r : RV} (n : NoFr r) (h : RVOk K B env σ Hb H v r) : RVOk K B' env' σ Hb H' v r := by
  cases r with
  | val d => exact h
  | bo i => exact h
  | fr o => exact n.elim
theorem bnd_ok {α β : Type} {x : Mo α} {f : α → Mo β} {env e2 : Evn} {b : β} (h : x.bnd f env = some (.ok b e2)) : ∃ a e1, x env = some (.ok a e1) ∧ f a e1 = some (.ok b e2) := by
  unfold Mo.bnd at h
  cases hx : x env with
  | none => rw [hx] at h; cases h
  | some t =>
    cases t with
    | ok a e1 => rw [hx] at h; exact ⟨a, e1, rfl, h⟩
    | ex c e => rw [hx] at h; cases h
/-- the turn of a comprehension -/
def cStep (own t : List Nat) (fc : Mo Bool) (fe : Mo RV) (d : D) : Mo (Option D) := fun env => match bindT t d (unown own env) with
  | some env' => fc.bnd (fun b => if b = true then fe.bnd fun r => (Mo.imm r).bnd fun y => Mo.ret (some y) else Mo.ret none) env'
  | none => none
theorem compGo_cons {step : D → Mo (Option D)} {d : D} {ds acc ys : List D} {env e2 : Evn} (h : compGo step (d :: ds) acc env = some (.ok ys e2)) : ∃ o e1, step d env = some (.ok o e1) ∧
    ((∃ y, o = some y ∧ acc.length < LIM ∧ compGo step ds (acc ++ [y]) e1 = some (.ok ys e2)) ∨ (o = none ∧ compGo step ds acc e1 = some (.ok ys e2))) := by
  unfold compGo at h
  obtain ⟨o, e1, h1, h2⟩ := bnd_ok h
  refine ⟨o, e1, h1, ?_⟩
  cases o with
  | none => exact .inr ⟨rfl, h2⟩
  | some y =>
    simp only at h2
    split at h2
    · rename_i hl; exact .inl ⟨y, rfl, hl, h2⟩
    · cases h2
/-- the state at a turn of a comprehension -/
structure CSt (K : Fg) (B1 : Bs) (own : List Nat) (env0 env : Evn) (σ' : L2.St) (Hb1 : Hp) (D0 : Addr) (acc : List D) (H : Hp) : Prop where
  ex : ∃ Hb xs, Stt K B1 (unown own env) σ' Hb H ∧ Le Hb1 Hb ∧ Shp env0 (unown own env) ∧ H D0 = some (.lst xs) ∧ Hb D0 = none ∧ RpAll K Hb acc xs
theorem comp_loop {K : Fg} {B : Bs} {env : Evn} {σ : L2.St} {Hb1 H1 : Hp} {J : It} {ds ys : List D} {e2 : Evn} {own t : List Nat} {fc : Mo Bool} {fe : Mo RV} {Q : VK} {D0 : Addr} (hx : B.fx = none) (S : Stt K B env σ Hb1 H1) (wk : Wk K J Hb1 ds) (ht : ∀ i ∈ t, i ∈ own)
    (cg : compGo (cStep own t fc fe) ds [] env = some (.ok ys e2)) (hD : H1 D0 = none)
    (q : ∀ v Hb' H', Stt K B (back env own (unown own e2)) σ Hb' H' → Le Hb1 Hb' → Shp env (back env own (unown own e2)) → RVOk K B (back env own (unown own e2)) σ Hb' H' v (.fr (.lst ys)) → Q v H') :
    ∃ Wv : Nat → Nat → Hp → Prop, (∃ m, Wv 0 m (upd H1 D0 (.lst []))) ∧ ∀ i m H, Wv i m H →
      (J.stop i H ∧ Q (.ref D0) H) ∨ (J.go i H ∧ ∃ Nx : Hp → Prop, (∀ H', Nx H' → ∃ m', m' < m ∧ Wv (i + 1) m' H') ∧ ∀ x H', J.yld i H x H' → tgG K t x (wipe σ own) H' fun σ2 H2 => wipe σ2 own = wipe σ own ∧ tMt K fc σ2 H2 fun b H3 =>
        if b = true then tMs K fe σ2 H3 fun y H4 => ∃ acc, H4 D0 = some (.lst acc) ∧ acc.length < sizeLine ∧ Nx (upd H4 D0 (.lst (acc ++ [y]))) else Nx H3) := by
  generalize hs : wipe σ own = σ'
  have SW := S.wipe hx own
  rw [hs] at SW
  have SR := SW.re
  -- nothing owns the new list
  have nf : ∀ {env' : Evn}, Shp (unown own env) env' → ∀ (j : Nat) (o : OB), env'[j]? = some (.ow o) → σ'[j]? ≠ some (some (.ref D0)) := fun {env'} sh j o e z => by
    obtain ⟨o', e'⟩ := sh j o e
    exact SW.nofr hD j o' e' z
  have BD : (reb B (unown own env) σ' Hb1 H1).H D0 = none := hD
  refine ⟨fun i m H => m = ds.length - i ∧ i ≤ ds.length ∧ ∃ env_i acc, compGo (cStep own t fc fe) (ds.drop i) acc env_i = some (.ok ys e2) ∧ CSt K (reb B (unown own env) σ' Hb1 H1) own (unown own env) env_i σ' Hb1 D0 acc H, ⟨ds.length, rfl, Nat.zero_le _, env, [], cg, ⟨Hb1, [], SR.newH hD, Le.refl _, Shp.refl _, upd_same, SW.hbn hD, rfl⟩⟩, ?_⟩
  rintro i m H ⟨rfl, hi, env_i, acc, cgi, ⟨Hbi, xs, Si, lei, shi, hDi, hbi, rpi⟩⟩
  by_cases hlt : i < ds.length
  · right
    refine ⟨wk.1 i Hbi H lei Si.sub hlt, fun H' => (i + 1 ≤ ds.length ∧ ∃ env_i acc, compGo (cStep own t fc fe) (ds.drop (i + 1)) acc env_i = some (.ok ys e2) ∧ CSt K (reb B (unown own env) σ' Hb1 H1) own (unown own env) env_i σ' Hb1 D0 acc H'), fun H' ⟨h1, h2⟩ => ⟨ds.length - (i + 1), by omega, rfl, h1, h2⟩, fun x H' y => ?_⟩
    have hd : ds[i]? = some ds[i] := List.getElem?_eq_getElem hlt
    generalize ds[i] = d at hd
    have dr : ds.drop i = d :: ds.drop (i + 1) := by
      rw [List.drop_eq_getElem_cons hlt]
      congr 1
      rw [List.getElem?_eq_getElem hlt] at hd
      exact Option.some.inj hd
    rw [dr] at cgi
    obtain ⟨o, e1, st, rest⟩ := compGo_cons cgi
    -- what the turn yields
    have yy : ∃ Hb', Stt K (reb B (unown own env) σ' Hb1 H1) (unown own env_i) σ' Hb' H' ∧ Le Hbi Hb' ∧ H' D0 = some (.lst xs) ∧ Hb' D0 = none ∧ Rp K Hb' d x := by
      rcases wk.2.2 i d Hbi H x H' lei Si.sub hd y with ⟨e, rp⟩ | ⟨T, u, hT, e, rp⟩
      · subst e; exact ⟨Hbi, Si, Le.refl _, hDi, hbi, rp⟩
      · subst e
        have ne : D0 ≠ T := fun z => by rw [← z, hDi] at hT; cases hT
        exact ⟨upd Hbi T u, Si.new hT, Le.new (Si.hbn hT), by rw [upd_ne ne]; exact hDi, by rw [upd_ne ne]; exact hbi, rp⟩
    obtain ⟨Hb', S', le', hD', hb', rp⟩ := yy
    unfold cStep at st
    cases hbt : bindT t d (unown own env_i) with
    | none => rw [hbt] at st; cases st
    | some env2 =>
    rw [hbt] at st
    obtain ⟨b, e3, hc, st2⟩ := bnd_ok st
    refine tg_rd (by exact hx) S' rp hbt fun σ2 S2 sh2 wp => ?_
    have wp' : wipe σ2 own = σ' := by rw [wp own ht, ← hs, wipe_wipe]
    refine ⟨wp', _, Hb', env2, (by exact hx), S2.re, b, e3, hc, fun Hb3 H3 T3 le3 sh3 => ?_⟩
    have S3 := S2.un T3 sh3
    have nf2 : ∀ (j : Nat) (o : OB), env2[j]? = some (.ow o) → σ2[j]? ≠ some (some (.ref D0)) := fun j o e z => by
      obtain ⟨a, h1, h2, h3, h4⟩ := S2.ow j o e
      rw [z] at h1; cases h1
      obtain ⟨o', e'⟩ := sh2 j o e
      obtain ⟨a', k1, k2⟩ := S'.ow j o' e'
      by_cases hj : j ∈ own
      · rcases unown_get e' with ⟨z1, _⟩ | ⟨z1, _⟩
        · cases z1
        · exact z1 hj
      · have : (wipe σ2 own)[j]? = σ2[j]? := wipe_get hj
        rw [wp'] at this
        exact nf (shi.trans (Shp.refl _)) j o' e' (by rw [this]; exact z)
    obtain ⟨hD3, hb3⟩ := T3.stands hD' hb' nf2
    have le3' : Le Hb' Hb3 := le3
    have fin : ∀ {env5 : Evn} {Hb5 H5 : Hp} {acc' : List D} {xs' : List V}, Stt K (reb B (unown own env) σ' Hb1 H1) env5 σ2 Hb5 H5 → Le Hbi Hb5 → Shp (unown own env_i) env5 → H5 D0 = some (.lst xs') → Hb5 D0 = none → RpAll K Hb5 acc' xs' → CSt K (reb B (unown own env) σ' Hb1 H1) own (unown own env) env5 σ' Hb1 D0 acc' H5 :=
      fun {env5 Hb5 H5 acc' xs'} S5 le5 sh5 h1 h2 h3 => ⟨Hb5, xs', by have z := S5.wipe (by exact hx) own; rw [wp'] at z; exact z, lei.trans le5, (shi.trans sh5).trans (Shp.unown own), h1, h2, h3⟩
    cases b with
    | false =>
      simp only [Bool.false_eq_true, if_false] at st2 ⊢
      cases st2
      rcases rest with ⟨y, e, _⟩ | ⟨_, cg'⟩
      · cases e
      · exact ⟨hlt, _, acc, cg', fin S3 (le'.trans le3') (sh2.trans sh3) hD3 hb3 (rpi.mono (le'.trans le3'))⟩
    | true =>
      simp only [if_true] at st2 ⊢
      obtain ⟨r, e4, hr, st3⟩ := bnd_ok st2
      obtain ⟨yv, e5, hy, st4⟩ := bnd_ok st3
      cases st4
      refine ⟨_, Hb3, e3, (by exact hx), S3.re, r, e4, hr, fun v Hb4 H4 T4 le4 sh4 nr rv => ?_⟩
      have S4 := S3.un T4 sh4
      have nf3 : ∀ (j : Nat) (o : OB), e3[j]? = some (.ow o) → σ2[j]? ≠ some (some (.ref D0)) := fun j o e => by
        obtain ⟨o', e'⟩ := sh3 j o e
        exact nf2 j o' e'
      obtain ⟨hD4, hb4⟩ := T4.stands hD3 hb3 nf3
      have le4' : Le Hb3 Hb4 := le4
      have nf4 : ∀ (j : Nat) (o : OB), e4[j]? = some (.ow o) → σ2[j]? ≠ some (some (.ref D0)) := fun j o e => by
        obtain ⟨o', e'⟩ := sh4 j o e
        exact nf3 j o' e'
      have g0 : GotE (Mo.imm r e4) (fun d' e' => d' = yv ∧ e' = e1) (fun _ _ => False) := by rw [hy]; exact ⟨rfl, rfl⟩
      obtain ⟨d', e', Hb5, ⟨z1, z2⟩, le5, sh5, T5, rp5⟩ := S4.re.imm (RVOk.reB nr rv) g0
      subst z1 z2
      have S5 := S4.un T5 sh5
      obtain ⟨hD5, hb5⟩ := T5.stands hD4 hb4 nf4
      have nf5 : ∀ (j : Nat) (o : OB), e'[j]? = some (.ow o) → σ2[j]? ≠ some (some (.ref D0)) := fun j o e => by
        obtain ⟨o', e'⟩ := sh5 j o e
        exact nf4 j o' e'
      have leA : Le Hbi Hb5 := ((le'.trans le3').trans le4').trans le5
      rcases rest with ⟨y, e, hl, cg'⟩ | ⟨e, _⟩
      · cases e
        refine ⟨xs, hD4, by rw [← rpi.length]; exact lim_lt hl, hlt, _, acc ++ [d'], cg', ?_⟩
        have S6 := S5.updH (u := .lst (xs ++ [v])) hD5 hb5 BD nf5
        exact fin S6 leA (((sh2.trans sh3).trans sh4).trans sh5) upd_same hb5 ((rpi.mono leA).app (RpAll.one rp5))
      · cases e
  · have e : i = ds.length := by omega
    subst e
    left
    refine ⟨wk.2.1 _ Hbi H lei Si.sub (Nat.le_refl _), ?_⟩
    have dn : ds.drop ds.length = [] := List.drop_length
    rw [dn] at cgi
    have cg2 : (some (Out.ok acc env_i) : Option (Out (List D))) = some (.ok ys e2) := cgi
    cases cg2
    subst hs
    obtain ⟨SB, shB⟩ := Stt.unblk hx S Si shi
    exact q _ Hbi H SB lei shB ⟨D0, rfl, hbi, ⟨xs, hDi, rpi⟩, (S.fresh hD).1, (S.fresh hD).2, fun j o e z => by
      obtain ⟨o', e'⟩ := shB j o e
      exact S.nofr hD j o' e' z⟩
/-! ### dict comprehensions -/
/-- the turn of one that makes a dict -/
def dStep (own t : List Nat) (fc : Mo Bool) (fk fe : Mo RV) (d : D) : Mo (Option (Key × D)) := fun env => match bindT t d (unown own env) with
  | some env' => fc.bnd (fun b => if b = true then fk.bnd fun q => fe.bnd fun r => (Mo.imm r).bnd fun y => match keyR q with
      | some kk => Mo.ret (some (kk, y))
      | none => fun _ => none
    else Mo.ret none) env'
  | none => none
theorem dcGo_cons {step : D → Mo (Option (Key × D))} {d : D} {r : List D} {ks : List Key} {ds : List D} {z : List Key × List D} {env e2 : Evn} (h : dcGo step (d :: r) ks ds env = some (.ok z e2)) : ∃ o e1, step d env = some (.ok o e1) ∧
    ((∃ k y, o = some (k, y) ∧ ks.length < LIM ∧ dcGo step r (putKs ks k) (putX ks ds k y) e1 = some (.ok z e2)) ∨ (o = none ∧ dcGo step r ks ds e1 = some (.ok z e2))) := by
  unfold dcGo at h
  obtain ⟨o, e1, h1, h2⟩ := bnd_ok h
  refine ⟨o, e1, h1, ?_⟩
  cases o with
  | none => exact .inr ⟨rfl, h2⟩
  | some ky =>
    obtain ⟨k, y⟩ := ky
    simp only at h2
    split at h2
    · rename_i hl; exact .inl ⟨k, y, rfl, hl, h2⟩
    · cases h2
/-- the state at a turn -/
def DSt (K : Fg) (B1 : Bs) (own : List Nat) (env0 env : Evn) (σ' : L2.St) (Hb1 : Hp) (D0 : Addr) (ks : List Key) (ds : List D) (H : Hp) : Prop :=
  ∃ Hb xs, Stt K B1 (unown own env) σ' Hb H ∧ Le Hb1 Hb ∧ Shp env0 (unown own env) ∧ H D0 = some (.dK (ks.zip xs)) ∧ ks.length = xs.length ∧ Hb D0 = none ∧ RpAll K Hb ds xs
theorem dcomp_loop {K : Fg} {B : Bs} {env : Evn} {σ : L2.St} {Hb1 H1 : Hp} {J : It} {ds : List D} {zz : List Key × List D} {e2 : Evn} {own t : List Nat} {fc : Mo Bool} {fk fe : Mo RV} {Q : VK} {D0 : Addr} (hx : B.fx = none) (S : Stt K B env σ Hb1 H1) (wk : Wk K J Hb1 ds) (ht : ∀ i ∈ t, i ∈ own)
    (cg : dcGo (dStep own t fc fk fe) ds [] [] env = some (.ok zz e2)) (hD : H1 D0 = none)
    (q : ∀ v Hb' H', Stt K B (back env own (unown own e2)) σ Hb' H' → Le Hb1 Hb' → Shp env (back env own (unown own e2)) → RVOk K B (back env own (unown own e2)) σ Hb' H' v (.fr (.dK zz.1 zz.2)) → Q v H') :
    ∃ Wv : Nat → Nat → Hp → Prop, (∃ m, Wv 0 m (upd H1 D0 (.dK []))) ∧ ∀ i m H, Wv i m H →
      (J.stop i H ∧ Q (.ref D0) H) ∨ (J.go i H ∧ ∃ Nx : Hp → Prop, (∀ H', Nx H' → ∃ m', m' < m ∧ Wv (i + 1) m' H') ∧ ∀ x H', J.yld i H x H' → tgG K t x (wipe σ own) H' fun σ2 H2 => wipe σ2 own = wipe σ own ∧ tMt K fc σ2 H2 fun b H3 =>
        if b = true then tMs K fk σ2 H3 fun y H4 => tMs K fe σ2 H4 fun z H5 => ∃ kvs k, y = kV k ∧ H5 D0 = some (.dK kvs) ∧ kvs.length < sizeLine ∧ Nx (upd H5 D0 (.dK (putK kvs k z))) else Nx H3) := by
  generalize hs : wipe σ own = σ'
  have SW := S.wipe hx own
  rw [hs] at SW
  have SR := SW.re
  have nf : ∀ {env' : Evn}, Shp (unown own env) env' → ∀ (j : Nat) (o : OB), env'[j]? = some (.ow o) → σ'[j]? ≠ some (some (.ref D0)) := fun {env'} sh j o e z => by
    obtain ⟨o', e'⟩ := sh j o e
    exact SW.nofr hD j o' e' z
  have BD : (reb B (unown own env) σ' Hb1 H1).H D0 = none := hD
  refine ⟨fun i m H => m = ds.length - i ∧ i ≤ ds.length ∧ ∃ env_i ks ys, dcGo (dStep own t fc fk fe) (ds.drop i) ks ys env_i = some (.ok zz e2) ∧ DSt K (reb B (unown own env) σ' Hb1 H1) own (unown own env) env_i σ' Hb1 D0 ks ys H, ⟨ds.length, rfl, Nat.zero_le _, env, [], [], cg, Hb1, [], SR.newH hD, Le.refl _, Shp.refl _, upd_same, rfl, SW.hbn hD, rfl⟩, ?_⟩
  rintro i m H ⟨rfl, hi, env_i, ks, ys, cgi, Hbi, xs, Si, lei, shi, hDi, hln, hbi, rpi⟩
  by_cases hlt : i < ds.length
  · right
    refine ⟨wk.1 i Hbi H lei Si.sub hlt, fun H' => (i + 1 ≤ ds.length ∧ ∃ env_i ks ys, dcGo (dStep own t fc fk fe) (ds.drop (i + 1)) ks ys env_i = some (.ok zz e2) ∧ DSt K (reb B (unown own env) σ' Hb1 H1) own (unown own env) env_i σ' Hb1 D0 ks ys H'), fun H' ⟨h1, h2⟩ => ⟨ds.length - (i + 1), by omega, rfl, h1, h2⟩, fun x H' y => ?_⟩
    have hd : ds[i]? = some ds[i] := List.getElem?_eq_getElem hlt
    generalize ds[i] = d at hd
    have dr : ds.drop i = d :: ds.drop (i + 1) := by
      rw [List.drop_eq_getElem_cons hlt]
      congr 1
      rw [List.getElem?_eq_getElem hlt] at hd
      exact Option.some.inj hd
    rw [dr] at cgi
    obtain ⟨o, e1, st, rest⟩ := dcGo_cons cgi
    have yy : ∃ Hb', Stt K (reb B (unown own env) σ' Hb1 H1) (unown own env_i) σ' Hb' H' ∧ Le Hbi Hb' ∧ H' D0 = some (.dK (ks.zip xs)) ∧ Hb' D0 = none ∧ Rp K Hb' d x := by
      rcases wk.2.2 i d Hbi H x H' lei Si.sub hd y with ⟨e, rp⟩ | ⟨T, u, hT, e, rp⟩
      · subst e; exact ⟨Hbi, Si, Le.refl _, hDi, hbi, rp⟩
      · subst e
        have ne : D0 ≠ T := fun z => by rw [← z, hDi] at hT; cases hT
        exact ⟨upd Hbi T u, Si.new hT, Le.new (Si.hbn hT), by rw [upd_ne ne]; exact hDi, by rw [upd_ne ne]; exact hbi, rp⟩
    obtain ⟨Hb', S', le', hD', hb', rp⟩ := yy
    unfold dStep at st
    cases hbt : bindT t d (unown own env_i) with
    | none => rw [hbt] at st; cases st
    | some env2 =>
    rw [hbt] at st
    obtain ⟨b, e3, hc, st2⟩ := bnd_ok st
    refine tg_rd (by exact hx) S' rp hbt fun σ2 S2 sh2 wp => ?_
    have wp' : wipe σ2 own = σ' := by rw [wp own ht, ← hs, wipe_wipe]
    refine ⟨wp', _, Hb', env2, (by exact hx), S2.re, b, e3, hc, fun Hb3 H3 T3 le3 sh3 => ?_⟩
    have S3 := S2.un T3 sh3
    have nf2 : ∀ (j : Nat) (o : OB), env2[j]? = some (.ow o) → σ2[j]? ≠ some (some (.ref D0)) := fun j o e z => by
      obtain ⟨a, h1, h2, h3, h4⟩ := S2.ow j o e
      rw [z] at h1; cases h1
      obtain ⟨o', e'⟩ := sh2 j o e
      obtain ⟨a', k1, k2⟩ := S'.ow j o' e'
      by_cases hj : j ∈ own
      · rcases unown_get e' with ⟨z1, _⟩ | ⟨z1, _⟩
        · cases z1
        · exact z1 hj
      · have : (wipe σ2 own)[j]? = σ2[j]? := wipe_get hj
        rw [wp'] at this
        exact nf (shi.trans (Shp.refl _)) j o' e' (by rw [this]; exact z)
    obtain ⟨hD3, hb3⟩ := T3.stands hD' hb' nf2
    have le3' : Le Hb' Hb3 := le3
    have fin : ∀ {env5 : Evn} {Hb5 H5 : Hp} {ks' : List Key} {ds' : List D} {xs' : List V}, Stt K (reb B (unown own env) σ' Hb1 H1) env5 σ2 Hb5 H5 → Le Hbi Hb5 → Shp (unown own env_i) env5 → H5 D0 = some (.dK (ks'.zip xs')) → ks'.length = xs'.length → Hb5 D0 = none → RpAll K Hb5 ds' xs' → DSt K (reb B (unown own env) σ' Hb1 H1) own (unown own env) env5 σ' Hb1 D0 ks' ds' H5 :=
      fun {env5 Hb5 H5 ks' ds' xs'} S5 le5 sh5 h1 hl h2 h3 => ⟨Hb5, xs', by have z := S5.wipe (by exact hx) own; rw [wp'] at z; exact z, lei.trans le5, (shi.trans sh5).trans (Shp.unown own), h1, hl, h2, h3⟩
    cases b with
    | false =>
      simp only [Bool.false_eq_true, if_false] at st2 ⊢
      cases st2
      rcases rest with ⟨k, y, e, _⟩ | ⟨_, cg'⟩
      · cases e
      · exact ⟨hlt, _, ks, ys, cg', fin S3 (le'.trans le3') (sh2.trans sh3) hD3 hln hb3 (rpi.mono (le'.trans le3'))⟩
    | true =>
      simp only [if_true] at st2 ⊢
      obtain ⟨rk, e4, hrk, st3⟩ := bnd_ok st2
      obtain ⟨r, e5, hr, st4⟩ := bnd_ok st3
      obtain ⟨yv, e6, hy, st5⟩ := bnd_ok st4
      have hq : ∃ kk, keyR rk = some kk ∧ o = some (kk, yv) ∧ e6 = e1 := by
        cases hk : keyR rk with
        | none => rw [hk] at st5; cases st5
        | some kk => rw [hk] at st5; cases st5; exact ⟨kk, rfl, rfl, rfl⟩
      obtain ⟨kk, hkk, eo, ee⟩ := hq
      subst eo ee
      refine ⟨_, Hb3, e3, (by exact hx), S3.re, rk, e4, hrk, fun w Hb4 H4 T4 le4 sh4 nk rk' => ?_⟩
      have S4 := S3.un T4 sh4
      have nf3 : ∀ (j : Nat) (o : OB), e3[j]? = some (.ow o) → σ2[j]? ≠ some (some (.ref D0)) := fun j o e => by
        obtain ⟨o', e'⟩ := sh3 j o e
        exact nf2 j o' e'
      obtain ⟨hD4, hb4⟩ := T4.stands hD3 hb3 nf3
      have le4' : Le Hb3 Hb4 := le4
      have nf4 : ∀ (j : Nat) (o : OB), e4[j]? = some (.ow o) → σ2[j]? ≠ some (some (.ref D0)) := fun j o e => by
        obtain ⟨o', e'⟩ := sh4 j o e
        exact nf3 j o' e'
      have ew : w = kV kk := by
        cases rk with
        | val d => exact key_rp hkk rk'
        | bo i => cases hkk
        | fr o => cases hkk
      subst ew
      refine ⟨_, Hb4, e4, (by exact hx), S4.re, r, e5, hr, fun v Hb5 H5 T5 le5 sh5 nr rv => ?_⟩
      have S5 := S4.un T5 sh5
      obtain ⟨hD5, hb5⟩ := T5.stands hD4 hb4 nf4
      have le5' : Le Hb4 Hb5 := le5
      have nf5 : ∀ (j : Nat) (o : OB), e5[j]? = some (.ow o) → σ2[j]? ≠ some (some (.ref D0)) := fun j o e => by
        obtain ⟨o', e'⟩ := sh5 j o e
        exact nf4 j o' e'
      have g0 : GotE (Mo.imm r e5) (fun d' e' => d' = yv ∧ e' = e6) (fun _ _ => False) := by rw [hy]; exact ⟨rfl, rfl⟩
      obtain ⟨d', e', Hb6, ⟨z1, z2⟩, le6, sh6, T6, rp6⟩ := S5.re.imm (RVOk.reB nr rv) g0
      subst z1 z2
      have S6 := S5.un T6 sh6
      obtain ⟨hD6, hb6⟩ := T6.stands hD5 hb5 nf5
      have nf6 : ∀ (j : Nat) (o : OB), e'[j]? = some (.ow o) → σ2[j]? ≠ some (some (.ref D0)) := fun j o e => by
        obtain ⟨o', e''⟩ := sh6 j o e
        exact nf5 j o' e''
      have leA : Le Hbi Hb6 := (((le'.trans le3').trans le4').trans le5').trans le6
      rcases rest with ⟨k, y, e, hl, cg'⟩ | ⟨e, _⟩
      · cases e
        refine ⟨_, kk, rfl, hD5, by rw [List.length_zip, ← hln, Nat.min_self]; exact lim_lt hl, hlt, _, putKs ks kk, putX ks ys kk d', cg', ?_⟩
        have S7 := S6.updH (u := .dK (putK (ks.zip xs) kk v)) hD5 hb6 BD nf6
        exact fin S7 leA ((((sh2.trans sh3).trans sh4).trans sh5).trans sh6) (by rw [upd_same, put_zip hln]) (put_len hln) hb6 (put_rp rp6 (rpi.mono leA))
      · cases e
  · have e : i = ds.length := by omega
    subst e
    left
    refine ⟨wk.2.1 _ Hbi H lei Si.sub (Nat.le_refl _), ?_⟩
    have dn : ds.drop ds.length = [] := List.drop_length
    rw [dn] at cgi
    have cg2 : (some (Out.ok (ks, ys) env_i) : Option (Out (List Key × List D))) = some (.ok zz e2) := cgi
    cases cg2
    subst hs
    obtain ⟨SB, shB⟩ := Stt.unblk hx S Si shi
    exact q _ Hbi H SB lei shB ⟨D0, rfl, hbi, ⟨xs, hDi, hln, rpi⟩, (S.fresh hD).1, (S.fresh hD).2, fun j o e z => by
      obtain ⟨o', e'⟩ := shB j o e
      exact S.nofr hD j o' e' z⟩
section
variable {X : Cx} {W : WX} {ct : CT} {kx vx tg iter : Expr} {ifs : List Expr} {scope : Scope} {own : List (Str × Nat)} {t : List Nat} {fi : Mo (List D)} {fc : Mo Bool} {fk fe : Mo RV} {pos : Pos}
def dcF (own : List (Str × Nat)) (t : List Nat) (fi : Mo (List D)) (fc : Mo Bool) (fk fe : Mo RV) : Mo RV := fi.bnd fun ds env => match dcGo (dStep (own.map (·.2)) t fc fk fe) ds [] [] env with
      | some (.ok (ks, ys) env') => some (.ok (.fr (.dK ks ys)) (back env (own.map (·.2)) (unown (own.map (·.2)) env')))
      | some (.ex _ _) => none
      | none => none
theorem dcomp_rd {wi : TI} (hn : ct.xi = none) (ht : ∀ i ∈ t, i ∈ own.map (·.2))
    (ki : ∀ (B : Bs) (σ : L2.St) (Hb H : Hp) (env : Evn) (R : It → Hp → Prop), BX X ct B → Stt X.K B env σ Hb H →
      GotE (fi env) (fun ds env' => ∀ J Hb' H', Stt X.K B env' σ Hb' H' → Le Hb Hb' → Shp env env' → Wk X.K J Hb' ds → R J H') (Xw X W ct B σ Hb) → wi σ H R) : Rd X W ct (tDc wi (tgG X.K t) (tMt X.K fc) (tMs X.K fk) (tMs X.K fe) (own.map (·.2))) (dcF own t fi fc fk fe) := by
  intro B σ Hb H env Q hX S q
  refine ki B σ Hb H env _ hX S ((GotE.bnd q).same fun ds e1 g1 J Hb1 H1 S1 le1 sh1 wk D0 hD => ?_)
  cases cg : dcGo (dStep (own.map (·.2)) t fc fk fe) ds [] [] e1 with
  | none => simp only [cg] at g1; exact False.elim g1
  | some z =>
    cases z with
    | ex c e => simp only [cg] at g1; exact False.elim g1
    | ok zz e2 =>
      obtain ⟨ks, ys⟩ := zz
      simp only [cg] at g1
      exact dcomp_loop (hX.none_ hn) S1 wk ht cg hD fun v Hb' H' S' le' sh' rv => g1 v Hb' H' S' (le1.trans le') (sh1.trans sh') rv
def DcOk (X : Cx) (W : WX) (ct : CT) (kx vx tg iter : Expr) (ifs : List Expr) (scope : Scope) (f : Mo RV) : Prop := ∃ (own : List (Str × Nat)) (t : List Nat) (fi : Mo (List D)) (fc : Mo Bool) (fk fe : Mo RV),
  SI X W ct tg iter fi ∧ BlkOk X.N X.env.scope scope own ∧ (∀ i ∈ t, i ∈ own.map (·.2)) ∧
    (∀ (s : Shared) (H : Hp) (C : Addr) (cl : List (Str × Addr)) (fp : List Addr), PG (X.blk s H scope (compEnvC scope cl C X.env) fp) tg (tgG X.K t)) ∧
    (∀ (s : Shared) (H : Hp) (C : Addr) (cl : List (Str × Addr)) (fp : List Addr), PTs (X.blk s H scope (compEnvC scope cl C X.env) fp) ifs (tMt X.K fc)) ∧
    (∀ (s : Shared) (H : Hp) (C : Addr) (cl : List (Str × Addr)) (fp : List Addr), PE (X.blk s H scope (compEnvC scope cl C X.env) fp) kx (tMs X.K fk)) ∧
    (∀ (s : Shared) (H : Hp) (C : Addr) (cl : List (Str × Addr)) (fp : List Addr), PE (X.blk s H scope (compEnvC scope cl C X.env) fp) vx (tMs X.K fe)) ∧ (∀ x, foldedSetIterable iter X.env x = pure x) ∧ f = dcF own t fi fc fk fe
theorem DcOk.se {f : Mo RV} (hc : X.calm = true) (hn : ct.xi = none) (hN : X.N.Nodup) (h : DcOk X W ct kx vx tg iter ifs scope f) : SE X W ct (.DictComp kx vx [⟨tg, iter, ifs, 0⟩] scope pos) f := by
  obtain ⟨own, t, fi, fc, fk, fe, ⟨wi, pi, ki⟩, ok, ht, hg, hts, hk, he, hs, rfl⟩ := h
  exact ⟨_, pe_dc hc hN pi ok hg hts hk he hs, dcomp_rd hn ht ki⟩
end
section
variable {X : Cx} {W : WX} {ct : CT} {elt tg iter : Expr} {ifs : List Expr} {scope : Scope} {own : List (Str × Nat)} {t : List Nat} {fi : Mo (List D)} {fc : Mo Bool} {fe : Mo RV} {pos : Pos}
/-- what a comprehension is worth -/
def lcF (own : List (Str × Nat)) (t : List Nat) (fi : Mo (List D)) (fc : Mo Bool) (fe : Mo RV) : Mo RV := fi.bnd fun ds env => match compGo (cStep (own.map (·.2)) t fc fe) ds [] env with
      | some (.ok ys env') => some (.ok (.fr (.lst ys)) (back env (own.map (·.2)) (unown (own.map (·.2)) env')))
      | some (.ex _ _) => none
      | none => none
theorem comp_rd {wi : TI} (hn : ct.xi = none) (ht : ∀ i ∈ t, i ∈ own.map (·.2))
    (ki : ∀ (B : Bs) (σ : L2.St) (Hb H : Hp) (env : Evn) (R : It → Hp → Prop), BX X ct B → Stt X.K B env σ Hb H →
      GotE (fi env) (fun ds env' => ∀ J Hb' H', Stt X.K B env' σ Hb' H' → Le Hb Hb' → Shp env env' → Wk X.K J Hb' ds → R J H') (Xw X W ct B σ Hb) → wi σ H R) : Rd X W ct (tLc wi (tgG X.K t) (tMt X.K fc) (tMs X.K fe) (own.map (·.2))) (lcF own t fi fc fe) := by
  intro B σ Hb H env Q hX S q
  refine ki B σ Hb H env _ hX S ((GotE.bnd q).same fun ds e1 g1 J Hb1 H1 S1 le1 sh1 wk D0 hD => ?_)
  cases cg : compGo (cStep (own.map (·.2)) t fc fe) ds [] e1 with
  | none => simp only [cg] at g1; exact False.elim g1
  | some z =>
    cases z with
    | ex c e => simp only [cg] at g1; exact False.elim g1
    | ok ys e2 =>
      simp only [cg] at g1
      exact comp_loop (hX.none_ hn) S1 wk ht cg hD fun v Hb' H' S' le' sh' rv => g1 v Hb' H' S' (le1.trans le') (sh1.trans sh') rv
def LcOk (X : Cx) (W : WX) (ct : CT) (elt tg iter : Expr) (ifs : List Expr) (scope : Scope) (f : Mo RV) : Prop := ∃ (own : List (Str × Nat)) (t : List Nat) (fi : Mo (List D)) (fc : Mo Bool) (fe : Mo RV),
  SI X W ct tg iter fi ∧ BlkOk X.N X.env.scope scope own ∧ (∀ i ∈ t, i ∈ own.map (·.2)) ∧
    (∀ (s : Shared) (H : Hp) (C : Addr) (cl : List (Str × Addr)) (fp : List Addr), PG (X.blk s H scope (compEnvC scope cl C X.env) fp) tg (tgG X.K t)) ∧
    (∀ (s : Shared) (H : Hp) (C : Addr) (cl : List (Str × Addr)) (fp : List Addr), PTs (X.blk s H scope (compEnvC scope cl C X.env) fp) ifs (tMt X.K fc)) ∧
    (∀ (s : Shared) (H : Hp) (C : Addr) (cl : List (Str × Addr)) (fp : List Addr), PE (X.blk s H scope (compEnvC scope cl C X.env) fp) elt (tMs X.K fe)) ∧ (∀ x, foldedSetIterable iter X.env x = pure x) ∧ f = lcF own t fi fc fe
theorem LcOk.se {f : Mo RV} (hc : X.calm = true) (hn : ct.xi = none) (hN : X.N.Nodup) (h : LcOk X W ct elt tg iter ifs scope f) : SE X W ct (.ListComp elt [⟨tg, iter, ifs, 0⟩] scope pos) f := by
  obtain ⟨own, t, fi, fc, fe, ⟨wi, pi, ki⟩, ok, ht, hg, hts, he, hs, rfl⟩ := h
  exact ⟨_, pe_lc hc hN pi ok hg hts he hs, comp_rd hn ht ki⟩
end
end HB

set_option Elab.async false
set_option linter.all false
set_option maxRecDepth 100000
set_option maxHeartbeats 2000000
/-! HBSF: rows of values with things just made among them; calls that change one. -/
namespace HB
open PySem PySem.Spec PyProof.Rows L2

def Apt (v : V) (r : RV) (u : V) (q : RV) : Prop := ∀ o o', r = .fr o → q = .fr o' → u ≠ v
section
variable {K : Fg} {B : Bs} {env : Evn} {σ : L2.St} {Hb H : Hp}
/-- a row of values, things just made among them -/
def RFs (K : Fg) (B : Bs) (env : Evn) (σ : L2.St) (Hb H : Hp) : List RV → List V → Prop
  | [], vs => vs = []
  | r :: rs, vs => ∃ v vs', vs = v :: vs' ∧ RVOk K B env σ Hb H v r ∧ RFs K B env σ Hb H rs vs' ∧ ∀ (j : Nat) u q, rs[j]? = some q → vs'[j]? = some u → Apt v r u q
theorem RFs.imp {B' : Bs} {env' : Evn} {σ' : L2.St} {Hb' H' : Hp} : ∀ {rs : List RV} {vs : List V}, RFs K B env σ Hb H rs vs → (∀ (j : Nat) u q, rs[j]? = some q → vs[j]? = some u → RVOk K B env σ Hb H u q → RVOk K B' env' σ' Hb' H' u q) → RFs K B' env' σ' Hb' H' rs vs
  | [], _, h, _ => h
  | r :: rs, _, ⟨v, vs', e, h1, h2, h3⟩, k => by
    subst e
    exact ⟨v, vs', rfl, k 0 v r rfl rfl h1, RFs.imp h2 fun j u q a b c => k (j + 1) u q a b c, h3⟩
theorem RFs.len : ∀ {rs : List RV} {vs : List V}, RFs K B env σ Hb H rs vs → rs.length = vs.length
  | [], _, h => by cases h; rfl
  | r :: rs, _, ⟨v, vs', e, h1, h2, h3⟩ => by subst e; simp [RFs.len h2]
end
/-- arguments, things just made among them -/
def SF (X : Cx) (W : WX) (ct : CT) (es : List Expr) (f : Mo (List RV)) : Prop := ∃ ta : TA, PA X es ta ∧ ∀ (B : Bs) (σ : L2.St) (Hb H : Hp) (env : Evn) (Q : List V → Hp → Prop), BX X ct B → Stt X.K B env σ Hb H →
  GotE (f env) (fun rs env' => ∀ vs Hb' H', Stt X.K B env' σ Hb' H' → Le Hb Hb' → Shp env env' → RFs X.K B env' σ Hb' H' rs vs → Q vs H') (Xw X W ct B σ Hb) → ta σ H Q
section
variable {X : Cx} {W : WX} {ct : CT} {e : Expr} {es : List Expr} {fe : Mo RV} {fs : Mo (List RV)} {pos : Pos}
theorem SF.nil : SF X W ct [] (Mo.ret []) := ⟨_, pa_nil, fun B σ Hb H env Q hX S q => q [] Hb H S (Le.refl _) (Shp.refl _) rfl⟩
theorem SF.cons (h : SE X W ct e fe) (k : SF X W ct es fs) (hn : notStar e = true) : SF X W ct (e :: es) (fe.bnd fun x => fs.nox.bnd fun xs => Mo.ret (x :: xs)) := by
  obtain ⟨te, pe, ke⟩ := h
  obtain ⟨ts, ps, ks⟩ := k
  refine ⟨_, pa_cons pe ps (starEach_plain hn), fun B σ Hb H env Q hX S q => ke B σ Hb H env _ hX S (q.bnd.same fun x e1 g1 v Hb1 H1 S1 le1 sh1 rx => ks _ σ Hb1 H1 e1 _ (by exact hX) S1.re ?_)⟩
  have g2 := g1.bnd
  unfold Mo.nox at g2
  cases hf : fs e1 with
  | none => simp only [hf] at g2; exact False.elim g2
  | some t => cases t with
    | ex c e => simp only [hf] at g2; exact False.elim g2
    | ok xs e2 =>
      simp only [hf] at g2
      intro vs Hb2 H2 T le2 sh2 rs
      have S2 := S1.un T sh2
      refine g2 _ Hb2 H2 S2 (le1.trans le2) (sh1.trans sh2) ⟨v, vs, rfl, rx.stands S1 T sh2, RFs.imp rs fun j u q a b k => ?_, fun j u q a b o o' e1' e2' => ?_⟩
      · cases q with
        | val d => exact k
        | bo i => exact k
        | fr o =>
          obtain ⟨p, e, k1, k2, k3, k4, k5⟩ := k
          have k3' : H1 p = none := k3
          exact ⟨p, e, k1, k2, (S1.fresh k3').1, (S1.fresh k3').2, k5⟩
      · subst e1' e2'
        obtain ⟨p, ep, m1, m2, m3, m4⟩ := rx
        obtain ⟨w, hw⟩ := m2.there
        have : ∀ {rs : List RV} {vs : List V} {j : Nat}, RFs X.K (reb B e1 σ Hb1 H1) e2 σ Hb2 H2 rs vs → rs[j]? = some (.fr o') → vs[j]? = some u → RVOk X.K (reb B e1 σ Hb1 H1) e2 σ Hb2 H2 u (.fr o') := by
          intro rs
          induction rs with
          | nil => intro vs j _ h; simp at h
          | cons r rs ih =>
            intro vs j ⟨v, vs', e, h1, h2, _⟩ a b
            subst e
            cases j with
            | zero => cases a; cases b; exact h1
            | succ j => exact ih h2 a b
        obtain ⟨p', ep', n1, n2, n3, n4⟩ := this rs a b
        have n3' : H1 p' = none := n3
        rw [ep, ep']
        intro z
        cases z
        rw [hw] at n3'; cases n3'
end
section
variable {K : Fg} {B : Bs} {env : Evn} {σ : L2.St} {Hb Hc Hb' H' : Hp}
theorem vals_ok : ∀ {rs : List RV} {vs : List V} {ds : List D}, valsD rs = some ds → RFs K B env σ Hb Hc rs vs → RpAll K Hb ds vs
  | [], _, _, h, k => by
    cases h
    have k : _ = [] := k
    subst k
    exact rfl
  | r :: rs, _, ds, h, ⟨v, vs', e, h1, h2, _⟩ => by
    subst e
    cases r with
    | val d =>
      simp only [valsD] at h
      obtain ⟨ds', hd, rfl⟩ := Option.map_eq_some_iff.mp h
      exact ⟨_, _, rfl, h1, vals_ok hd h2⟩
    | _ => cases h
/-- behind a call that changes a thing that no slot owns -/
theorem Stt.aftF (S : Stt K B env σ Hb Hc) {a : Addr} (A : Aft Hb Hc Hb' H' (fun b => a = b)) (k3 : B.H a = none) (k4 : ¬ B.io a) (k5 : ∀ (i : Nat) (o : OB), env[i]? = some (.ow o) → σ[i]? ≠ some (some (.ref a))) : Stt K B env σ Hb' H' where
  len := S.len
  sub := A.sub
  im := fun i d e => by obtain ⟨v, h1, h2⟩ := S.im i d e; exact ⟨v, h1, Rp.mono A.le _ _ h2⟩
  ow := fun i o e => by
    obtain ⟨b, h1, h2, h3, h4⟩ := S.ow i o e
    have nb : a ≠ b := fun z => k5 i o e (by rw [h1, z])
    obtain ⟨u, hu⟩ := h3.there
    have hn : Hb' b = none := by
      cases q : Hb' b with
      | none => rfl
      | some x => rw [A.frs b x q h2] at hu; cases hu
    exact ⟨b, h1, hn, h3.mono A.le (by rw [A.keep b u hu nb, hu]), h4⟩
  inj := S.inj
  exb := S.exb.trans A.le
  keep := fun b o e n => A.keep b o (S.keep b o e n) fun z => by
    subst z
    rw [k3] at e; cases e
  frs := fun b o e n => by
    cases q : Hb b with
    | some x => exact S.frs b x q n
    | none => exact .inl (S.fresh (A.frs b o e q)).1
  iot := fun b z => by
    obtain ⟨o, e⟩ := S.iot b z
    exact ⟨o, A.keep b o e fun y => k4 (y ▸ z)⟩
  fx := S.fx
end
section
variable {X : Cx} {W : WX} {ct : CT} {e : Expr} {es : List Expr} {fs : Mo (List RV)} {pos p : Pos} {k n : Nat} {x : Str} {ps : List Str} {Φ : Fn}
theorem SE.callF {kl : List (List Str × List Nat)} (F : FnAt X.prog X.w X.K X.mg X.base ct.at_ k x ps kl (fun o ds => if o.isSome = true then Φ n o ds else none)) (hr : Room k X.A) (hgd : X.A.guards = some []) (hg : Gl X x) (tk : Takes X W) (hdb : (x == ("__debug__" : Str)) = false) (hp : allPlain (e :: es) = true) (hl : (e :: es).length = ps.length)
    (ht : ∀ env rs, (∃ e', fs env = some (.ok rs e')) → rs.length = ps.length) (h : SF X W ct (e :: es) fs) : SE X W ct (.Call (.Name x p) (e :: es) [] pos) (fs.bnd fun rs => callFD Φ n rs) := by
  obtain ⟨ts, pa, ks⟩ := h
  obtain ⟨fa, fd, hm, hk, hb, _, F⟩ := F
  refine ⟨_, pe_callF F hr hgd hg hm hk hb tk pa hdb hp, fun B σ Hb H env Q hX S q => ks B σ Hb H env _ hX S ?_⟩
  have q1 := q.bnd
  cases hf : fs env with
  | none => rw [hf] at q1; exact False.elim q1
  | some t =>
  cases t with
  | ex c e1 => rw [hf] at q1; exact q1
  | ok rs e1 =>
  rw [hf] at q1
  have hlen := ht env rs ⟨e1, hf⟩
  intro vs Hb1 H1 S1 le1 sh1 rv
  refine ⟨by rw [← RFs.len rv]; exact hlen, ?_⟩
  have q1 : GotE (callFD Φ n rs e1) (fun r env' => ∀ v Hb' H', Stt X.K B env' σ Hb' H' → Le Hb Hb' → Shp env env' → RVOk X.K B env' σ Hb' H' v r → Q v H') (Xw X W ct B σ Hb) := q1
  unfold callFD at q1
  cases rs with
  | nil => exact False.elim q1
  | cons r0 rs' =>
  cases r0 with
  | val d => exact False.elim q1
  | bo i => exact False.elim q1
  | fr o =>
  obtain ⟨v0, vs', ev, h0, rv', _⟩ := rv
  subst ev
  obtain ⟨a, ea, k1, k2, k3, k4, k5⟩ := h0
  subst ea
  cases hv : valsD rs' with
  | none => simp only [hv] at q1; exact False.elim q1
  | some ds =>
  simp only [hv] at q1
  refine ⟨Hb1, some o, ds, some a, S1.sub, ⟨vs', rfl, k1, k2, vals_ok hv rv'⟩, ?_⟩
  simp only [Option.isSome_some, if_true]
  cases hφ : Φ n (some o) ds with
  | none => simp only [hφ] at q1; exact False.elim q1
  | some t =>
    cases t with
    | ex c => simp only [hφ] at q1; exact False.elim q1
    | ok r io' =>
      cases io' with
      | none => simp only [hφ] at q1; exact False.elim q1
      | some o' =>
        simp only [hφ] at q1
        intro v Hb' H' A ik rt
        have A' : Aft Hb1 H1 Hb' H' (fun b => a = b) := ⟨A.le, A.sub, fun b o e z => A.keep b o e (fun y => z (Option.some.inj y)), A.frs⟩
        exact q1 v Hb' H' (S1.aftF A' k3 k4 k5) (le1.trans A.le) sh1 (RetOk.rv S1 rt (Shp.refl _))
end
end HB

set_option Elab.async false
set_option linter.all false
set_option maxRecDepth 100000
set_option maxHeartbeats 2000000
/-! HBSnd10: every expression that is compiled is worth what ev says. -/
namespace HB
open PySem PySem.Spec PyProof.Rows L2

section
variable {S : Sc} {Φ : Fn} {ct : CT} {k : Nat} {X : Cx} {W : WX}
theorem takes_no {X : Cx} : Takes X (fun _ _ _ _ => False) := fun _ _ x => by
  obtain ⟨_, _, _, _, _, _, _, _, _, _, _, _, _, _, _, _, z⟩ := x
  exact z.elim
theorem CkE.blk (C : CkE S Φ ct k X W) (s : Shared) (H : Hp) (scope : Scope) (Cc : Addr) (cl : List (Str × Addr)) (fp : List Addr) : CkE (S.blk scope) Φ ct k (X.blk s H scope (compEnvC scope cl Cc X.env) fp) (fun _ _ _ _ => False) where
  N := C.N
  sc := by show relS scope X.env.scope = relS scope S.sc; rw [C.sc]
  fnb := fun x h => h
  nd := C.nd
  xi := C.xi
  ck := C.ck
  xc := C.xc
  xk := C.xk
  un := C.un
  hot := C.hot
  gd := C.gd
  tk := takes_no
  fns := C.fns
  bl := C.bl
  sm := C.sm
theorem ST.ite {c a b : Expr} {fc fa fb : Mo RV} {pos : Pos} (hc : ST X W ct c fc.tst) (ha : ST X W ct a fa.tst) (hb : ST X W ct b fb.tst) : ST X W ct (.IfExp c a b pos) (Mo.tst (fc.tst.bnd fun t => if t = true then fa else fb)) := by
  obtain ⟨tc, pc, kc⟩ := hc
  obtain ⟨ta, pa, ka⟩ := ha
  obtain ⟨tb, pb, kb⟩ := hb
  refine ⟨fun σ H Q => tc σ H fun t H1 => if t = true then ta σ H1 Q else tb σ H1 Q, ⟨fun pins s σ H Q I h => ?_⟩, fun B σ Hb H env Q hX S q => ?_⟩
  · have e : ∀ w, PySem.isTrue (.IfExp c a b pos) X.env w = (PySem.isTrue c X.env (eval c X.env) >>= fun t => if t = true then PySem.isTrue a X.env (eval a X.env) else PySem.isTrue b X.env (eval b X.env)) := fun w => by rw [PySem.isTrue]
    rw [e]
    refine wpAny_bind (thn (pc.run pins s σ H _ I h) fun t s1 ⟨H1, I1, q1⟩ => ?_)
    cases t with
    | true => exact pa.run pins s1 σ H1 Q I1 q1
    | false => exact pb.run pins s1 σ H1 Q I1 q1
  · rw [tst_bnd] at q
    refine ST.go kc hX S q fun t e1 Hb1 H1 S1 g => ?_
    cases t with
    | true => exact ka B σ Hb1 H1 e1 _ hX S1 g
    | false => exact kb B σ Hb1 H1 e1 _ hX S1 g
theorem cSt_plain {e : Expr} (h : notStar e = true) : cSt S e = none := by
  cases e <;> first | rfl | cases h
theorem evA_len : ∀ {es : List Expr} {ia : IA} {env e' : Evn} {rs : List RV}, allPlain es = true → cA S es = some ia → evA Φ ia env = some (.ok rs e') → rs.length = es.length
  | [], ia, env, e', rs, _, h, g => by
    simp only [cA] at h
    cases h
    simp only [evA] at g
    cases g
    rfl
  | e :: es, ia, env, e', rs, hp, h, g => by
    have hp' : notStar e = true ∧ allPlain es = true := by simpa [allPlain] using hp
    simp only [cA, cSt_plain hp'.1] at h
    cases hx : cE S e with
    | none => simp [hx] at h
    | some x =>
      cases hr : cA S es with
      | none => simp [hx, hr] at h
      | some r =>
        simp only [hx, hr] at h
        cases h
        simp only [evA] at g
        obtain ⟨a, e1, g1, g2⟩ := bnd_ok g
        obtain ⟨b, e2, g3, g4⟩ := bnd_ok g2
        cases g4
        simp [evA_len hp'.2 hr g3]
theorem nox_ok {α : Type} {x : Mo α} {e e2 : Evn} {a : α} (h : x.nox e = some (.ok a e2)) : x e = some (.ok a e2) := by
  unfold Mo.nox at h
  cases hx : x e with
  | none => rw [hx] at h; cases h
  | some t => cases t with
    | ok b e3 => rw [hx] at h; cases h; rfl
    | ex c e3 => rw [hx] at h; cases h
theorem evF_len : ∀ {es : List Expr} {ia : IA} {env e' : Evn} {rs : List RV}, allPlain es = true → cA S es = some ia → evF Φ ia env = some (.ok rs e') → rs.length = es.length
  | [], ia, env, e', rs, _, h, g => by
    simp only [cA] at h
    cases h
    simp only [evF] at g
    cases g
    rfl
  | e :: es, ia, env, e', rs, hp, h, g => by
    have hp' : notStar e = true ∧ allPlain es = true := by simpa [allPlain] using hp
    simp only [cA, cSt_plain hp'.1] at h
    cases hx : cE S e with
    | none => simp [hx] at h
    | some x =>
      cases hr : cA S es with
      | none => simp [hx, hr] at h
      | some r =>
        simp only [hx, hr] at h
        cases h
        simp only [evF] at g
        obtain ⟨a, e1, g1, g2⟩ := bnd_ok g
        obtain ⟨b, e2, g3, g4⟩ := bnd_ok g2
        cases g4
        simp [evF_len hp'.2 hr (nox_ok g3)]
def FE (X : Cx) (W : WX) (ct : CT) (Φ : Fn) : List Expr → List IE → Prop
  | [], [] => True
  | e :: es, x :: xs => SE X W ct e (ev Φ x) ∧ FE X W ct Φ es xs
  | _, _ => False
theorem attr_base {o : Expr} {m : Str} {env : Env} (h : notSup o = true) : attributeBase o m env (eval o env) = eval o env := by
  cases o <;> try rfl
  rename_i f args kws p
  cases f <;> try rfl
  cases args <;> try rfl
  cases kws <;> first | rfl | cases h
theorem plain_ix {b : Expr} (h : notSlice b = true) : PlainIx b := by
  intro o i
  cases b <;> first | rfl | cases h
theorem no_marks {op : CmpOp} {b : Expr} (h : notSet b = true) : behindInMarks op b = false := by
  cases b <;> first | rfl | cases h
theorem folded {e : Expr} {env : Env} {x : Value} (h : notSet e = true) : foldedSetIterable e env x = pure x := by
  cases e <;> first | rfl | cases h
theorem isi_inv {S : Sc} {args : List Expr} {h0 : Option IE} {ie : IE} (h : (match args, h0 with
          | [_, t], some x => match tysArg S t with
            | some ts => if ts ≠ [] ∧ ts.length ≤ 1000 then some (IE.isi x ts) else none
            | none => none
          | _, _ => none) = some ie) : ∃ e t x ts, args = [e, t] ∧ h0 = some x ∧ tysArg S t = some ts ∧ ts ≠ [] ∧ ts.length ≤ 1000 ∧ ie = .isi x ts := by
  rcases args with _ | ⟨e, _ | ⟨t, _ | ⟨u, r⟩⟩⟩ <;> rcases h0 with _ | x <;> simp only at h <;> try cases h
  cases hts : tysArg S t with
  | none => rw [hts] at h; cases h
  | some ts =>
    rw [hts] at h
    rcases ite_or h with ⟨hc, h⟩ | ⟨_, h⟩
    · cases h; exact ⟨e, t, x, ts, rfl, rfl, hts, hc.1, hc.2, rfl⟩
    · cases h
theorem rng_inv {c : Bool} {args : List Expr} {h0 : Option (List IE)} {ie : IE} (h : (match args, h0 with
        | [_], some [x] => if c = true then some (IE.blt .listRng (.cons x .nil)) else none
        | _, _ => none) = some ie) : ∃ e x, args = [e] ∧ h0 = some [x] ∧ c = true ∧ ie = .blt .listRng (.cons x .nil) := by
  rcases args with _ | ⟨e, _ | ⟨t, r⟩⟩ <;> rcases h0 with _ | (_ | ⟨x, _ | ⟨y, ys⟩⟩) <;> simp only at h <;> try cases h
  rcases ite_or h with ⟨hc, h⟩ | ⟨_, h⟩
  · cases h; exact ⟨e, x, rfl, rfl, hc, rfl⟩
  · cases h
theorem rng_inv2 {c : Bool} {args : List Expr} {h0 : Option (List IE)} {ie : IE} (h : (match args, h0 with
        | [_], some [x, y] => if c = true then some (IE.listR2 x y) else none
        | _, _ => none) = some ie) : ∃ e x y, args = [e] ∧ h0 = some [x, y] ∧ c = true ∧ ie = .listR2 x y := by
  rcases args with _ | ⟨e, _ | ⟨t, r⟩⟩ <;> rcases h0 with _ | (_ | ⟨x, _ | ⟨y, _ | ⟨z, ys⟩⟩⟩) <;> simp only at h <;> try cases h
  rcases ite_or h with ⟨hc, h⟩ | ⟨_, h⟩
  · cases h; exact ⟨e, x, y, rfl, rfl, hc, rfl⟩
  · cases h
theorem lset_inv {c : Bool} {args : List Expr} {h0 : Option (List IE)} {ie : IE} (h : (match args, h0 with
        | [_], some [x] => if c = true then some (IE.blt .lenset (.cons x .nil)) else none
        | _, _ => none) = some ie) : ∃ e x, args = [e] ∧ h0 = some [x] ∧ c = true ∧ ie = .blt .lenset (.cons x .nil) := by
  rcases args with _ | ⟨e, _ | ⟨t, r⟩⟩ <;> rcases h0 with _ | (_ | ⟨x, _ | ⟨y, ys⟩⟩) <;> simp only at h <;> try cases h
  rcases ite_or h with ⟨hc, h⟩ | ⟨_, h⟩
  · cases h; exact ⟨e, x, rfl, rfl, hc, rfl⟩
  · cases h
theorem isSet_inv {S : Sc} {e : Expr} (h : isSetC S e = true) : ∃ g q1 a q2, e = .Call (.Name g q1) [a] [] q2 ∧ S.bl g = true ∧ g = ("set" : Str) ∧ notStar a = true := by
  unfold isSetC at h
  split at h
  · rename_i g q1 a q2
    simp only [Bool.and_eq_true, decide_eq_true_eq] at h
    exact ⟨g, q1, a, q2, rfl, h.1.1, h.1.2, h.2⟩
  · cases h
theorem isR2_inv {S : Sc} {e : Expr} (h : isRange2 S e = true) : ∃ g q1 a b q2, e = .Call (.Name g q1) [a, b] [] q2 ∧ S.bl g = true ∧ g = ("range" : Str) ∧ notStar a = true ∧ notStar b = true := by
  unfold isRange2 at h
  split at h
  · rename_i g q1 a b q2
    simp only [Bool.and_eq_true, decide_eq_true_eq] at h
    exact ⟨g, q1, a, b, q2, rfl, h.1.1.1, h.1.1.2, h.1.2, h.2⟩
  · cases h
theorem isR_inv {S : Sc} {e : Expr} (h : isRange S e = true) : ∃ g q1 a q2, e = .Call (.Name g q1) [a] [] q2 ∧ S.bl g = true ∧ g = ("range" : Str) ∧ notStar a = true := by
  unfold isRange at h
  split at h
  · rename_i g q1 a q2
    simp only [Bool.and_eq_true, decide_eq_true_eq] at h
    exact ⟨g, q1, a, q2, rfl, h.1.1, h.1.2, h.2⟩
  · cases h
theorem two_inv {b : Option Blt} {as : Option IA} {ie : IE} (h : (match b, as with
        | some b, some es => some (IE.blt b es)
        | _, _ => none) = some ie) : ∃ b' es, b = some b' ∧ as = some es ∧ ie = .blt b' es := by
  rcases b with _ | b <;> rcases as with _ | es <;> simp only at h <;> cases h
  exact ⟨b, es, rfl, rfl, rfl⟩
theorem rg_inv {args : List Expr} {as : Option (List IE)} {ii : II} (h : (match args, as with
        | [_], some [a] => some (II.rng1 a)
        | [_, _], some [a, b] => some (II.rng2 a b)
        | [_, _, _], some [a, b, c] => some (II.rng3 a b c)
        | _, _ => none) = some ii) : (∃ e x, args = [e] ∧ as = some [x] ∧ ii = .rng1 x) ∨ (∃ e f x y, args = [e, f] ∧ as = some [x, y] ∧ ii = .rng2 x y) ∨ ∃ e f g x y z, args = [e, f, g] ∧ as = some [x, y, z] ∧ ii = .rng3 x y z := by
  rcases args with _ | ⟨e, _ | ⟨f, _ | ⟨g, _ | ⟨g2, r⟩⟩⟩⟩ <;> rcases as with _ | (_ | ⟨x, _ | ⟨y, _ | ⟨z, _ | ⟨z2, ys⟩⟩⟩⟩) <;> simp only at h <;> cases h
  · exact .inl ⟨e, x, rfl, rfl, rfl⟩
  · exact .inr (.inl ⟨e, f, x, y, rfl, rfl, rfl⟩)
  · exact .inr (.inr ⟨e, f, g, x, y, z, rfl, rfl, rfl⟩)
theorem en_inv {args : List Expr} {as : Option (List IE)} {ii : II} (h : (match args, as with
        | [_], some [a] => some (II.enum a)
        | _, _ => none) = some ii) : ∃ e x, args = [e] ∧ as = some [x] ∧ ii = .enum x := by
  rcases args with _ | ⟨e, _ | ⟨f, r⟩⟩ <;> rcases as with _ | (_ | ⟨x, _ | ⟨y, ys⟩⟩) <;> simp only at h <;> cases h
  exact ⟨e, x, rfl, rfl, rfl⟩
theorem exIs_ok (C : CkE S Φ ct k X W) {args : List Expr} {fp pos : Pos} {ie : IE} (hb : S.bl "isinstance" = true) (h : exIs S args = some ie) : SE X W ct (.Call (.Name "isinstance" fp) args [] pos) (ev Φ ie) := by
  unfold exIs at h
  split at h
  · rename_i x p1 y p2
    cases hn : S.ex with
    | none => simp [hn] at h
    | some n =>
    simp only [hn] at h
    rcases ite_or h with ⟨hx, h⟩ | ⟨_, h⟩
    · subst hx
      cases hi : S.rd x with
      | none => simp [hi] at h
      | some i =>
      simp only [hi] at h
      obtain ⟨h1, h2, h3, h4⟩ := rd_ok C hi
      obtain ⟨g0, m0⟩ := bl_ok C hb
      have hix : ct.xi = some i := by
        rw [C.xi, hn]
        unfold Sc.rd at hi
        split at hi
        · exact hi
        · cases hi
      have key : ∀ (cs : List Nat) (cv : Value) (ve : V) (_ : PE X (.Name y p2) (tC ve)) (_ : ∀ u, RelV ve u → u = cv) (_ : ∀ c ∈ ct.ks, PySem.W.kitOne X.K (.ref (ct.at_ c)) cv = some (cs.contains c)),
          SE X W ct (.Call (.Name "isinstance" fp) [.Name x p1, .Name y p2] [] pos) (ev Φ (.isx i cs)) := fun cs cv ve pe rel kit => by
        rw [ev]
        refine ⟨fun σ H Q => ∃ a c oe pn, X.pn = (a, oe) :: pn ∧ c ∈ ct.ks ∧ Zc (.ref (ct.at_ c)) none oe ∧ (∃ vs, oe.data = .fields vs) ∧ σ[i]? = some (some (.ref a)) ∧ Q (.bl (cs.contains c)) H, ?_, fun B σ Hb H env Q hX S q => ?_⟩
        · refine ⟨fun pins s σ H Q I ⟨a, c, oe, pn, hp, hc, hz, hf, hs, q⟩ => ?_⟩
          have z := pe_callB (call_isE' hp ((C.xk c hc).2.2) hz hf) g0 m0 PyProof.Rows.boot_isinstance (pos := pos) (p := fp) (pa_cons (pe_var (pos := p1) h1 h2 h3 h4) (pa_cons pe pa_nil)) (by decide) (by decide)
          exact z.run pins s σ H Q I ⟨.ref a, hs, ve, cv, cs.contains c, rfl, rel, kit c hc, q⟩
        · unfold BX at hX
          rw [hix] at hX
          obtain ⟨a, c, oe, pn, e1, e2, e3, e4, e5⟩ := hX
          obtain ⟨k1, k2⟩ := S.fx i a c e1
          simp only [k2] at q
          exact ⟨a, c, oe, pn, e3, e2, e4, e5, k1, q _ Hb H S (Le.refl _) (Shp.refl _) rfl⟩
      cases hy : S.tb.cls.lookup y with
      | some d =>
        simp only [hy] at h
        rcases ite_or h with ⟨hg, h⟩ | ⟨_, h⟩
        · cases h
          obtain ⟨gy, hdb⟩ := gl_ok C hg
          have E := C.xc y d hy
          exact key _ (.ref (ct.at_ d)) (.ref (ct.at_ d)) (pe_glob gy E.mg (show RelV (.ref (ct.at_ d)) (.ref (ct.at_ d)) from rfl) hdb) (fun u r => r) fun c hc => ((C.xk c hc).1 y d hy).1
        · cases h
      | none =>
        simp only [hy] at h
        rcases ite_or h with ⟨⟨hv, hg⟩, h⟩ | ⟨_, h⟩
        · cases h
          subst hv
          obtain ⟨gy, my⟩ := bl_ok C hg
          refine key _ (.type "ValueError") (.ty "ValueError") (pe_bltn gy my (by decide +kernel) rfl) (fun u r => r) fun c hc => ?_
          rw [(C.xk c hc).2.1]
          rw [C.ck] at hc
          have z : (S.tb.cls.map (·.2)).contains c = true := by simpa using hc
          rw [z]
        · cases h
    · cases h
  · cases h
theorem call_ok (C : CkE S Φ ct k X W) {f : Str} {fp pos : Pos} {args : List Expr} {ie : IE} (h : cCall S f args (cA S args) (cIh S args) (cH S args) = some ie)
    (hA : ∀ ia, cA S args = some ia → SA X W ct args (evA Φ ia)) (hF : ∀ ia, allPlain args = true → cA S args = some ia → SF X W ct args (evF Φ ia)) (hH : ∀ e es x, args = e :: es → cE S e = some x → SE X W ct e (ev Φ x))
    (hI : ∀ e es as f2 args2 kw p, args = e :: es → e = .Call f2 args2 kw p → cEs S args2 = some as → FE X W ct Φ args2 as) : SE X W ct (.Call (.Name f fp) args [] pos) (ev Φ ie) := by
  unfold cCall at h
  rcases ite_or h with ⟨hp, h⟩ | ⟨_, h⟩
  · split at h
    · -- a def of the module
      rename_i n io ps kl hl
      split at h
      · rename_i hc
        rcases ite_or h with ⟨hio, h⟩ | ⟨_, h⟩
        · obtain ⟨ia, hia, rfl⟩ := Option.map_eq_some_iff.mp h
          rw [Bool.and_eq_true] at hio
          obtain ⟨hio, hfr⟩ := hio
          subst hio
          cases args with
          | nil => cases hfr
          | cons e es =>
            obtain ⟨hg, hdb⟩ := gl_ok C hc.1
            rw [ev]
            exact SE.callF (C.fns f n true ps kl hl) (C.room hc.2.2) C.gd hg C.tk hdb hp hc.2.1 (fun env rs ⟨e', he⟩ => by rw [evF_len hp hia he]; exact hc.2.1) (hF ia hp hia)
        obtain ⟨ia, hia, rfl⟩ := Option.map_eq_some_iff.mp h
        cases args with
        | nil =>
          obtain ⟨hg, hdb⟩ := gl_ok C hc.1
          have e0 : ps = [] := by cases ps with
            | nil => rfl
            | cons _ _ => simp at hc
          subst e0
          simp only [cA] at hia
          cases hia
          rw [ev, evA]
          exact SE.call0 (C.fns f n io [] kl hl) (C.room hc.2.2) C.gd hg C.tk hdb
        | cons e es =>
          obtain ⟨hg, hdb⟩ := gl_ok C hc.1
          rw [ev]
          exact SE.call (C.fns f n io ps kl hl) (C.room hc.2.2) C.gd hg C.tk hdb hp hc.2.1 (fun env rs ⟨e', he⟩ => by rw [evA_len hp hia he]; exact hc.2.1) (hA ia hia)
      · cases h
    · rcases ite_or h with ⟨hf, h⟩ | ⟨_, h⟩
      · -- isinstance
        subst hf
        rcases ite_or h with ⟨hb, h⟩ | ⟨_, h⟩
        · cases hxs : exIs S args with
          | some e0 =>
            simp only [hxs] at h
            cases h
            exact exIs_ok C hb hxs
          | none =>
          simp only [hxs] at h
          obtain ⟨e, t, x, ts, rfl, hx, hts, h1, h2, rfl⟩ := isi_inv h
          have hp' : notStar e = true ∧ allPlain [t] = true := by simpa [allPlain] using hp
          rw [ev]
          exact SE.isi (fun x hx => bl_ok C hx) hb hts h1 h2 hp'.1 (SE.set (hH e [t] x rfl (by simpa [cH] using hx)))
        · cases h
      · rcases ite_or h with ⟨hf, h⟩ | ⟨_, h⟩
        · -- list(range(n))
          obtain ⟨hf, hr⟩ := hf
          subst hf
          obtain ⟨e, x, rfl, hx, hb, rfl⟩ := rng_inv h
          obtain ⟨g, q1, a, q2, rfl, h1, rfl, h3⟩ := isR_inv (S := S) (e := e) (by simpa using hr)
          have fe := hI _ [] [x] _ _ _ _ rfl rfl (by simpa [cIh, cArgs] using hx)
          simp only [Bool.and_eq_true] at hb
          obtain ⟨hl, ml⟩ := bl_ok C hb.1
          obtain ⟨hr1, mr⟩ := bl_ok C h1
          rw [ev, evA, evA]
          exact SE.listRng (C.calm hb.2) hl ml hr1 mr h3 (SE.set fe.1)
        · rcases ite_or h with ⟨hf, h⟩ | ⟨_, h⟩
          · -- list(range(a, b))
            obtain ⟨hf, hr⟩ := hf
            subst hf
            obtain ⟨e, x, y, rfl, hx, hb, rfl⟩ := rng_inv2 h
            obtain ⟨g, q1, a, b, q2, rfl, h1, rfl, h3, h4⟩ := isR2_inv (S := S) (e := e) (by simpa using hr)
            have fe := hI _ [] [x, y] _ _ _ _ rfl rfl (by simpa [cIh, cArgs] using hx)
            simp only [Bool.and_eq_true] at hb
            obtain ⟨hl, ml⟩ := bl_ok C hb.1
            obtain ⟨hr1, mr⟩ := bl_ok C h1
            rw [ev]
            exact SE.listR2 (C.calm hb.2) hl ml hr1 mr h3 h4 (SE.set fe.1) (SE.set fe.2.1)
          rcases ite_or h with ⟨hf, h⟩ | ⟨_, h⟩
          · -- len(set(a))
            obtain ⟨hf, hr⟩ := hf
            subst hf
            obtain ⟨e, x, rfl, hx, hb, rfl⟩ := lset_inv h
            obtain ⟨g, q1, a, q2, rfl, h1, rfl, h3⟩ := isSet_inv (S := S) (e := e) (by simpa using hr)
            have fe := hI _ [] [x] _ _ _ _ rfl rfl (by simpa [cIh, cArgs] using hx)
            simp only [Bool.and_eq_true] at hb
            obtain ⟨hl, ml⟩ := bl_ok C hb.1
            obtain ⟨hr1, mr⟩ := bl_ok C h1
            rw [ev, evA, evA]
            exact SE.lenset (C.calm hb.2) hl ml hr1 mr h3 (SE.set fe.1)
          obtain ⟨b, es, hb, hes, rfl⟩ := two_inv h
          obtain ⟨hbl, r, hr1, hr2⟩ := blt_ok C.calm C.gd (by have := C.un; omega) C.sm hb
          obtain ⟨hg, hm⟩ := bl_ok C hbl
          cases args with
          | nil =>
            unfold bltOf at hb
            rcases ite_or hb with ⟨_, hb⟩ | ⟨_, hb⟩
            · repeat (rcases ite_or hb with ⟨e, _⟩ | ⟨_, hb⟩; exact absurd e.2 (by decide))
              cases hb
            · cases hb
          | cons e es' =>
            rw [ev]
            exact SE.blt hr1 hr2 hg hm hp (hA es hes)
  · cases h
theorem evK_len : ∀ {kws : List Keyword} {ia : IA} {env e' : Evn} {rs : List RV}, cK S kws = some ia → evA Φ ia env = some (.ok rs e') → rs.length = kws.length
  | [], ia, env, e', rs, h, g => by
    simp only [cK] at h
    cases h
    simp only [evA] at g
    cases g
    rfl
  | ⟨nm, e, p⟩ :: es, ia, env, e', rs, h, g => by
    simp only [cK] at h
    cases hx : cE S e with
    | none => simp [hx] at h
    | some x =>
      cases hr : cK S es with
      | none => simp [hx, hr] at h
      | some r =>
        simp only [hx, hr] at h
        cases h
        simp only [evA] at g
        obtain ⟨a, e1, g1, g2⟩ := bnd_ok g
        obtain ⟨b, e2, g3, g4⟩ := bnd_ok g2
        cases g4
        simp [evK_len hr g3]
theorem mem_lk {α β : Type} [BEq α] [LawfulBEq α] : ∀ {l : List (α × β)} {a : α} {b : β}, l.lookup a = some b → (a, b) ∈ l
  | [], _, _, h => by cases h
  | (x, y) :: r, a, b, h => by
    rw [List.lookup_cons] at h
    cases e : a == x with
    | true =>
      simp only [e] at h
      cases h
      rw [eq_of_beq e]
      exact List.mem_cons_self
    | false =>
      simp only [e] at h
      exact List.mem_cons_of_mem _ (mem_lk h)
theorem callK_ok (C : CkE S Φ ct k X W) {f : Str} {fp pos : Pos} {kws : List Keyword} {ie : IE} (h : cCallK S f kws (cK S kws) = some ie) (hK : ∀ ia, cK S kws = some ia → SK X W ct kws (evA Φ ia)) : SE X W ct (.Call (.Name f fp) [] kws pos) (ev Φ ie) := by
  unfold cCallK at h
  cases hl : S.tb.fns.lookup f with
  | none => simp [hl] at h
  | some t =>
  obtain ⟨n, io, ps, kl⟩ := t
  cases hn : kwNames kws with
  | none => cases io <;> simp [hl, hn] at h
  | some ks =>
  cases io with
  | true => simp [hl, hn] at h
  | false =>
  simp only [hl, hn] at h
  cases hk : kl.lookup ks with
  | none => simp [hk] at h
  | some perm =>
  simp only [hk] at h
  rcases ite_or h with ⟨⟨⟨h1, hcm⟩, h2, h3⟩, h⟩ | ⟨_, h⟩
  · obtain ⟨ia, hia, rfl⟩ := Option.map_eq_some_iff.mp h
    obtain ⟨hg, hdb⟩ := gl_ok C h1
    rw [ev]
    exact SE.callK (C.fns f n false ps kl hl) (C.room hcm) C.gd hg C.tk hdb hn (mem_lk hk) h2 h3 (fun env rs ⟨e', he⟩ => evK_len hia he) (hK ia hia)
  · cases h
theorem iter_ok (C : CkE S Φ ct k X W) {tg iter : Expr} {ii : II} (h : cI S iter (cE S iter) (cArgs S iter) = some ii) (htg : tgOk tg ii = true) (hx : ∀ x, cE S iter = some x → SE X W ct iter (ev Φ x))
    (ha : ∀ f args kw p as, iter = .Call f args kw p → cEs S args = some as → FE X W ct Φ args as) : SI X W ct tg iter (evI Φ ii) ∧ notSet iter = true := by
  have seq : ∀ {x : IE}, cE S iter = some x → SI X W ct tg iter (evI Φ (.seq x)) := fun {x} h => by
    rw [evI]
    exact SI.seq (SE.set (hx x h))
  have base : ∀ {ii : II}, (cE S iter).map II.seq = some ii → SI X W ct tg iter (evI Φ ii) := fun {ii} h => by
    obtain ⟨x, h1, rfl⟩ := Option.map_eq_some_iff.mp h
    exact seq h1
  cases iter with
  | Set es k p => simp [cI] at h
  | Call f args kws p =>
    refine ⟨?_, rfl⟩
    cases f with
    | Name f fp =>
      cases kws with
      | cons kw kws => exact base h
      | nil =>
        simp only [cI] at h
        rcases ite_or h with ⟨hf, h⟩ | ⟨_, h⟩
        · obtain ⟨hb, rfl⟩ := hf
          obtain ⟨hg, hm⟩ := bl_ok C hb
          rcases ite_or h with ⟨hp, h⟩ | ⟨_, h⟩
          · simp only [cArgs] at h
            rcases rg_inv h with ⟨a, x, rfl, hx', rfl⟩ | ⟨a, b, x, y, rfl, hx', rfl⟩ | ⟨a, b, c, x, y, z, rfl, hx', rfl⟩
            · have fe := ha _ _ _ _ _ rfl hx'
              have hp' : notStar a = true := by simpa [allPlain] using hp
              rw [evI]
              exact SI.rng1 hg hm hp' fe.1
            · have fe := ha _ _ _ _ _ rfl hx'
              have hp' : notStar a = true ∧ notStar b = true := by simpa [allPlain] using hp
              rw [evI]
              exact SI.rng2 hg hm hp'.1 hp'.2 (SE.set fe.1) (SE.set fe.2.1)
            · have fe := ha _ _ _ _ _ rfl hx'
              have hp' : notStar a = true ∧ notStar b = true ∧ notStar c = true := by simpa [allPlain, and_assoc] using hp
              rw [evI]
              exact SI.rng3 hg hm hp'.1 hp'.2.1 hp'.2.2 (SE.set fe.1) (SE.set fe.2.1) (SE.set fe.2.2.1)
          · cases h
        · rcases ite_or h with ⟨hf, h⟩ | ⟨_, h⟩
          · obtain ⟨hb, rfl⟩ := hf
            obtain ⟨hg, hm⟩ := bl_ok C hb
            rcases ite_or h with ⟨hp, h⟩ | ⟨_, h⟩
            · simp only [cArgs] at h
              obtain ⟨a, x, rfl, hx', rfl⟩ := en_inv h
              have fe := ha _ _ _ _ _ rfl hx'
              have hp' : notStar a = true := by simpa [allPlain] using hp
              rw [evI]
              exact SI.enum hg hm hp' htg (SE.set fe.1)
            · cases h
          · exact base h
    | _ => exact base h
  | _ => exact ⟨base h, rfl⟩
theorem comp_ok (C : CkE S Φ ct k X W) {elt tg iter : Expr} {ifs : List Expr} {scope : Scope} {ie : IE}
    (h : cComp S tg scope (cI S iter (cE S iter) (cArgs S iter)) (cIf (S.blk scope) ifs) (cE (S.blk scope) elt) = some ie)
    (hx : ∀ x, cE S iter = some x → SE X W ct iter (ev Φ x)) (ha : ∀ f args kw p as, iter = .Call f args kw p → cEs S args = some as → FE X W ct Φ args as)
    (hif : ∀ (X' : Cx) e x, ifs = [e] → CkE (S.blk scope) Φ ct k X' (fun _ _ _ _ => False) → cE (S.blk scope) e = some x → ST X' (fun _ _ _ _ => False) ct e (ev Φ x).tst)
    (hel : ∀ (X' : Cx) x, CkE (S.blk scope) Φ ct k X' (fun _ _ _ _ => False) → cE (S.blk scope) elt = some x → SE X' (fun _ _ _ _ => False) ct elt (ev Φ x)) :
    S.cm = true ∧ LcOk X W ct elt tg iter ifs scope (ev Φ ie) := by
  unfold cComp at h
  split at h
  · rename_i t it c e ht hit hc he
    split at h
    · rename_i hcond
      cases h
      simp only [Bool.and_eq_true, List.all_eq_true, List.any_eq_true, beq_iff_eq] at hcond
      obtain ⟨⟨⟨h0, h1⟩, h2⟩, h3⟩ := hcond
      have xn := C.xn h0
      refine ⟨h0, ?_⟩
      obtain ⟨si, ns⟩ := iter_ok C hit h1 hx ha
      rw [ev]
      have own_in : ∀ i ∈ t, i ∈ (ownOf S.N scope.names).map (·.2) := fun i hi => by
        obtain ⟨p, hp, e⟩ := h3 i hi
        exact List.mem_map.mpr ⟨p, hp, e⟩
      refine ⟨ownOf S.N scope.names, t, evI Φ it, evC Φ c, (ev Φ e).set, si, by rw [C.N, C.sc]; exact blkOk_by h2, own_in,
        fun s H Cc cl fp => tgt_ok (C.blk s H scope Cc cl fp) ht, fun s H Cc cl fp => (by
          cases ifs with
          | nil => simp only [cIf] at hc; cases hc; rw [evC]; exact pts_no
          | cons e0 es0 =>
            cases es0 with
            | nil =>
              simp only [cIf] at hc
              obtain ⟨x, hx1, rfl⟩ := Option.map_eq_some_iff.mp hc
              rw [evC]
              exact PTs.canon xn (hif _ e0 x rfl (C.blk s H scope Cc cl fp) hx1)
            | cons e1 es1 => simp only [cIf] at hc; cases hc),
        fun s H Cc cl fp => SEs.canon xn (SE.set (hel _ e (C.blk s H scope Cc cl fp) he)), fun x => folded ns, rfl⟩
    · cases h
  · cases h
theorem dcomp_ok (C : CkE S Φ ct k X W) {kx vx tg iter : Expr} {ifs : List Expr} {scope : Scope} {ie : IE}
    (h : cDcomp S tg scope (cI S iter (cE S iter) (cArgs S iter)) (cIf (S.blk scope) ifs) (cE (S.blk scope) kx) (cE (S.blk scope) vx) = some ie)
    (hx : ∀ x, cE S iter = some x → SE X W ct iter (ev Φ x)) (ha : ∀ f args kw p as, iter = .Call f args kw p → cEs S args = some as → FE X W ct Φ args as)
    (hif : ∀ (X' : Cx) e x, ifs = [e] → CkE (S.blk scope) Φ ct k X' (fun _ _ _ _ => False) → cE (S.blk scope) e = some x → ST X' (fun _ _ _ _ => False) ct e (ev Φ x).tst)
    (hk : ∀ (X' : Cx) x, CkE (S.blk scope) Φ ct k X' (fun _ _ _ _ => False) → cE (S.blk scope) kx = some x → SE X' (fun _ _ _ _ => False) ct kx (ev Φ x))
    (hel : ∀ (X' : Cx) x, CkE (S.blk scope) Φ ct k X' (fun _ _ _ _ => False) → cE (S.blk scope) vx = some x → SE X' (fun _ _ _ _ => False) ct vx (ev Φ x)) :
    S.cm = true ∧ DcOk X W ct kx vx tg iter ifs scope (ev Φ ie) := by
  unfold cDcomp at h
  split at h
  · rename_i t it c kk e ht hit hc hkk he
    split at h
    · rename_i hcond
      cases h
      simp only [Bool.and_eq_true, List.all_eq_true, List.any_eq_true, beq_iff_eq] at hcond
      obtain ⟨⟨⟨h0, h1⟩, h2⟩, h3⟩ := hcond
      have xn := C.xn h0
      refine ⟨h0, ?_⟩
      obtain ⟨si, ns⟩ := iter_ok C hit h1 hx ha
      rw [ev]
      have own_in : ∀ i ∈ t, i ∈ (ownOf S.N scope.names).map (·.2) := fun i hi => by
        obtain ⟨p, hp, e⟩ := h3 i hi
        exact List.mem_map.mpr ⟨p, hp, e⟩
      refine ⟨ownOf S.N scope.names, t, evI Φ it, evC Φ c, (ev Φ kk).set, (ev Φ e).set, si, by rw [C.N, C.sc]; exact blkOk_by h2, own_in,
        fun s H Cc cl fp => tgt_ok (C.blk s H scope Cc cl fp) ht, fun s H Cc cl fp => (by
          cases ifs with
          | nil => simp only [cIf] at hc; cases hc; rw [evC]; exact pts_no
          | cons e0 es0 =>
            cases es0 with
            | nil =>
              simp only [cIf] at hc
              obtain ⟨x, hx1, rfl⟩ := Option.map_eq_some_iff.mp hc
              rw [evC]
              exact PTs.canon xn (hif _ e0 x rfl (C.blk s H scope Cc cl fp) hx1)
            | cons e1 es1 => simp only [cIf] at hc; cases hc),
        fun s H Cc cl fp => SEs.canon xn (SE.set (hk _ kk (C.blk s H scope Cc cl fp) hkk)), fun s H Cc cl fp => SEs.canon xn (SE.set (hel _ e (C.blk s H scope Cc cl fp) he)), fun x => folded ns, rfl⟩
    · cases h
  · cases h
end
end HB

set_option Elab.async false
set_option linter.all false
set_option maxRecDepth 100000
set_option maxHeartbeats 2000000
/-! HBSnd11: the induction over expressions. -/
namespace HB
open PySem PySem.Spec PyProof.Rows L2

theorem rev_inv {s : Expr} (h : isRev s = true) : ∃ k p1 p2 p3, s = .Slice none none (some (.UnaryOp .USub (.Constant (.int 1) k p1) p2)) p3 := by
  unfold isRev at h
  split at h
  · exact ⟨_, _, _, _, rfl⟩
  · cases h
theorem sl_inv {S : Sc} {s : Expr} {l u : IO} (h : cSl S s = some (l, u)) : ∃ lo hi p, s = .Slice lo hi none p ∧ cO S lo = some l ∧ cO S hi = some u := by
  cases s with
  | Slice lo hi st p =>
    simp only [cSl] at h
    cases st with
    | some st => simp at h
    | none =>
      cases hl : cO S lo with
      | none => simp [hl] at h
      | some l1 =>
        cases hu : cO S hi with
        | none => simp [hl, hu] at h
        | some u1 =>
          simp only [hl, hu] at h
          cases h
          exact ⟨lo, hi, p, rfl, hl, hu⟩
  | _ => simp [cSl] at h
theorem cmp_inv {S : Sc} {a : Expr} {ops : List CmpOp} {cs : List Expr} {p : Pos} {ie : IE} (h : cE S (.Compare a ops cs p) = some ie) :
    (∃ o1 b x y o, ops = [o1] ∧ cs = [b] ∧ cE S a = some x ∧ cE S b = some y ∧ copOf o1 = some o ∧ notSet b = true ∧ ie = .cmp o x y) ∨
    ∃ o1 o2 b c x y z o o', ops = [o1, o2] ∧ cs = [b, c] ∧ cE S a = some x ∧ cE S b = some y ∧ cE S c = some z ∧ copOf o1 = some o ∧ copOf o2 = some o' ∧ notSet b = true ∧ notSet c = true ∧ ie = .chn o o' x y z := by
  simp only [cE] at h
  rcases ite_or h with ⟨hs, h⟩ | ⟨_, h⟩
  · cases hx : cE S a with
    | none => rcases ops with _ | ⟨o1, _ | ⟨o2, _ | ⟨o3, os⟩⟩⟩ <;> simp [hx] at h
    | some x =>
    rcases ops with _ | ⟨o1, _ | ⟨o2, _ | ⟨o3, os⟩⟩⟩
    · simp at h
    · rcases cs with _ | ⟨b, _ | ⟨c, r⟩⟩
      · simp [hx, cEs] at h
      · cases hb : cE S b with
        | none => simp [hx, hb, cEs] at h
        | some y =>
        cases ho : copOf o1 with
        | none => simp [ho] at h
        | some o =>
        simp only [hx, hb, ho, cEs, List.map] at h
        cases h
        exact .inl ⟨o1, b, x, y, o, rfl, rfl, rfl, hb, ho, by simpa using hs, rfl⟩
      · cases hb : cE S b <;> cases hc : cE S c <;> cases hr : cEs S r <;> simp [hx, hb, hc, hr, cEs] at h
    · rcases cs with _ | ⟨b, _ | ⟨c, _ | ⟨d, r⟩⟩⟩
      · cases ho : copOf o1 <;> cases ho2 : copOf o2 <;> simp [hx, cEs, ho, ho2] at h
      · cases ho : copOf o1 <;> cases ho2 : copOf o2 <;> cases hb : cE S b <;> simp [hx, hb, cEs, ho, ho2] at h
      · cases hb : cE S b with
        | none => simp [hx, hb, cEs] at h
        | some y =>
        cases hc : cE S c with
        | none => simp [hx, hb, hc, cEs] at h
        | some z =>
        cases ho : copOf o1 with
        | none => simp [ho] at h
        | some o =>
        cases ho2 : copOf o2 with
        | none => simp [ho2] at h
        | some o' =>
        simp only [hx, hb, hc, ho, ho2, cEs, List.map] at h
        cases h
        have ns : notSet b = true ∧ notSet c = true := by simpa using hs
        exact .inr ⟨o1, o2, b, c, x, y, z, o, o', rfl, rfl, rfl, hb, hc, ho, ho2, ns.1, ns.2, rfl⟩
      · cases ho : copOf o1 <;> cases ho2 : copOf o2 <;> cases hb : cE S b <;> cases hc : cE S c <;> cases hd : cE S d <;> cases hr : cEs S r <;> simp [hx, hb, hc, hd, hr, cEs, ho, ho2] at h
    · cases ho : copOf o1 <;> cases ho2 : copOf o2 <;> cases ho3 : copOf o3 <;> simp [ho, ho2, ho3] at h
  · cases h
theorem mth_ok {X : Cx} {name : Str} {n : Nat} {m : Mth} (h : mthOf name n = some m) : ∃ id r, Slot "list" name id ∧ typeOf (.builtin id) = pure (.type "method_descriptor") ∧ MtR X id r ∧ MthOk X m r := by
  unfold mthOf at h
  rcases ite_or h with ⟨e, h⟩ | ⟨_, h⟩
  · cases h; rw [e.1]; exact ⟨_, _, PySem.F.slot_list_append, PySem.F.type_list_append, mt_append, .inl ⟨rfl, mut_append⟩⟩
  rcases ite_or h with ⟨e, h⟩ | ⟨_, h⟩
  · cases h; rw [e.1]; exact ⟨_, _, PySem.F.slot_list_pop, PySem.F.type_list_pop, mt_pop, .inl ⟨rfl, mut_pop⟩⟩
  rcases ite_or h with ⟨e, h⟩ | ⟨_, h⟩
  · cases h; rw [e.1]; exact ⟨_, _, PySem.F.slot_list_pop, PySem.F.type_list_pop, mt_popAt, .inl ⟨rfl, mut_popAt⟩⟩
  rcases ite_or h with ⟨e, h⟩ | ⟨_, h⟩
  · cases h; rw [e.1]; exact ⟨_, _, PySem.F.slot_list_extend, PySem.F.type_list_extend, mt_extend, .inl ⟨rfl, mut_extend⟩⟩
  rcases ite_or h with ⟨e, h⟩ | ⟨_, h⟩
  · cases h; rw [e.1]; exact ⟨_, _, PySem.F.slot_list_index, PySem.F.type_list_index, mt_index, .inr ⟨rfl, rd_index⟩⟩
  rcases ite_or h with ⟨e, h⟩ | ⟨_, h⟩
  · cases h; rw [e.1]; exact ⟨_, _, PySem.F.slot_list_remove, PySem.F.type_list_remove, mt_remove, .inl ⟨rfl, mut_remove⟩⟩
  rcases ite_or h with ⟨e, h⟩ | ⟨_, h⟩
  · cases h; rw [e.1]; exact ⟨_, _, PySem.F.slot_list_count, PySem.F.type_list_count, mt_countF, .inr ⟨rfl, rd_count⟩⟩
  · cases h
theorem get_inv {m : Str} {x : IE} {es : Option (List IE)} {ie : IE} (h : cGet m (some x) es = some ie) : m = ("get" : Str) ∧ ((∃ k, es = some [k] ∧ ie = .get1 x k) ∨ ∃ k z, es = some [k, z] ∧ ie = .get2 x k z) := by
  unfold cGet at h
  rcases ite_or h with ⟨e, h⟩ | ⟨_, h⟩
  · refine ⟨e, ?_⟩
    rcases es with _ | (_ | ⟨k, _ | ⟨z, _ | ⟨y, ys⟩⟩⟩) <;> simp only at h <;> cases h
    · exact .inl ⟨k, rfl, rfl⟩
    · exact .inr ⟨k, z, rfl, rfl⟩
  · cases h
section
variable {Φ : Fn} {ct : CT} {k : Nat}
mutual
theorem sE : ∀ (e : Expr) (S : Sc) (X : Cx) (W : WX) (ie : IE), CkE S Φ ct k X W → cE S e = some ie → SE X W ct e (ev Φ ie)
  | .Constant c kk p, S, X, W, ie, C, h => by
    cases c <;> simp only [cE] at h <;> try cases h
    · rw [ev]; exact SE.cst pe_non fun _ => rfl
    · rw [ev]; exact SE.cst pe_bl fun _ => rfl
    · rw [ev]; exact SE.cst pe_int fun _ => rfl
    · rw [ev]; exact SE.cst pe_str fun _ => rfl
  | .Name x p, S, X, W, ie, C, h => by
    simp only [cE] at h
    obtain ⟨i, hi, rfl⟩ := Option.map_eq_some_iff.mp h
    obtain ⟨h1, h2, h3, h4⟩ := rd_ok C hi
    exact SE.var h1 h2 h3 h4
  | .BinOp a op b p, S, X, W, ie, C, h => by
    simp only [cE] at h
    cases h1 : bopOf op with
    | none => simp [h1] at h
    | some o =>
    cases h2 : cE S a with
    | none => simp [h1, h2] at h
    | some x =>
    cases h3 : cE S b with
    | none => simp [h1, h2, h3] at h
    | some y =>
    simp only [h1, h2, h3] at h
    cases h
    obtain ⟨r, r1, r2⟩ := bin_op (X := X) h1
    rw [ev]
    exact SE.bin r1 r2 (SE.set (sE a S X W x C h2)) (SE.set (sE b S X W y C h3))
  | .UnaryOp op a p, S, X, W, ie, C, h => by
    simp only [cE] at h
    cases h2 : cE S a with
    | none => cases op <;> simp [h2] at h
    | some x =>
    cases op <;> simp only [h2] at h <;> cases h
    · rw [ev]; exact SE.not (sE a S X W x C h2)
    · rw [ev]; exact SE.neg (SE.set (sE a S X W x C h2))
  | .BoolOp op es p, S, X, W, ie, C, h => by
    cases op <;> simp only [cE] at h
    · exact (sAnd es S X W ie p C h).1
    · exact (sOr es S X W ie p C h).1
  | .Compare a ops cs p, S, X, W, ie, C, h => by
    rcases cmp_inv h with ⟨o1, b, x, y, o, rfl, rfl, hx, hb, ho, ns, rfl⟩ | ⟨o1, o2, b, c, x, y, z, o, o', rfl, rfl, hx, hb, hc, ho, ho2, ns1, ns2, rfl⟩
    · obtain ⟨r1, q1, q2⟩ := cmp_op (X := X) (by have := C.un; omega) ho
      rw [ev]
      exact SE.cmp q1 q2 (SE.set (sE a S X W x C hx)) (SE.set (sE b S X W y C hb)) (no_marks ns)
    · obtain ⟨r1, q1, q2⟩ := cmp_op (X := X) (by have := C.un; omega) ho
      obtain ⟨r2, q3, q4⟩ := cmp_op (X := X) (by have := C.un; omega) ho2
      rw [ev]
      exact SE.chain q1 q3 q2 q4 (SE.set (sE a S X W x C hx)) (SE.set (sE b S X W y C hb)) (SE.set (sE c S X W z C hc)) (no_marks ns2)
  | .IfExp c a b p, S, X, W, ie, C, h => by
    simp only [cE] at h
    cases h1 : cE S c with
    | none => simp [h1] at h
    | some z =>
    cases h2 : cE S a with
    | none => simp [h1, h2] at h
    | some x =>
    cases h3 : cE S b with
    | none => simp [h1, h2, h3] at h
    | some y =>
    simp only [h1, h2, h3] at h
    cases h
    rw [ev]
    exact SE.ite (sT c S X W z C h1) (sE a S X W x C h2) (sE b S X W y C h3)
  | .List es p, S, X, W, ie, C, h => by
    simp only [cE] at h
    obtain ⟨ia, h1, rfl⟩ := Option.map_eq_some_iff.mp h
    rw [ev]
    exact SE.lst (sA es S X W ia C h1)
  | .Tuple es kk p, S, X, W, ie, C, h => by
    simp only [cE] at h
    obtain ⟨ia, h1, rfl⟩ := Option.map_eq_some_iff.mp h
    rw [ev]
    exact SE.tup (sA es S X W ia C h1)
  | .Dict ks vs p, S, X, W, ie, C, h => by
    simp only [cE] at h
    cases ks <;> cases vs <;> simp only at h <;> cases h
    rw [ev]
    exact SE.dct0
  | .Subscript a s p, S, X, W, ie, C, h => by
    simp only [cE] at h
    rcases ite_or h with ⟨hr, h⟩ | ⟨_, h⟩
    · obtain ⟨k1, p1, p2, p3, rfl⟩ := rev_inv hr
      obtain ⟨x, hx, rfl⟩ := Option.map_eq_some_iff.mp h
      rw [ev]
      exact SE.rev (SE.set (sE a S X W x C hx))
    · cases hs : cSl S s with
      | some lh =>
        obtain ⟨l, u⟩ := lh
        simp only [hs] at h
        obtain ⟨x, hx, rfl⟩ := Option.map_eq_some_iff.mp h
        obtain ⟨lo, hi, p2, rfl, hl, hu⟩ := sl_inv hs
        rw [ev]
        exact SE.slc (SE.set (sE a S X W x C hx)) (sO lo S X W l C hl) (sO hi S X W u C hu)
      | none =>
        simp only [hs] at h
        rcases ite_or h with ⟨hn, h⟩ | ⟨_, h⟩
        · cases h2 : cE S a with
          | none => simp [h2] at h
          | some x =>
          cases h3 : cE S s with
          | none => simp [h2, h3] at h
          | some y =>
          simp only [h2, h3] at h
          cases h
          rw [ev]
          exact SE.ix (by have := C.un; omega) (SE.set (sE a S X W x C h2)) (SE.set (sE s S X W y C h3)) (plain_ix hn)
        · cases h
  | .Call f args kws p, S, X, W, ie, C, h => by
    cases f with
    | Name f fp =>
      cases kws with
      | cons kw kws =>
        cases args with
        | cons a as => simp [cE] at h
        | nil =>
          simp only [cE] at h
          exact callK_ok C h fun ia hia => sK (kw :: kws) S X W ia C hia
      | nil =>
        simp only [cE] at h
        refine call_ok C h (fun ia hia => sA args S X W ia C hia) (fun ia hp hia => sG args S X W ia C hp hia) (fun e es x he hx => ?_) (fun e es as f2 args2 kw p he he2 has => ?_)
        · subst he
          exact sE e S X W x C hx
        · subst he
          subst he2
          exact sF args2 S X W as C has
    | Attribute o m q =>
      cases kws with
      | cons kw kws => simp [cE] at h
      | nil =>
        simp only [cE] at h
        rcases ite_or h with ⟨hc, h⟩ | ⟨_, h⟩
        · simp only [Bool.and_eq_true, decide_eq_true_eq] at hc
          obtain ⟨⟨⟨h1, h2⟩, h3⟩, h4⟩ := hc
          cases hm : mthOf m args.length with
          | none =>
            cases ho : cE S o with
            | none => simp [hm, ho] at h
            | some x =>
            have h : cGet m (some x) (cEs S args) = some ie := by
              cases ha : cA S args <;> simpa [hm, ho, ha] using h
            obtain ⟨rfl, ⟨kk, hk, rfl⟩ | ⟨kk, z, hk, rfl⟩⟩ := get_inv h
            · have fe := sF args S X W _ C hk
              rcases args with _ | ⟨a, _ | ⟨b, r⟩⟩ <;> simp only [FE] at fe
              · have hp : notStar a = true := by simpa [allPlain] using h2
                rw [ev]
                exact SE.get1 (by have := C.un; omega) (attr_base h1) h3 hp (SE.set (sE o S X W x C ho)) (SE.set fe.1)
              · exact fe.2.elim
            · have fe := sF args S X W _ C hk
              rcases args with _ | ⟨a, _ | ⟨b, _ | ⟨c, r⟩⟩⟩ <;> simp only [FE] at fe
              · exact fe.2.elim
              · have hp : notStar a = true ∧ notStar b = true := by simpa [allPlain] using h2
                rw [ev]
                exact SE.get2 (by have := C.un; omega) (attr_base h1) h3 hp.1 hp.2 (SE.set (sE o S X W x C ho)) (SE.set fe.1) (SE.set fe.2.1)
              · exact fe.2.2.elim
          | some mm =>
          cases ho : cE S o with
          | none => simp [hm, ho] at h
          | some x =>
          cases ha : cA S args with
          | none => simp [hm, ho, ha] at h
          | some es =>
          simp only [hm, ho, ha] at h
          cases h
          obtain ⟨id, r, q1, q2, q3, q4⟩ := mth_ok (X := X) hm
          have so := SE.set (sE o S X W x C ho)
          have sa := sA args S X W es C ha
          cases args with
          | nil =>
            simp only [cA] at ha
            cases ha
            rw [ev, evA]
            exact SE.meth0 q1 q2 q3 q4 (attr_base h1) h3 so
          | cons e es' =>
            rw [ev]
            exact SE.meth q1 q2 q3 q4 (attr_base h1) h3 h2 h4 so sa
        · cases h
    | _ => simp [cE] at h
  | .ListComp elt gs scope p, S, X, W, ie, C, h => by
    unfold cE at h
    split at h
    · rename_i tg iter ifs
      have z := comp_ok C h (fun x hx => sE iter S X W x C hx) (fun f args kw p as he has => by subst he; exact sF args S X W as C has)
        (fun X' e x he C' hx => by subst he; exact sT e (S.blk scope) X' _ x C' hx) (fun X' x C' hx => sE elt (S.blk scope) X' _ x C' hx)
      exact LcOk.se (C.calm z.1) (C.xn z.1) C.nd z.2
    · cases h
  | .DictComp kx vx gs scope p, S, X, W, ie, C, h => by
    unfold cE at h
    split at h
    · rename_i tg iter ifs
      have z := dcomp_ok C h (fun x hx => sE iter S X W x C hx) (fun f args kw p as he has => by subst he; exact sF args S X W as C has)
        (fun X' e x he C' hx => by subst he; exact sT e (S.blk scope) X' _ x C' hx) (fun X' x C' hx => sE kx (S.blk scope) X' _ x C' hx) (fun X' x C' hx => sE vx (S.blk scope) X' _ x C' hx)
      exact DcOk.se (C.calm z.1) (C.xn z.1) C.nd z.2
    · cases h
  | .NamedExpr .., S, X, W, ie, C, h => by simp [cE] at h
  | .Lambda .., S, X, W, ie, C, h => by simp [cE] at h
  | .Set .., S, X, W, ie, C, h => by simp [cE] at h
  | .SetComp .., S, X, W, ie, C, h => by simp [cE] at h
  | .GeneratorExp .., S, X, W, ie, C, h => by simp [cE] at h
  | .Await .., S, X, W, ie, C, h => by simp [cE] at h
  | .Yield .., S, X, W, ie, C, h => by simp [cE] at h
  | .YieldFrom .., S, X, W, ie, C, h => by simp [cE] at h
  | .FormattedValue .., S, X, W, ie, C, h => by simp [cE] at h
  | .JoinedStr .., S, X, W, ie, C, h => by simp [cE] at h
  | .Attribute .., S, X, W, ie, C, h => by simp [cE] at h
  | .Starred .., S, X, W, ie, C, h => by simp [cE] at h
  | .Slice .., S, X, W, ie, C, h => by simp [cE] at h
termination_by e => (sizeOf e, 0)
theorem sT : ∀ (e : Expr) (S : Sc) (X : Cx) (W : WX) (ie : IE), CkE S Φ ct k X W → cE S e = some ie → ST X W ct e (ev Φ ie).tst
  | .UnaryOp op a p, S, X, W, ie, C, h => by
    have se := sE (.UnaryOp op a p) S X W ie C h
    cases op with
    | Not =>
      simp only [cE] at h
      cases h2 : cE S a with
      | none => simp [h2] at h
      | some x =>
      simp only [h2] at h
      cases h
      rw [ev]
      exact ST.not (sT a S X W x C h2)
    | _ => exact ST.val se fun _ => rfl
  | .BoolOp op es p, S, X, W, ie, C, h => by
    cases op <;> simp only [cE] at h
    · exact (sAnd es S X W ie p C h).2.st
    · exact (sOr es S X W ie p C h).2.st
  | .Compare a ops cs p, S, X, W, ie, C, h => by
    rcases cmp_inv h with ⟨o1, b, x, y, o, rfl, rfl, hx, hb, ho, ns, rfl⟩ | ⟨o1, o2, b, c, x, y, z, o, o', rfl, rfl, hx, hb, hc, ho, ho2, ns1, ns2, rfl⟩
    · obtain ⟨r1, q1, q2⟩ := cmp_op (X := X) (by have := C.un; omega) ho
      rw [ev]
      exact ST.cmp q1 q2 (SE.set (sE a S X W x C hx)) (SE.set (sE b S X W y C hb)) (no_marks ns)
    · obtain ⟨r1, q1, q2⟩ := cmp_op (X := X) (by have := C.un; omega) ho
      obtain ⟨r2, q3, q4⟩ := cmp_op (X := X) (by have := C.un; omega) ho2
      rw [ev]
      exact ST.chain q1 q3 q2 q4 (SE.set (sE a S X W x C hx)) (SE.set (sE b S X W y C hb)) (SE.set (sE c S X W z C hc)) (no_marks ns2)
  | .IfExp c a b p, S, X, W, ie, C, h => by
    simp only [cE] at h
    cases h1 : cE S c with
    | none => simp [h1] at h
    | some z =>
    cases h2 : cE S a with
    | none => simp [h1, h2] at h
    | some x =>
    cases h3 : cE S b with
    | none => simp [h1, h2, h3] at h
    | some y =>
    simp only [h1, h2, h3] at h
    cases h
    rw [ev]
    exact ST.ite (sT c S X W z C h1) (sT a S X W x C h2) (sT b S X W y C h3)
  | .Constant c kk p, S, X, W, ie, C, h => ST.val (sE _ S X W ie C h) fun _ => rfl
  | .Name x p, S, X, W, ie, C, h => ST.val (sE _ S X W ie C h) fun _ => rfl
  | .BinOp a op b p, S, X, W, ie, C, h => ST.val (sE _ S X W ie C h) fun _ => rfl
  | .List es p, S, X, W, ie, C, h => ST.val (sE _ S X W ie C h) fun _ => rfl
  | .Tuple es kk p, S, X, W, ie, C, h => ST.val (sE _ S X W ie C h) fun _ => rfl
  | .Dict ks vs p, S, X, W, ie, C, h => ST.val (sE _ S X W ie C h) fun _ => rfl
  | .Subscript a s p, S, X, W, ie, C, h => ST.val (sE _ S X W ie C h) fun _ => rfl
  | .Call f args kws p, S, X, W, ie, C, h => ST.val (sE _ S X W ie C h) fun _ => rfl
  | .ListComp elt gs scope p, S, X, W, ie, C, h => ST.val (sE _ S X W ie C h) fun _ => rfl
  | .NamedExpr .., S, X, W, ie, C, h => by simp [cE] at h
  | .Lambda .., S, X, W, ie, C, h => by simp [cE] at h
  | .Set .., S, X, W, ie, C, h => by simp [cE] at h
  | .SetComp .., S, X, W, ie, C, h => by simp [cE] at h
  | .DictComp kx vx gs scope p, S, X, W, ie, C, h => ST.val (sE _ S X W ie C h) fun _ => rfl
  | .GeneratorExp .., S, X, W, ie, C, h => by simp [cE] at h
  | .Await .., S, X, W, ie, C, h => by simp [cE] at h
  | .Yield .., S, X, W, ie, C, h => by simp [cE] at h
  | .YieldFrom .., S, X, W, ie, C, h => by simp [cE] at h
  | .FormattedValue .., S, X, W, ie, C, h => by simp [cE] at h
  | .JoinedStr .., S, X, W, ie, C, h => by simp [cE] at h
  | .Attribute .., S, X, W, ie, C, h => by simp [cE] at h
  | .Starred .., S, X, W, ie, C, h => by simp [cE] at h
  | .Slice .., S, X, W, ie, C, h => by simp [cE] at h
termination_by e => (sizeOf e, 1)
theorem sA : ∀ (es : List Expr) (S : Sc) (X : Cx) (W : WX) (ia : IA), CkE S Φ ct k X W → cA S es = some ia → SA X W ct es (evA Φ ia)
  | [], S, X, W, ia, C, h => by
    simp only [cA] at h
    cases h
    rw [evA]
    exact SA.nil
  | e :: es, S, X, W, ia, C, h => by
    simp only [cA] at h
    cases hr : cA S es with
    | none => cases hs : cSt S e <;> cases he : cE S e <;> simp [hs, he, hr] at h
    | some r =>
    have sr := sA es S X W r C hr
    cases hs : cSt S e with
    | some x =>
      simp only [hs, hr] at h
      cases h
      cases e with
      | Starred e' p =>
        simp only [cSt] at hs
        rw [evA]
        exact SA.star (SE.set (sE e' S X W x C hs)) sr
      | _ => simp [cSt] at hs
    | none =>
      cases he : cE S e with
      | none => simp [hs, he, hr] at h
      | some x =>
      simp only [hs, he, hr] at h
      cases h
      have ns : notStar e = true := by
        cases e <;> first | rfl | simp [cE] at he
      rw [evA]
      exact SA.cons (SE.set (sE e S X W x C he)) sr ns
termination_by es => (sizeOf es, 0)
theorem sG : ∀ (es : List Expr) (S : Sc) (X : Cx) (W : WX) (ia : IA), CkE S Φ ct k X W → allPlain es = true → cA S es = some ia → SF X W ct es (evF Φ ia)
  | [], S, X, W, ia, C, hp, h => by
    simp only [cA] at h
    cases h
    rw [evF]
    exact SF.nil
  | e :: es, S, X, W, ia, C, hp, h => by
    have hp' : notStar e = true ∧ allPlain es = true := by simpa [allPlain] using hp
    simp only [cA] at h
    cases hr : cA S es with
    | none => cases hs : cSt S e <;> cases he : cE S e <;> simp [hs, he, hr] at h
    | some r =>
    have sr := sG es S X W r C hp'.2 hr
    cases hs : cSt S e with
    | some x =>
      cases e with
      | Starred e' p => exact absurd hp'.1 (by simp [notStar])
      | _ => simp [cSt] at hs
    | none =>
      cases he : cE S e with
      | none => simp [hs, he, hr] at h
      | some x =>
      simp only [hs, he, hr] at h
      cases h
      rw [evF]
      exact SF.cons (sE e S X W x C he) sr hp'.1
termination_by es => (sizeOf es, 0)
theorem sK : ∀ (kws : List Keyword) (S : Sc) (X : Cx) (W : WX) (ia : IA), CkE S Φ ct k X W → cK S kws = some ia → SK X W ct kws (evA Φ ia)
  | [], S, X, W, ia, C, h => by
    simp only [cK] at h
    cases h
    rw [evA]
    exact SK.nil
  | ⟨nm, e, p⟩ :: kws, S, X, W, ia, C, h => by
    simp only [cK] at h
    cases he : cE S e with
    | none => simp [he] at h
    | some x =>
    cases hr : cK S kws with
    | none => simp [he, hr] at h
    | some r =>
    simp only [he, hr] at h
    cases h
    rw [evA]
    exact SK.cons (SE.set (sE e S X W x C he)) (sK kws S X W r C hr)
termination_by kws => (sizeOf kws, 0)
theorem sF : ∀ (es : List Expr) (S : Sc) (X : Cx) (W : WX) (xs : List IE), CkE S Φ ct k X W → cEs S es = some xs → FE X W ct Φ es xs
  | [], S, X, W, xs, C, h => by
    simp only [cEs] at h
    cases h
    trivial
  | e :: es, S, X, W, xs, C, h => by
    simp only [cEs] at h
    cases he : cE S e with
    | none => simp [he] at h
    | some x =>
    cases hr : cEs S es with
    | none => simp [he, hr] at h
    | some r =>
    simp only [he, hr] at h
    cases h
    exact ⟨sE e S X W x C he, sF es S X W r C hr⟩
termination_by es => (sizeOf es, 0)
theorem sO : ∀ (o : Option Expr) (S : Sc) (X : Cx) (W : WX) (io : IO), CkE S Φ ct k X W → cO S o = some io → SO X W ct o (evO Φ io)
  | none, S, X, W, io, C, h => by
    simp only [cO] at h
    cases h
    rw [evO]
    exact SO.no
  | some e, S, X, W, io, C, h => by
    simp only [cO] at h
    obtain ⟨x, hx, rfl⟩ := Option.map_eq_some_iff.mp h
    rw [evO]
    exact SO.yes (sE e S X W x C hx)
termination_by o => (sizeOf o, 0)
theorem sAnd : ∀ (es : List Expr) (S : Sc) (X : Cx) (W : WX) (ie : IE) (p : Pos), CkE S Φ ct k X W → cAnd S es = some ie → SE X W ct (.BoolOp .And es p) (ev Φ ie) ∧ SW X W ct (.BoolOp .And es p) (ev Φ ie).tst
  | [], S, X, W, ie, p, C, h => by simp [cAnd] at h
  | [e], S, X, W, ie, p, C, h => by
    simp only [cAnd] at h
    exact ⟨SE.one (sE e S X W ie C h), SW.and1 (sT e S X W ie C h)⟩
  | e :: d :: es, S, X, W, ie, p, C, h => by
    unfold cAnd at h
    simp only at h
    cases he : cE S e with
    | none => simp [he] at h
    | some x =>
    cases hr : cAnd S (d :: es) with
    | none => simp [he, hr] at h
    | some r =>
    simp only [he, hr] at h
    cases h
    obtain ⟨h1, h2⟩ := sAnd (d :: es) S X W r p C hr
    rw [ev]
    exact ⟨SE.and (sE e S X W x C he) h1, SW.and (sT e S X W x C he) h2⟩
termination_by es => (sizeOf es, 0)
theorem sOr : ∀ (es : List Expr) (S : Sc) (X : Cx) (W : WX) (ie : IE) (p : Pos), CkE S Φ ct k X W → cOr S es = some ie → SE X W ct (.BoolOp .Or es p) (ev Φ ie) ∧ SW X W ct (.BoolOp .Or es p) (ev Φ ie).tst
  | [], S, X, W, ie, p, C, h => by simp [cOr] at h
  | [e], S, X, W, ie, p, C, h => by
    simp only [cOr] at h
    exact ⟨SE.one (sE e S X W ie C h), SW.or1 (sT e S X W ie C h)⟩
  | e :: d :: es, S, X, W, ie, p, C, h => by
    unfold cOr at h
    simp only at h
    cases he : cE S e with
    | none => simp [he] at h
    | some x =>
    cases hr : cOr S (d :: es) with
    | none => simp [he, hr] at h
    | some r =>
    simp only [he, hr] at h
    cases h
    obtain ⟨h1, h2⟩ := sOr (d :: es) S X W r p C hr
    rw [ev]
    exact ⟨SE.or (sE e S X W x C he) h1, SW.or (sT e S X W x C he) h2⟩
termination_by es => (sizeOf es, 0)
end
end
end HB

set_option Elab.async false
set_option linter.all false
set_option maxRecDepth 100000
set_option maxHeartbeats 2000000
/-! HBSnd12: stores; statements, form by form. -/
namespace HB
open PySem PySem.Spec PyProof.Rows L2

def NoBo : RV → Prop
  | .bo _ => False
  | _ => True
def Io (B : Bs) (io0 : Bool) : Prop := ∀ i, B.ios i = (i == 0 && io0)
section
variable {K : Fg} {B : Bs} {env : Evn} {σ : L2.St} {Hb H : Hp}
theorem prep_one {own : Bool} {r : RV} {v : V} {P : RV → Evn → Prop} {R : Nat → Evn → Prop} (S : Stt K B env σ Hb H) (h : RVOk K B env σ Hb H v r) (g : GotE (prepR own r env) P R) :
    ∃ r' env' Hb', P r' env' ∧ Le Hb Hb' ∧ Shp env env' ∧ Stt K B env' σ Hb' H ∧ RVOk K B env' σ Hb' H v r' ∧ NoBo r' ∧ (∀ u q, RVOk K B env σ Hb H u q → Apt v r u q → RVOk K B env' σ Hb' H u q) ∧ ∀ o', r' = .fr o' → r = .fr o' := by
  cases own with
  | true =>
    unfold prepR at g
    rw [if_pos rfl] at g
    cases r with
    | fr o => exact ⟨.fr o, env, Hb, g, Le.refl _, Shp.refl _, S, h, trivial, fun u q k _ => k, fun o' e => e⟩
    | val d => exact False.elim g
    | bo i => exact False.elim g
  | false =>
    unfold prepR at g
    rw [if_neg Bool.false_ne_true] at g
    cases r with
    | val d => exact ⟨.val d, env, Hb, g, Le.refl _, Shp.refl _, S, h, trivial, fun u q k _ => k, fun o' e => e⟩
    | fr o =>
      obtain ⟨p, rfl, h1, h2, h3, h4, h5⟩ := h
      obtain ⟨w, hw⟩ := h2.there
      have S1 := S.frz hw h1 (.inl h3) h5
      refine ⟨.val o.toD, env, upd Hb p w, g, Le.new h1, Shp.refl _, S1, h2.froze (Le.new h1) (by rw [upd_same, hw]), trivial, fun u q k ap => ?_, fun o' e => nomatch e⟩
      cases q with
      | val d => exact Rp.mono (Le.new h1) _ _ k
      | bo i => exact k
      | fr o' =>
        obtain ⟨p', rfl, k1, k2, k3, k4, k5⟩ := k
        have ne : p' ≠ p := fun z => ap o o' rfl rfl (by rw [z])
        exact ⟨p', rfl, by rw [upd_ne ne]; exact k1, k2.mono (Le.new h1) rfl, k3, k4, k5⟩
    | bo i =>
      obtain ⟨d, env', Hb', g1, le, sh, T, rp⟩ := S.re.imm (RVOk.reB (r := .bo i) trivial h) (GotE.bnd g)
      exact ⟨.val d, env', Hb', g1, le, sh, S.un T sh, rp, trivial, fun u q k _ => k.stands S T sh, fun o' e => nomatch e⟩
theorem store_one {io0 : Bool} {i : Nat} {r : RV} {v : V} {env' : Evn} (hB : Io B io0) (hf : ∀ a c, B.fx ≠ some (i, a, c)) (S : Stt K B env σ Hb H) (h : RVOk K B env σ Hb H v r) (e : storeR io0 i r env = some env') :
    Stt K B env' (σ.set i (some v)) Hb H ∧ ∀ u q, RVOk K B env σ Hb H u q → NoBo q → Apt v r u q → RVOk K B env' (σ.set i (some v)) Hb H u q := by
  unfold storeR at e
  rcases ite_or e with ⟨_, e⟩ | ⟨hc, e⟩
  · cases e
  · have hl : i < env.length := Classical.byContradiction fun z => hc (.inr z)
    have hi : B.ios i = false := by
      rw [hB i]
      cases hb : (i == 0 && io0) with
      | false => rfl
      | true => exact (hc (.inl hb)).elim
    cases r with
    | bo j => cases e
    | val d =>
      cases e
      refine ⟨S.store hf hl h, fun u q k nb _ => ?_⟩
      cases q with
      | val d' => exact k
      | bo i => exact nb.elim
      | fr o' =>
        obtain ⟨p', rfl, k1, k2, k3, k4, k5⟩ := k
        refine ⟨p', rfl, k1, k2, k3, k4, fun j o'' e => ?_⟩
        by_cases hij : i = j
        · subst hij; rw [get_set_eq hl] at e; cases e
        · rw [get_set_ne hij] at e
          rw [List.getElem?_set_ne hij]
          exact k5 j o'' e
    | fr o =>
      cases e
      obtain ⟨p, rfl, h1, h2, h3, h4, h5⟩ := h
      have hs : i < σ.length := by rw [S.len]; exact hl
      refine ⟨⟨by rw [List.length_set, List.length_set]; exact S.len, S.sub, fun j d e => ?_, fun j o1 e => ?_, fun j k o1 o2 b e1 e2 z1 z2 => ?_, S.exb, S.keep, S.frs, S.iot, fun j a c e => by
        have ne : i ≠ j := fun z => hf a c (by rw [z]; exact e)
        rw [List.getElem?_set_ne ne, get_set_ne ne]
        exact S.fx j a c e⟩, fun u q k nb ap => ?_⟩
      · by_cases hij : i = j
        · subst hij; rw [get_set_eq hl] at e; cases e
        · rw [get_set_ne hij] at e; rw [List.getElem?_set_ne hij]; exact S.im j d e
      · by_cases hij : i = j
        · subst hij
          rw [get_set_eq hl] at e; cases e
          exact ⟨p, List.getElem?_set_self hs, h1, h2, by rw [hi]; exact ⟨h3, h4⟩⟩
        · rw [get_set_ne hij] at e; rw [List.getElem?_set_ne hij]; exact S.ow j o1 e
      · by_cases hij : i = j
        · subst hij
          rw [List.getElem?_set_self hs] at z1
          cases z1
          by_cases hik : i = k
          · exact hik
          · rw [get_set_ne hik] at e2
            rw [List.getElem?_set_ne hik] at z2
            exact (h5 k o2 e2 z2).elim
        · rw [get_set_ne hij] at e1
          rw [List.getElem?_set_ne hij] at z1
          by_cases hik : i = k
          · subst hik
            rw [List.getElem?_set_self hs] at z2
            cases z2
            exact (h5 j o1 e1 z1).elim
          · rw [get_set_ne hik] at e2
            rw [List.getElem?_set_ne hik] at z2
            exact S.inj j k o1 o2 b e1 e2 z1 z2
      · cases q with
        | val d' => exact k
        | bo i => exact nb.elim
        | fr o' =>
          obtain ⟨p', rfl, k1, k2, k3, k4, k5⟩ := k
          refine ⟨p', rfl, k1, k2, k3, k4, fun j o'' e z => ?_⟩
          by_cases hij : i = j
          · subst hij
            rw [List.getElem?_set_self hs] at z
            cases z
            exact ap o o' rfl rfl rfl
          · rw [get_set_ne hij] at e
            rw [List.getElem?_set_ne hij] at z
            exact k5 j o'' e z
theorem preps_all {B : Bs} {σ : L2.St} {H : Hp} : ∀ {os : List Bool} {rs : List RV} {vs : List V} {env : Evn} {Hb : Hp} {P : List RV → Evn → Prop} {R : Nat → Evn → Prop}, Stt K B env σ Hb H → RFs K B env σ Hb H rs vs → GotE (preps os rs env) P R →
    ∃ rs' env' Hb', P rs' env' ∧ Le Hb Hb' ∧ Shp env env' ∧ Stt K B env' σ Hb' H ∧ RFs K B env' σ Hb' H rs' vs ∧ (∀ (j : Nat) q, rs'[j]? = some q → NoBo q ∧ ∀ o', q = .fr o' → rs[j]? = some (.fr o')) ∧ rs'.length = rs.length ∧
      ∀ u q, RVOk K B env σ Hb H u q → (∀ (j : Nat) v r, rs[j]? = some r → vs[j]? = some v → Apt v r u q) → RVOk K B env' σ Hb' H u q
  | [], [], vs, env, Hb, P, R, S, h, g => ⟨[], env, Hb, g, Le.refl _, Shp.refl _, S, h, fun j q e => by simp at e, rfl, fun u q k _ => k⟩
  | [], _ :: _, vs, env, Hb, P, R, S, h, g => False.elim g
  | _ :: _, [], vs, env, Hb, P, R, S, h, g => False.elim g
  | o :: os, r :: rs, vs, env, Hb, P, R, S, ⟨v, vs', e, h1, h2, h3⟩, g => by
    subst e
    unfold preps at g
    obtain ⟨r', env1, Hb1, g1, le1, sh1, S1, rv1, nb1, ot1, fr1⟩ := prep_one S h1 g.bnd
    have h2' := RFs.imp h2 fun j u q a b c => ot1 u q c (h3 j u q a b)
    obtain ⟨rs', env2, Hb2, g2, le2, sh2, S2, rv2, nb2, ln2, ot2⟩ := preps_all S1 h2' (GotE.bnd g1)
    refine ⟨r' :: rs', env2, Hb2, g2, le1.trans le2, sh1.trans sh2, S2, ⟨v, vs', rfl, ot2 v r' rv1 fun j u q a b o1 o2 e1 e2 => ?_, rv2, fun j u q a b o1 o2 e1 e2 => ?_⟩, fun j q e => ?_, by simp [ln2], fun u q k ap => ?_⟩
    · exact fun z => h3 j u q a b o2 o1 (fr1 o2 e2) e1 z.symm
    · obtain ⟨n1, n2⟩ := nb2 j q a
      exact h3 j u (.fr o2) (n2 o2 e2) b o1 o2 (fr1 o1 e1) rfl
    · cases j with
      | zero => cases e; exact ⟨nb1, fun o' e => by rw [fr1 o' e]; rfl⟩
      | succ j => exact nb2 j q e
    · exact ot2 u q (ot1 u q k (ap 0 v r rfl rfl)) fun j w p a b => ap (j + 1) w p a b
def setAll : List Nat → List V → L2.St → L2.St
  | i :: is, v :: vs, σ => setAll is vs (σ.set i (some v))
  | _, _, σ => σ
theorem stores_all {io0 : Bool} (hB : Io B io0) (hx : B.fx = none) : ∀ {is : List Nat} {rs : List RV} {vs : List V} {env env' : Evn} {σ : L2.St}, Stt K B env σ Hb H → RFs K B env σ Hb H rs vs → (∀ (j : Nat) q, rs[j]? = some q → NoBo q) → storesR io0 is rs env = some env' → Stt K B env' (setAll is vs σ) Hb H
  | [], [], vs, env, env', σ, S, h, _, e => by cases e; exact S
  | [], _ :: _, vs, env, env', σ, S, h, _, e => by cases e
  | _ :: _, [], vs, env, env', σ, S, h, _, e => by cases e
  | i :: is, r :: rs, vs, env, env', σ, S, ⟨v, vs', ev, h1, h2, h3⟩, nb, e => by
    subst ev
    unfold storesR at e
    cases e1 : storeR io0 i r env with
    | none => simp [e1] at e
    | some env1 =>
      simp only [e1] at e
      obtain ⟨S1, ot⟩ := store_one hB (nofx hx) S h1 e1
      show Stt K B env' (setAll is vs' (σ.set i (some v))) Hb H
      exact stores_all (is := is) (vs := vs') hB hx S1 (RFs.imp h2 fun j u q a b c => ot u q c (nb (j + 1) q a) (h3 j u q a b)) (fun j q a => nb (j + 1) q a) e
theorem RVOk.newH (S : Stt K B env σ Hb H) {p : Addr} {w : HO} (hp : H p = none) {u : V} {q : RV} (h : RVOk K B env σ Hb H u q) : RVOk K B env σ Hb (upd H p w) u q := by
  cases q with
  | val d => exact h
  | bo i => exact h
  | fr o =>
    obtain ⟨p', e, k1, k2, k3⟩ := h
    obtain ⟨x, hx⟩ := k2.there
    exact ⟨p', e, k1, k2.mono (Le.refl _) (upd_ne (ne_of_none hx hp)), k3⟩
end

/-! ### what a statement leaves -/
def GoS (X : Cx) (W : WX) (ct : CT) (B : Bs) (Hb : Hp) (D : Ends) : Option Fl → Prop
  | none => False
  | some (.nx e) => ∀ σ' Hb' H', Stt X.K B e σ' Hb' H' → Le Hb Hb' → D.nx σ' H'
  | some (.bk e) => ∀ σ' Hb' H', Stt X.K B e σ' Hb' H' → Le Hb Hb' → D.bk σ' H'
  | some (.ct e) => ∀ σ' Hb' H', Stt X.K B e σ' Hb' H' → Le Hb Hb' → D.ct σ' H'
  | some (.rt r e) => ∀ v σ' Hb' H', Stt X.K B e σ' Hb' H' → Le Hb Hb' → NoBo r → RVOk X.K B e σ' Hb' H' v r → D.rt v H'
  | some (.ex c e) => ∀ σ' Hb' H', Stt X.K B e σ' Hb' H' → Le Hb Hb' → W (.ref (ct.at_ c)) none σ' H'
section
variable {X : Cx} {W : WX} {ct : CT} {B : Bs} {Hb Hb1 : Hp} {D : Ends}
theorem GoS.mono {f : Option Fl} (h : GoS X W ct B Hb D f) (le : Le Hb Hb1) : GoS X W ct B Hb1 D f := by
  cases f with
  | none => exact h
  | some t => cases t with
    | nx e => exact fun σ Hb' H' S l => h σ Hb' H' S (le.trans l)
    | bk e => exact fun σ Hb' H' S l => h σ Hb' H' S (le.trans l)
    | ct e => exact fun σ Hb' H' S l => h σ Hb' H' S (le.trans l)
    | rt r e => exact fun v σ Hb' H' S l => h v σ Hb' H' S (le.trans l)
    | ex c e => exact fun σ Hb' H' S l => h σ Hb' H' S (le.trans l)
theorem GoS.fl {α : Type} {x : Mo α} {f : α → Ms} {env : Evn} {σ : L2.St} (h : GoS X W ct B Hb D (x.fl f env)) : GotE (x env) (fun a e => GoS X W ct B Hb D (f a e)) (Xw X W ct B σ Hb) := by
  unfold Mo.fl at h
  cases hx : x env with
  | none => rw [hx] at h; exact h
  | some t => cases t with
    | ok a e => rw [hx] at h; exact h
    | ex c e => rw [hx] at h; exact fun Hb' H' S l => h σ Hb' H' S l
end
def SS (X : Cx) (W : WX) (ct : CT) (io0 : Bool) (st : Stmt) (f : Ms) : Prop := ∃ ts : TS, PS X st ts ∧ ∀ (B : Bs) (σ : L2.St) (Hb H : Hp) (env : Evn) (D : Ends), Io B io0 → BX X ct B → Stt X.K B env σ Hb H → GoS X W ct B Hb D (f env) → ts D σ H
def SSs (X : Cx) (W : WX) (ct : CT) (io0 : Bool) (st : List Stmt) (f : Ms) : Prop := ∃ ts : TS, PSs X st ts ∧ ∀ (B : Bs) (σ : L2.St) (Hb H : Hp) (env : Evn) (D : Ends), Io B io0 → BX X ct B → Stt X.K B env σ Hb H → GoS X W ct B Hb D (f env) → ts D σ H
section
variable {X : Cx} {W : WX} {ct : CT} {io0 : Bool} {e a b c : Expr} {es : List Expr} {fe fa fb fc : Mo RV} {fs : Mo (List RV)} {pos : Pos}
theorem SS.expr (h : SE X W ct e fe) (hs : swapsWith e none pos.line X.env = pure false) : SS X W ct io0 (.Expr e pos) (fe.fl fun _ env => some (.nx env)) := by
  obtain ⟨te, pe, ke⟩ := h
  exact ⟨_, ps_expr pe hs, fun B σ Hb H env D hB hX S q => ke B σ Hb H env _ hX S ((GoS.fl q).same fun r e1 g v Hb1 H1 S1 le1 sh1 rv => g σ Hb1 H1 S1 le1)⟩
/-- the reading of a store -/
theorem asg_rd {i : Nat} {own : Bool} {te : TE} (ke : Rd X W ct te fe) {B : Bs} {σ : L2.St} {Hb H : Hp} {env : Evn} {D : Ends} (hB : Io B io0) (hX : BX X ct B) (hf : ∀ a c, B.fx ≠ some (i, a, c)) (S : Stt X.K B env σ Hb H) (q : GoS X W ct B Hb D (((fe.bnd fun r => prepR own r).fl fun r env => nxOf (storeR io0 i r env)) env)) :
    tAsg te (gName i) D σ H := by
  refine ke B σ Hb H env _ hX S (GotE.same (GotE.bnd (GoS.fl q)) fun r e1 g v Hb1 H1 S1 le1 sh1 rv => ?_)
  obtain ⟨r', e2, Hb2, g2, le2, sh2, S2, rv2, nb, _⟩ := prep_one S1 rv g
  cases hs : storeR io0 i r' e2 with
  | none => rw [hs] at g2; exact False.elim g2
  | some e3 =>
    rw [hs] at g2
    exact g2 _ Hb2 H1 (store_one hB hf S2 rv2 hs).1 (le1.trans le2)
theorem SS.asg {i : Nat} {x : Str} {px : Pos} {own : Bool} (hN : X.N.Nodup) (hi : X.N[i]? = some x) (hx : L2.Loc X.env.scope x) (h : SE X W ct e fe) (hs : swapsWith e (some (.Name x px)) pos.line X.env = pure false) (hf : X.fn x = true ∨ X.env.scope.names.lookup x = some .local) (hw : ∀ B, BX X ct B → ∀ a c, B.fx ≠ some (i, a, c)) :
    SS X W ct io0 (.Assign [.Name x px] e pos) ((fe.bnd fun r => prepR own r).fl fun r env => nxOf (storeR io0 i r env)) := by
  obtain ⟨te, pe, ke⟩ := h
  exact ⟨_, ps_set hN hi hx pe hs hf, fun B σ Hb H env D hB hX S q => asg_rd ke hB hX (hw B hX) S q⟩
theorem setAll_two {i j : Nat} {v w : V} {σ : L2.St} : setAll [i, j] [v, w] σ = (σ.set i (some v)).set j (some w) := rfl
/-- the reading of parallel stores -/
theorem par_rd {is : List Nat} {os : List Bool} {ta : TA} (ka : ∀ (B : Bs) (σ : L2.St) (Hb H : Hp) (env : Evn) (Q : List V → Hp → Prop), BX X ct B → Stt X.K B env σ Hb H →
      GotE (fs env) (fun rs env' => ∀ vs Hb' H', Stt X.K B env' σ Hb' H' → Le Hb Hb' → Shp env env' → RFs X.K B env' σ Hb' H' rs vs → Q vs H') (Xw X W ct B σ Hb) → ta σ H Q)
    {B : Bs} {σ : L2.St} {Hb H : Hp} {env : Evn} {D : Ends} (hB : Io B io0) (hX : BX X ct B) (hx : B.fx = none) (S : Stt X.K B env σ Hb H) (q : GoS X W ct B Hb D (((fs.bnd fun rs => preps os rs).fl fun rs env => nxOf (storesR io0 is rs env)) env)) {Z : List V → Hp → Prop}
    (z : ∀ vs H1, (∀ p H2, (H2 = H1 ∨ ∃ w, H1 p = none ∧ H2 = upd H1 p w) → D.nx (setAll is vs σ) H2) → vs.length = is.length → Z vs H1) : ta σ H Z := by
  refine ka B σ Hb H env _ hX S (GotE.same (GotE.bnd (GoS.fl q)) fun rs e1 g vs Hb1 H1 S1 le1 sh1 rv => ?_)
  have fin : ∀ (H2 : Hp), Stt X.K B e1 σ Hb1 H2 → RFs X.K B e1 σ Hb1 H2 rs vs → D.nx (setAll is vs σ) H2 ∧ vs.length = is.length := fun H2 S2 rv2 => by
    obtain ⟨rs', e2, Hb2, g2, le2, sh2, S3, rv3, nb, ln, _⟩ := preps_all S2 rv2 g
    cases hs : storesR io0 is rs' e2 with
    | none => rw [hs] at g2; exact False.elim g2
    | some e3 =>
      rw [hs] at g2
      refine ⟨g2 _ Hb2 H2 (stores_all hB hx S3 rv3 (fun j q a => (nb j q a).1) hs) (le1.trans le2), ?_⟩
      have ll : ∀ {is : List Nat} {rs : List RV} {env env' : Evn}, storesR io0 is rs env = some env' → rs.length = is.length := by
        intro is
        induction is with
        | nil => intro rs env env' h; cases rs with
          | nil => rfl
          | cons r rs => cases h
        | cons i is ih => intro rs env env' h; cases rs with
          | nil => cases h
          | cons r rs =>
            unfold storesR at h
            cases e1 : storeR io0 i r env with
            | none => simp [e1] at h
            | some e => simp only [e1] at h; simp [ih h]
      rw [← rv3.len, ll hs]
  refine z vs H1 (fun p H2 h => ?_) (fin H1 S1 rv).2
  rcases h with h | ⟨w, hp, h⟩
  · subst h; exact (fin _ S1 rv).1
  · subst h
    exact (fin _ (S1.newH hp) (RFs.imp rv fun j u q a b k => k.newH S1 hp)).1
theorem gAll_set {K : Fg} {Q : L2.St → Hp → Prop} {H : Hp} : ∀ {is : List Nat} {vs : List V} {σ : L2.St}, vs.length = is.length → Q (setAll is vs σ) H → gAll is vs σ H Q
  | [], [], σ, _, q => ⟨rfl, q⟩
  | [], _ :: _, _, h, _ => by simp at h
  | _ :: _, [], _, h, _ => by simp at h
  | i :: is, v :: vs, σ, h, q => ⟨v, vs, rfl, gAll_set (K := K) (by simpa using h) q⟩
theorem SS.asgT (hn : ct.xi = none) {is : List Nat} {os : List Bool} {ts ws : List Expr} {k1 k2 : Nat} {p1 p2 : Pos} (hc : X.calm = true) (hg : PG X (.Tuple ts k1 p1) (gTup X.K is.length (gAll is))) (h : SF X W ct ws fs) (hlen : is.length ≤ 1000) (hw : swappedStores [.Tuple ts k1 p1] (.Tuple ws k2 p2) X.env = pure none) :
    SS X W ct io0 (.Assign [.Tuple ts k1 p1] (.Tuple ws k2 p2) pos) ((fs.bnd fun rs => preps os rs).fl fun rs env => nxOf (storesR io0 is rs env)) := by
  obtain ⟨ta, pa, ka⟩ := h
  refine ⟨_, ps_asg (pe_tup pa) hg rfl hw rfl, fun B σ Hb H env D hB hX S q => par_rd ka hB hX (hX.none_ hn) S q fun vs H1 z hl => ⟨by rw [hl]; exact Nat.le_trans hlen (by decide), fun p hp => ⟨p, vs, rfl, SqT.of upd_same, hl, ?_⟩⟩⟩
  exact gAll_set (K := X.K) hl (z p _ (.inr ⟨_, hp, rfl⟩))
theorem SS.par2 (hn : ct.xi = none) {i j : Nat} {os : List Bool} {x y : Str} {px py p1 p2 : Pos} {k1 k2 : Nat} (hc : X.calm = true) (hN : X.N.Nodup) (hi : X.N[i]? = some x) (hj : X.N[j]? = some y) (hij : i ≠ j)
    (hx : X.env.scope.names.lookup x = some .local) (hy : X.env.scope.names.lookup y = some .local) (h : SF X W ct [a, b] fs)
    (hw : swappedStores [.Tuple [.Name x px, .Name y py] k1 p1] (.Tuple [a, b] k2 p2) X.env = pure (some [x, y])) :
    SS X W ct io0 (.Assign [.Tuple [.Name x px, .Name y py] k1 p1] (.Tuple [a, b] k2 p2) pos) ((fs.bnd fun rs => preps os rs).fl fun rs env => nxOf (storesR io0 [i, j] rs env)) := by
  obtain ⟨ta, pa, ka⟩ := h
  refine ⟨_, ps_par hc hN hi hj hij hx hy pa hw rfl, fun B σ Hb H env D hB hX S q => par_rd ka hB hX (hX.none_ hn) S q fun vs H1 z hl => ?_⟩
  match vs, hl with
  | [v, w], _ => exact ⟨v, w, rfl, z 0 H1 (.inl rfl)⟩
theorem SS.par3 (hn : ct.xi = none) {i j l : Nat} {os : List Bool} {x y w : Str} {px py pw p1 p2 : Pos} {k1 k2 : Nat} (hc : X.calm = true) (hN : X.N.Nodup) (hi : X.N[i]? = some x) (hj : X.N[j]? = some y) (hl : X.N[l]? = some w) (hij : i ≠ j) (hil : i ≠ l) (hjl : j ≠ l)
    (hx : X.env.scope.names.lookup x = some .local) (hy : X.env.scope.names.lookup y = some .local) (hz : X.env.scope.names.lookup w = some .local) (h : SF X W ct [a, b, c] fs)
    (hw : swappedStores [.Tuple [.Name x px, .Name y py, .Name w pw] k1 p1] (.Tuple [a, b, c] k2 p2) X.env = pure (some [x, y, w])) :
    SS X W ct io0 (.Assign [.Tuple [.Name x px, .Name y py, .Name w pw] k1 p1] (.Tuple [a, b, c] k2 p2) pos) ((fs.bnd fun rs => preps os rs).fl fun rs env => nxOf (storesR io0 [i, j, l] rs env)) := by
  obtain ⟨ta, pa, ka⟩ := h
  refine ⟨_, ps_par3 hc hN hi hj hl hij hil hjl hx hy hz pa hw rfl, fun B σ Hb H env D hB hX S q => par_rd ka hB hX (hX.none_ hn) S q fun vs H1 z hl => ?_⟩
  match vs, hl with
  | [v, w, u], _ => exact ⟨v, w, u, rfl, z 0 H1 (.inl rfl)⟩
theorem SS.unp (hn : ct.xi = none) {is : List Nat} {ts : List Expr} {k1 : Nat} {p1 : Pos} (hg : PG X (.Tuple ts k1 p1) (tgG X.K is)) (h : SEs X W ct e fe) (hs : swapsWithSole [.Tuple ts k1 p1] e pos.line X.env = pure false) (hw : swappedStores [.Tuple ts k1 p1] e X.env = pure none) :
    SS X W ct io0 (.Assign [.Tuple ts k1 p1] e pos) ((fe.bnd fun r => Mo.imm r).fl fun d env => nxOf (bindT is d env)) := by
  obtain ⟨te, pe, ke⟩ := h
  refine ⟨_, ps_asg pe hg hs hw rfl, fun B σ Hb H env D hB hX S q => ke B σ Hb H env _ hX S (GotE.same (GotE.bnd (GoS.fl q)) fun r e1 g v Hb1 H1 S1 le1 sh1 nr rv => ?_)⟩
  obtain ⟨d, e2, Hb2, g2, le2, sh2, S2, rp⟩ := S1.imm rv g
  cases hb : bindT is d e2 with
  | none => rw [hb] at g2; exact False.elim g2
  | some e3 =>
    rw [hb] at g2
    exact tg_rd (hX.none_ hn) S2 rp hb fun σ' S3 _ _ => g2 σ' Hb2 H1 S3 (le1.trans le2)
theorem setOB_ok {K : Fg} {Hb H : Hp} {a : Addr} {ob ob' : OB} {y d : D} {v w : V} {Q : Hp → Prop} (h : setOB ob y d = some ob') (hob : OBat K Hb H a ob) (hy : Rp K Hb y w) (hd : Rp K Hb d v) (q : ∀ u, OBat K Hb (upd H a u) a ob' → Q (upd H a u)) : rSetL (.ref a) w v H Q ∨ rSetD (.ref a) w v H Q := by
  have dct : ∀ {ks : List Key} {ds : List D} {k : Key}, ob = .dK ks ds → w = kV k → (if ks.length < LIM then some (OB.dK (putKs ks k) (putX ks ds k d)) else none) = some ob' → rSetD (.ref a) w v H Q := fun {ks ds k} e1 e2 hk => by
    subst e1 e2
    clear h
    rcases ite_or hk with ⟨hl, hk⟩ | ⟨_, hk⟩
    · cases hk
      obtain ⟨xs, h1, h2, h3⟩ := hob
      refine ⟨a, _, rfl, DPut.k h1 (by rw [List.length_zip, ← h2, Nat.min_self]; exact lim_lt hl), ?_⟩
      exact q _ ⟨putX ks xs k v, by rw [upd_same, put_zip h2], put_len h2, put_rp hd h3⟩
    · cases hk
  cases ob with
  | lst ds =>
    cases y <;> simp only [setOB] at h <;> try cases h
    rename_i kk
    obtain ⟨n, hn, rfl⟩ := Option.map_eq_some_iff.mp h
    obtain ⟨xs, h3, h5⟩ := hob
    cases hy
    exact .inl ⟨a, xs, kk, n, rfl, rfl, h3, by rw [← h5.length]; exact hn, q _ ⟨_, upd_same, h5.set n hd⟩⟩
  | dK ks ds =>
    cases y <;> simp only [setOB] at h <;> try cases h
    · exact .inr (dct rfl (k := .inl _) hy h)
    · exact .inr (dct rfl (k := .inr _) hy h)
  | dT ks ds => simp [setOB] at h
theorem SS.setI {o i : Expr} {fo fi : Mo RV} {p1 : Pos} (hcl : X.A.units + 1 < cLine) (ho : SEs X W ct o fo) (hi : SEs X W ct i fi) (h : SEs X W ct e fe) (hs : swapsWithSole [.Subscript o i p1] e pos.line X.env = pure false) (hw : swappedStores [.Subscript o i p1] e X.env = pure none)
    (ha : ∀ v, assign (.Subscript o i p1) X.env v = (do
      let ov ← holding [v] (eval o X.env)
      let iv ← holding [v, ov] (eval i X.env)
      standAt p1
      holding [v, ov, iv] (setItem ov iv v)
      release [v, ov, iv] [])) :
    SS X W ct io0 (.Assign [.Subscript o i p1] e pos) (fe.fl fun r => fo.fl fun x => fi.fl fun y => (Mo.imm r).fl fun d env => setID x y d env) := by
  obtain ⟨te, pe, ke⟩ := h
  obtain ⟨to, po, ko⟩ := ho
  obtain ⟨ti, pi, ki⟩ := hi
  refine ⟨_, ps_asg pe (pg_sub po pi (pset_or set_list (set_dict hcl)) ha) hs hw rfl, fun B σ Hb H env D hB hX S q => ke B σ Hb H env _ hX S (GotE.same (GoS.fl q) fun r e1 g v Hb1 H1 S1 le1 sh1 nr rv =>
    ko B σ Hb1 H1 e1 _ hX S1 (GotE.imp (GoS.fl (σ := σ) g) (fun x e2 g2 u Hb2 H2 S2 le2 sh2 nx rx => ki B σ Hb2 H2 e2 _ hX S2 (GotE.imp (GoS.fl (σ := σ) g2) (fun y e3 g3 w Hb3 H3 S3 le3 sh3 ny ry => ?_) fun c e h => Xw.mono (X := X) (le1.trans le2) h)) fun c e h => Xw.mono (X := X) le1 h))⟩
  obtain ⟨d, e4, Hb4, g4, le4, sh4, S4, rp⟩ := S3.imm (rv.keep nr (le2.trans le3)) (GoS.fl (σ := σ) g3)
  cases x with
  | val d => exact False.elim g4
  | fr o => exact False.elim g4
  | bo j =>
  cases y with
  | bo i => exact False.elim g4
  | fr o => exact False.elim g4
  | val dy =>
    simp only [setID] at g4
    cases hj : e4[j]? with
    | none => rw [hj] at g4; exact False.elim g4
    | some s =>
    cases s with
    | un => rw [hj] at g4; exact False.elim g4
    | im d' => rw [hj] at g4; exact False.elim g4
    | ow ob =>
    rw [hj] at g4
    simp only at g4
    cases hn : setOB ob dy d with
    | none => rw [hn] at g4; exact False.elim g4
    | some ob' =>
    rw [hn] at g4
    obtain ⟨a, h1, h2, h3, h4⟩ := S4.ow j _ hj
    have hu : σ[j]? = some (some u) := rx
    rw [hu] at h1; cases h1
    have ry' : Rp X.K Hb3 dy w := ry
    exact setOB_ok hn h3 (Rp.mono le4 _ _ ry') rp fun u1 hob => g4 σ Hb4 _ (S4.write hj hu hob) ((le1.trans le2).trans (le3.trans le4))
end
end HB

set_option Elab.async false
set_option linter.all false
set_option maxRecDepth 100000
set_option maxHeartbeats 2000000
/-! HBBrw: a test that only looks at what is owned. -/
namespace HB
open PySem PySem.Spec PyProof.Rows L2

theorem frzE_len (bs : List Nat) : ∀ (env : Evn) (i : Nat), (frzE bs i env).length = env.length
  | [], _ => rfl
  | s :: r, i => by unfold frzE; rw [List.length_cons, List.length_cons, frzE_len bs r]
theorem frzE_get (bs : List Nat) : ∀ (env : Evn) (i j : Nat), (frzE bs i env)[j]? = (env[j]?).map fun s => if bs.contains (i + j) = true then frzS s else s
  | [], _, _ => by simp [frzE]
  | s :: r, i, 0 => by simp [frzE]
  | s :: r, i, j + 1 => by
    unfold frzE
    rw [List.getElem?_cons_succ, List.getElem?_cons_succ, frzE_get bs r (i + 1) j, show i + 1 + j = i + (j + 1) by omega]
theorem mrgE_get (bs : List Nat) : ∀ (env env1 env2 : Evn) (i : Nat), mrgE bs i env env1 = some env2 → env2.length = env.length ∧ ∀ (j : Nat) (s : Sl), env2[j]? = some s → ∃ s0 s1, env[j]? = some s0 ∧ env1[j]? = some s1 ∧ (if bs.contains (i + j) = true then some s0 else mrgS s0 s1) = some s
  | [], [], env2, _, h => by
    cases h
    exact ⟨rfl, fun j s e => by simp at e⟩
  | [], _ :: _, _, _, h => by cases h
  | _ :: _, [], _, _, h => by cases h
  | a :: r, b :: r', env2, i, h => by
    unfold mrgE at h
    cases h1 : (if bs.contains i = true then some a else mrgS a b) with
    | none => simp only [h1] at h; cases h
    | some x =>
      cases h2 : mrgE bs (i + 1) r r' with
      | none => simp only [h1, h2] at h; cases h
      | some y =>
        simp only [h1, h2] at h
        cases h
        obtain ⟨k1, k2⟩ := mrgE_get bs r r' y (i + 1) h2
        refine ⟨by simp [k1], fun j s e => ?_⟩
        cases j with
        | zero => cases e; exact ⟨a, b, rfl, rfl, h1⟩
        | succ j =>
          obtain ⟨s0, s1, e1, e2, e3⟩ := k2 j s (by simpa using e)
          exact ⟨s0, s1, by simpa using e1, by simpa using e2, by rw [show i + (j + 1) = i + 1 + j by omega]; exact e3⟩
section
variable {K : Fg} {B : Bs} {env : Evn} {σ : L2.St} {Hb H : Hp}
theorem flat_rp {Hb' : Hp} : ∀ {ds : List D} {xs : List V}, ds.all scal = true → RpAll K Hb ds xs → RpAll K Hb' ds xs
  | [], _, _, h => h
  | d :: ds, _, hf, ⟨y, ys, h1, h2, h3⟩ => by
    rw [List.all_cons, Bool.and_eq_true] at hf
    refine ⟨y, ys, h1, ?_, flat_rp hf.2 h3⟩
    have hd := hf.1
    cases d <;> first | exact h2 | cases hd
theorem flat_ob {Hb' : Hp} {a : Addr} {o : OB} (hf : flatO o = true) (h : OBat K Hb H a o) : OBat K Hb' H a o := by
  cases o with
  | lst ds => obtain ⟨xs, h1, h2⟩ := h; exact ⟨xs, h1, flat_rp hf h2⟩
  | dK _ _ => cases hf
  | dT _ _ => cases hf
/-- the owned things of some slots are frozen -/
theorem Stt.frzAll (S : Stt K B env σ Hb H) (bs : List Nat) : ∃ Hbf, Le Hb Hbf ∧ Stt K B (frzE bs 0 env) σ Hbf H ∧ ∀ b, Hbf b ≠ Hb b → ∃ (i : Nat) (o : OB), bs.contains i = true ∧ env[i]? = some (.ow o) ∧ σ[i]? = some (some (.ref b)) := by
  have go : ∀ n, n ≤ env.length → ∃ Hbf envf, Le Hb Hbf ∧ Stt K B envf σ Hbf H ∧ (∀ b, Hbf b ≠ Hb b → ∃ (i : Nat) (o : OB), bs.contains i = true ∧ env[i]? = some (.ow o) ∧ σ[i]? = some (some (.ref b))) ∧
      envf.length = env.length ∧ ∀ j : Nat, envf[j]? = (env[j]?).map fun s => if bs.contains j = true ∧ j < n then frzS s else s := by
    intro n
    induction n with
    | zero => exact fun _ => ⟨Hb, env, Le.refl _, S, fun b h => (h rfl).elim, rfl, fun j => by simp⟩
    | succ n ih =>
      intro hn
      obtain ⟨Hbf, envf, le, Sf, hd, hl, hg⟩ := ih (by omega)
      have same : (∀ o, bs.contains n = true → env[n]? ≠ some (.ow o)) → ∀ j : Nat, envf[j]? = (env[j]?).map fun s => if bs.contains j = true ∧ j < n + 1 then frzS s else s := fun hno j => by
        rw [hg j]
        by_cases hj : j = n
        · subst hj
          cases e : env[j]? with
          | none => rfl
          | some s =>
            simp only [Option.map_some, Nat.lt_irrefl, and_false, if_false, Nat.lt_succ_self, and_true]
            by_cases hb : bs.contains j = true
            · rw [if_pos hb]
              cases s with
              | ow o => exact (hno o hb e).elim
              | im d => rfl
              | un => rfl
            · rw [if_neg hb]
        · have : (j < n + 1) ↔ j < n := by omega
          simp only [this]
      by_cases hb : bs.contains n = true
      · cases e : env[n]? with
        | none => exact ⟨Hbf, envf, le, Sf, hd, hl, same fun o _ => by rw [e]; simp⟩
        | some s =>
          cases s with
          | im d => exact ⟨Hbf, envf, le, Sf, hd, hl, same fun o _ => by rw [e]; simp⟩
          | un => exact ⟨Hbf, envf, le, Sf, hd, hl, same fun o _ => by rw [e]; simp⟩
          | ow o =>
            have ef : envf[n]? = some (.ow o) := by rw [hg n, e]; simp
            obtain ⟨a, h1, h2, h3, h4⟩ := Sf.ow n o ef
            obtain ⟨u, hu⟩ := h3.there
            have hB : B.H a = none ∨ B.io a := by
              split at h4
              · exact .inr h4
              · exact .inl h4.1
            have S1 : Stt K B (envf.set n .un) σ Hbf H := Sf.forget n (Sf.nfx fun d e => by rw [ef] at e; cases e)
            have nf : ∀ (j : Nat) (o' : OB), (envf.set n .un)[j]? = some (.ow o') → σ[j]? ≠ some (some (.ref a)) := fun j o' e z => by
              by_cases hij : n = j
              · subst hij
                rw [get_set_eq (lt_of_get ef)] at e; cases e
              · rw [get_set_ne hij] at e
                exact hij (Sf.inj n j o o' a ef e h1 z)
            have S2 := S1.frz hu h2 hB nf
            have rp : Rp K (upd Hbf a u) o.toD (.ref a) := h3.froze (Le.new h2) (by rw [upd_same, hu])
            have S3 := S2.store (i := n) (d := o.toD) (v := .ref a) (fun a' c' z => by
              obtain ⟨_, z2⟩ := Sf.fx n a' c' z
              rw [ef] at z2; cases z2) (by rw [List.length_set]; exact lt_of_get ef) rp
            have es : σ.set n (some (.ref a)) = σ := by
              apply List.ext_getElem?
              intro m
              by_cases hm : n = m
              · subst hm
                rw [List.getElem?_set_self (lt_of_get h1), h1]
              · rw [List.getElem?_set_ne hm]
            rw [es, List.set_set] at S3
            refine ⟨_, _, le.trans (Le.new h2), S3, fun b hne => ?_, by rw [List.length_set]; exact hl, fun j => ?_⟩
            · by_cases hba : b = a
              · subst hba; exact ⟨n, o, hb, e, h1⟩
              · rw [upd_ne hba] at hne; exact hd b hne
            · by_cases hj : n = j
              · subst hj
                rw [get_set_eq (lt_of_get ef), e]
                show some (Sl.im o.toD) = some (if bs.contains n = true ∧ n < n + 1 then frzS (.ow o) else .ow o)
                rw [if_pos ⟨hb, Nat.lt_succ_self n⟩]
                rfl
              · rw [get_set_ne hj, hg j]
                have : (j < n + 1) ↔ j < n := by omega
                simp only [this]
      · exact ⟨Hbf, envf, le, Sf, hd, hl, same fun o z => absurd z hb⟩
  obtain ⟨Hbf, envf, le, Sf, hd, hl, hg⟩ := go env.length (Nat.le_refl _)
  have e : envf = frzE bs 0 env := by
    apply List.ext_getElem?
    intro j
    rw [hg j, frzE_get]
    cases ej : env[j]? with
    | none => rfl
    | some s =>
      have := lt_of_get ej
      simp [this]
  subst e
  exact ⟨Hbf, le, Sf, hd⟩
/-- and they are owned again -/
theorem Stt.again {bs : List Nat} {Hbf Hb1 H1 : Hp} {env1 env2 : Evn} (S : Stt K B env σ Hb H) (le : Le Hb Hbf) (Sf : Stt K B (frzE bs 0 env) σ Hbf H) (hd : ∀ b, Hbf b ≠ Hb b → ∃ (i : Nat) (o : OB), bs.contains i = true ∧ env[i]? = some (.ow o) ∧ σ[i]? = some (some (.ref b)))
    (T : Stt K (reb B (frzE bs 0 env) σ Hbf H) env1 σ Hb1 H1) (hm : mrgE bs 0 env env1 = some env2) : ∃ Hb2, Le Hb Hb2 ∧ Stt K B env2 σ Hb2 H1 ∧ Shp env env2 := by
  obtain ⟨lm, gm⟩ := mrgE_get bs env env1 env2 0 hm
  have le1 : Le Hbf Hb1 := T.exb
  -- the addresses that are owned again
  let A : Addr → Prop := fun b => ∃ (i : Nat) (o : OB), bs.contains i = true ∧ env[i]? = some (.ow o) ∧ σ[i]? = some (some (.ref b))
  have hA : ∀ b, A b → Hb b = none := fun b ⟨i, o, _, e, h⟩ => by
    obtain ⟨a, h1, h2, _⟩ := S.ow i o e
    rw [h] at h1; cases h1
    exact h2
  let Hb2 : Hp := fun b => @ite _ (A b) (Classical.propDecidable _) none (Hb1 b)
  have hb2A : ∀ b, A b → Hb2 b = none := fun b h => if_pos h
  have hb2n : ∀ b, ¬ A b → Hb2 b = Hb1 b := fun b h => if_neg h
  have le2 : Le Hb Hb2 := fun b o e => by
    have na : ¬ A b := fun z => by rw [hA b z] at e; cases e
    rw [hb2n b na]
    exact le1 b o (le b o e)
  -- owned there: owned here
  have ownf : ∀ (j : Nat) (o : OB), (frzE bs 0 env)[j]? = some (.ow o) → bs.contains j = false ∧ env[j]? = some (.ow o) := fun j o e => by
    rw [frzE_get, Nat.zero_add] at e
    obtain ⟨s, hs, e2⟩ := Option.map_eq_some_iff.mp e
    by_cases hb : bs.contains j = true
    · rw [if_pos hb] at e2
      cases s <;> cases e2
    · rw [if_neg hb] at e2
      subst e2
      exact ⟨by simpa using hb, hs⟩
  have keepB : ∀ b o, B.H b = some o → ¬ B.io b → H1 b = some o := fun b o e n => by
    refine T.keep b o (S.keep b o e n) fun z => ?_
    obtain ⟨i, o1, e1, h1⟩ := z
    obtain ⟨_, e1⟩ := ownf i o1 e1
    obtain ⟨a', k1, k2, k3, k4⟩ := S.ow i o1 e1
    rw [h1] at k1; cases k1
    split at k4
    · exact n k4
    · rw [k4.1] at e; cases e
  have own2 : ∀ (i : Nat) (o : OB), env2[i]? = some (.ow o) → ∃ o0, env[i]? = some (.ow o0) := fun i o e => by
    obtain ⟨s0, s1, e0, e1, e2⟩ := gm i _ e
    split at e2
    · cases e2; exact ⟨o, e0⟩
    · cases s0 with
      | ow o0 => exact ⟨o0, e0⟩
      | im d => cases e2
      | un => cases e2
  refine ⟨Hb2, le2, ⟨by rw [S.len, lm], fun b o e => ?_, fun i d e => ?_, fun i o e => ?_, fun i j o o' a e e' z z' => ?_, S.exb.trans le2, keepB, fun b o e n => ?_, fun b z => ?_, fun i a c e => ?_⟩, own2⟩
  · by_cases ha : A b
    · rw [hb2A b ha] at e; cases e
    · rw [hb2n b ha] at e; exact T.sub b o e
  · obtain ⟨s0, s1, e0, e1, e2⟩ := gm i _ e
    have e0' : env[i]? = some (.im d) := by
      split at e2
      · cases e2; exact e0
      · cases s0 with
        | ow o0 =>
          unfold mrgS at e2
          cases s1 with
          | ow o1 => simp only at e2; split at e2 <;> cases e2
          | im d1 => cases e2
          | un => cases e2
        | im d0 => cases e2; exact e0
        | un => cases e2
    obtain ⟨v, h1, h2⟩ := S.im i d e0'
    exact ⟨v, h1, Rp.mono le2 _ _ h2⟩
  · obtain ⟨s0, s1, e0, e1, e2⟩ := gm i _ e
    split at e2
    · rename_i hb
      cases e2
      obtain ⟨a, h1, h2, h3, h4⟩ := S.ow i o e0
      obtain ⟨u, hu⟩ := h3.there
      have ha : A a := ⟨i, o, by simpa using hb, e0, h1⟩
      refine ⟨a, h1, hb2A a ha, h3.mono le2 ?_, h4⟩
      rw [T.keep a u hu fun z => ?_, hu]
      obtain ⟨j, oj, ej, hj⟩ := z
      obtain ⟨nb, ej⟩ := ownf j oj ej
      have := S.inj i j o oj a e0 ej h1 hj
      subst this
      rw [Nat.zero_add] at hb
      rw [hb] at nb; cases nb
    · cases s0 with
      | im d => cases e2
      | un => cases e2
      | ow o0 =>
        unfold mrgS at e2
        cases s1 with
        | im d1 => cases e2
        | un => cases e2
        | ow o1 =>
          simp only at e2
          split at e2
          · rename_i hfl
            cases e2
            obtain ⟨a, h1, h2, h3, _⟩ := T.ow i o e1
            obtain ⟨a', k1, k2, k3, k4⟩ := S.ow i o0 e0
            rw [h1] at k1; cases k1
            refine ⟨a, h1, ?_, flat_ob hfl h3, k4⟩
            by_cases ha : A a
            · exact hb2A a ha
            · rw [hb2n a ha]; exact h2
          · cases e2
  · obtain ⟨o0, e0⟩ := own2 i o e
    obtain ⟨o1, e1⟩ := own2 j o' e'
    exact S.inj i j o0 o1 a e0 e1 z z'
  · have na : ¬ A b := fun z => by rw [hb2A b z] at e; cases e
    rw [hb2n b na] at e
    cases hb : Hb b with
    | some x => exact S.frs b x hb n
    | none =>
      have hbf : Hbf b = none := by
        by_cases q : Hbf b = Hb b
        · rw [q, hb]
        · exact (na (hd b q)).elim
      rcases T.frs b o e hbf with z | z
      · have z' : H b = none := z
        exact .inl (S.fresh z').1
      · obtain ⟨i, o1, e1, h1⟩ := z
        obtain ⟨_, e1⟩ := ownf i o1 e1
        obtain ⟨a', k1, k2, k3, k4⟩ := S.ow i o1 e1
        rw [h1] at k1; cases k1
        split at k4
        · exact .inr k4
        · exact .inl k4.1
  · obtain ⟨o, e⟩ := S.iot b z
    by_cases q : ∃ (i : Nat) (o : OB), (frzE bs 0 env)[i]? = some (.ow o) ∧ σ[i]? = some (some (.ref b))
    · exact T.iot b q
    · exact ⟨o, T.keep b o e q⟩
  · obtain ⟨h1, h2⟩ := S.fx i a c e
    refine ⟨h1, ?_⟩
    have hl : i < env2.length := by rw [lm]; exact lt_of_get h2
    have hg : env2[i]? = some env2[i] := List.getElem?_eq_getElem hl
    obtain ⟨s0, s1, e0, e1, e2⟩ := gm i _ hg
    rw [h2] at e0
    cases e0
    rw [hg]
    split at e2
    · exact e2.symm
    · exact e2.symm
end
section
variable {X : Cx} {W : WX} {ct : CT} {io0 : Bool} {c : Expr} {pos : Pos}
theorem SS.ifB {bs : List Nat} {f : Mo Bool} {g : Bool → Ms} {x y : List Stmt} (hc : ST X W ct c f) (ha : SSs X W ct io0 x (g true)) (hb : SSs X W ct io0 y (g false)) : SS X W ct io0 (.If c x y pos) ((brw bs f).fl g) := by
  obtain ⟨tc, pc, kc⟩ := hc
  obtain ⟨ta, pa, ka⟩ := ha
  obtain ⟨tb, pb, kb⟩ := hb
  refine ⟨_, ps_if pc pa pb, fun B σ Hb H env D hB hX S q => ?_⟩
  obtain ⟨Hbf, le, Sf, hd⟩ := S.frzAll bs
  refine kc (reb B (frzE bs 0 env) σ Hbf H) σ Hbf H (frzE bs 0 env) _ (by exact hX) Sf.re ?_
  unfold Mo.fl brw at q
  cases hf : f (frzE bs 0 env) with
  | none => simp only [hf] at q; exact q
  | some t =>
  cases t with
  | ex c e => simp only [hf] at q; exact q.elim
  | ok t env1 =>
    simp only [hf] at q
    intro Hb1 H1 T le1 sh1
    cases hm : mrgE bs 0 env env1 with
    | none => simp only [hm] at q; exact q.elim
    | some env2 =>
      simp only [hm] at q
      obtain ⟨Hb2, le2, S2, sh2⟩ := S.again le Sf hd T hm
      have g2 := GoS.mono q le2
      cases t with
      | true => exact ka B σ Hb2 H1 env2 D hB hX S2 g2
      | false => exact kb B σ Hb2 H1 env2 D hB hX S2 g2
end
end HB

set_option Elab.async false
set_option linter.all false
set_option maxRecDepth 100000
set_option maxHeartbeats 2000000
/-! HBSnd13: the induction over statements. -/
namespace HB
open PySem PySem.Spec PyProof.Rows L2

section
variable {X : Cx} {W : WX} {ct : CT} {io0 : Bool} {e a b c : Expr} {es : List Expr} {fe fa fb fc : Mo RV} {fs : Mo (List RV)} {pos : Pos}
theorem SS.pass : SS X W ct io0 (.Pass pos) (fun env => some (.nx env)) := ⟨_, ps_pass, fun B σ Hb H env D hB hX S q => q σ Hb H S (Le.refl _)⟩
theorem SS.brk : SS X W ct io0 (.Break pos) (fun env => some (.bk env)) := ⟨_, ps_break, fun B σ Hb H env D hB hX S q => q σ Hb H S (Le.refl _)⟩
theorem SS.cont : SS X W ct io0 (.Continue pos) (fun env => some (.ct env)) := ⟨_, ps_continue, fun B σ Hb H env D hB hX S q => q σ Hb H S (Le.refl _)⟩
theorem SS.retN : SS X W ct io0 (.Return none pos) (fun env => some (.rt (.val .non) env)) := ⟨_, ps_retN, fun B σ Hb H env D hB hX S q => q .non σ Hb H S (Le.refl _) trivial rfl⟩
theorem SS.ret (h : SE X W ct e fe) : SS X W ct io0 (.Return (some e) pos) (fe.fl fun r env => match r with
    | .bo i => match env[i]? with
      | some (.ow o) => if (i == 0 && io0) = true then none else some (.rt (.fr o) (env.set i .un))
      | some (.im d) => some (.rt (.val d) env)
      | _ => none
    | r => some (.rt r env)) := by
  obtain ⟨te, pe, ke⟩ := h
  refine ⟨_, ps_ret pe, fun B σ Hb H env D hB hX S q => ke B σ Hb H env _ hX S ((GoS.fl q).same fun r e1 g v Hb1 H1 S1 le1 sh1 rv => ?_)⟩
  cases r with
  | val d => exact g v σ Hb1 H1 S1 le1 trivial rv
  | fr o => exact g v σ Hb1 H1 S1 le1 trivial rv
  | bo i =>
    have h' : σ[i]? = some (some v) := rv
    cases ho : e1[i]? with
    | none => simp only [ho] at g; exact False.elim g
    | some t =>
    cases t with
    | un => simp only [ho] at g; exact False.elim g
    | im d =>
      simp only [ho] at g
      obtain ⟨v', h1, h2⟩ := S1.im i d ho
      rw [h'] at h1; cases h1
      exact g v σ Hb1 H1 S1 le1 trivial h2
    | ow o =>
      simp only [ho] at g
      cases hb : (i == 0 && io0) with
      | true => rw [if_pos hb] at g; exact False.elim g
      | false =>
        rw [if_neg (by rw [hb]; exact Bool.false_ne_true)] at g
        obtain ⟨a, h1, h2, h3, h4⟩ := S1.ow i o ho
        rw [h'] at h1; cases h1
        rw [hB i, hb] at h4
        refine g _ σ Hb1 H1 (S1.forget i (S1.nfx fun d e => by rw [ho] at e; cases e)) le1 trivial ⟨a, rfl, h2, h3, h4.1, h4.2, fun j o' e z => ?_⟩
        by_cases hij : i = j
        · subst hij
          rw [get_set_eq (lt_of_get ho)] at e; cases e
        · rw [get_set_ne hij] at e
          exact hij (S1.inj i j o o' a ho e h' z)
theorem SS.stuck {st : Stmt} : SS X W ct io0 st (fun _ => none) := ⟨_, ps_never, fun B σ Hb H env D hB hX S q => q.elim⟩
theorem Stt.forgets {K : Fg} {B : Bs} {env : Evn} {σ : L2.St} {Hb H : Hp} (hx : B.fx = none) (S : Stt K B env σ Hb H) : ∀ ks : List Nat, Stt K B (unown ks env) σ Hb H
  | [] => S
  | i :: ks => (Stt.forgets hx S ks).forget i (nofx hx)
theorem SSs.fin (hn : ct.xi = none) {st : List Stmt} {f : Ms} (h : SSs X W ct io0 st f) (ks : List Nat) : SSs X W ct io0 st (f.fin ks) := by
  obtain ⟨t, p, hk⟩ := h
  refine ⟨t, p, fun B σ Hb H env D hB hX S q => hk B σ Hb H env D hB hX S ?_⟩
  unfold Ms.fin at q
  cases hf : f env with
  | none => simp only [hf] at q; exact q
  | some t =>
    cases t with
    | nx e => simp only [hf] at q; exact fun σ' Hb' H' S' le => q σ' Hb' H' (Stt.forgets (hX.none_ hn) S' ks) le
    | bk e => simp only [hf] at q; exact fun σ' Hb' H' S' le => q σ' Hb' H' (Stt.forgets (hX.none_ hn) S' ks) le
    | ct e => simp only [hf] at q; exact fun σ' Hb' H' S' le => q σ' Hb' H' (Stt.forgets (hX.none_ hn) S' ks) le
    | rt r e => simp only [hf] at q; exact q
    | ex c e => simp only [hf] at q; exact q
/-- raise X() -/
theorem pmk_own0 {C : Addr} {bmB : List Value} {Bn newId initId : String} {x : Str} {p pos : Pos} (F : ExcBaseFacts Bn newId initId bmB) (q : PySem.W.excIn X.K C bmB newId = true) (gC : X.mg x = some (.ref C))
    (kC : PySem.W.keepIn X.K (.ref C) = true) (r : Raises X (.ref C)) (hg : Gl X x) (hdb : (x == ("__debug__" : Str)) = false) : PMk X (.Call (.Name x p) [] [] pos) (fun _ H Q => Q (.ref C) none H) := by
  intro pins s σ H Q I h
  refine wpAny_Call_Name_kw (ld_glob I hg gC ?_ hdb)
  refine PySem.W.callWith_K0 I.kIn kC ?_
  show wpAny _ _ (call (.ref C) []) _ _ _
  obtain ⟨bm, N, nm, qn, bs, hdct, sn, sub, ab, col, dd, k0, k1, k2, k3, k5, mN, hC, hN, hni, T⟩ := exc_obj I.kIn q
  refine wpAny_call_exc_subT F T hC hN hni (fun h' e hm => ?_) (Nat.zero_le _)
  exact mk_of I hm r h (I.hok.gone hm.new)
theorem SS.raise {at_ : Nat → Addr} {x : Str} {c : Nat} {p pos q : Pos} (hat : at_ = ct.at_) (E : ExAt X.K X.mg at_ x c) (hc : X.calm = true) (tk : Takes X W) (hg : Gl X x) (hdb : (x == ("__debug__" : Str)) = false) :
    SS X W ct io0 (.Raise (some (.Call (.Name x p) [] [] q)) none pos) (fun env => some (.ex c env)) := by
  subst hat
  exact ⟨_, ps_raise hc tk (pmk_own0 PySem.F.excBase_ValueError E.ex E.mg E.kp (raises_own E.sb E.ty) hg hdb), fun B σ Hb H env D hB hX S q => q σ Hb H S (Le.refl _)⟩
theorem Stt.withfx {K : Fg} {B : Bs} {env : Evn} {σ : L2.St} {Hb H : Hp} (S : Stt K B env σ Hb H) {i : Nat} {a : Addr} {c : Nat} (h1 : σ[i]? = some (some (.ref a))) (h2 : env[i]? = some (.im (.exc c))) : Stt K { B with fx := some (i, a, c) } env σ Hb H :=
  ⟨S.len, S.sub, S.im, S.ow, S.inj, S.exb, S.keep, S.frs, S.iot, fun j b d e => by cases e; exact ⟨h1, h2⟩⟩
theorem Stt.dropfx {K : Fg} {B : Bs} {fx : Option (Nat × Addr × Nat)} {env : Evn} {σ : L2.St} {Hb H : Hp} (hx : B.fx = none) (S : Stt K { B with fx := fx } env σ Hb H) : Stt K B env σ Hb H :=
  ⟨S.len, S.sub, S.im, S.ow, S.inj, S.exb, S.keep, S.frs, S.iot, fun j b d e => by rw [hx] at e; cases e⟩
/-- the reading of a block, seen from outside -/
def tSs (K : Fg) (W : WX) (at_ : Nat → Addr) (fx : Bs → Prop) (io0 : Bool) (f : Ms) : TS := fun D σ H => ∃ B Hb env, Io B io0 ∧ fx B ∧ Stt K B env σ Hb H ∧ match f env with
  | some (.nx e) => ∀ σ' Hb' H', Stt K B e σ' Hb' H' → Le Hb Hb' → D.nx σ' H'
  | some (.bk e) => ∀ σ' Hb' H', Stt K B e σ' Hb' H' → Le Hb Hb' → D.bk σ' H'
  | some (.ct e) => ∀ σ' Hb' H', Stt K B e σ' Hb' H' → Le Hb Hb' → D.ct σ' H'
  | some (.rt r e) => ∀ v σ' Hb' H', Stt K B e σ' Hb' H' → Le Hb Hb' → NoBo r → RVOk K B e σ' Hb' H' v r → D.rt v H'
  | some (.ex c e) => ∀ σ' Hb' H', Stt K B e σ' Hb' H' → Le Hb Hb' → W (.ref (at_ c)) none σ' H'
  | none => False
theorem SSs.canon {sts : List Stmt} {f : Ms} (h : SSs X W ct io0 sts f) : PSs X sts (tSs X.K W ct.at_ (BX X ct) io0 f) := by
  obtain ⟨ts, pss, k⟩ := h
  refine ⟨fun pins s σ H D I ⟨B, Hb, env, hB, hX, S, q⟩ => pss.run pins s σ H D I (k B σ Hb H env D hB hX S ?_)⟩
  cases hf : f env with
  | none => rw [hf] at q; exact q.elim
  | some t => cases t <;> (rw [hf] at q; exact q)
theorem SS.try_ {n x : Str} {i d : Nat} {cs pass : List Nat} {body suite : List Stmt} {b0 : Stmt} {np pos pos' : Pos} {g f : Ms} (hn : ct.xi = none) (hs : X.stack = X.env :: X.outer) (hf : X.env.frame = some X.env.locals) (hN : X.N.Nodup) (hi : X.N[i]? = some n) (hln : X.env.kindOf n = some .local)
    (hc : Names X x (.ref (ct.at_ d))) (tk : Takes X W) (hcs : ∀ c ∈ cs, c ∈ ct.ks) (hyes : ∀ c ∈ cs, PySem.W.exmOne X.K (.ref (ct.at_ c)) (.ref (ct.at_ d)) = some true) (hno : ∀ c ∈ pass, c ∉ cs → PySem.W.exmOne X.K (.ref (ct.at_ c)) (.ref (ct.at_ d)) = some false)
    (hb : ∀ (W' : WX) (pn : List (Addr × Obj)) (xe : Value → Shared → Prop), Takes (X.tr pn xe) W' → PassesOwn (model X.prog X.w) X.A X.env xe → SSs (X.tr pn xe) W' ct io0 body g)
    (hsu : ∀ (a : Addr) (pn : List (Addr × Obj)), SSs (X.suite a pn) (fun _ _ _ _ => False) { ct with xi := some i } io0 (b0 :: suite) f) :
    SS X W ct io0 (.Try body [.ExceptHandler (some (.Name x np)) (some n) (b0 :: suite) pos'] [] [] pos) (fun env => match g env with
    | some (.ex c e) => if cs.contains c = true then
        if i < e.length then (f.noex.fin [i]) (e.set i (.im (.exc c))) else none
      else if pass.contains c = true then some (.ex c e) else none
    | r => r) := by
  have T := ps_try_as (X := X) (x := x) (n := n) (c := .ref (ct.at_ d)) (i := i) (body := body) (suite := suite) (b₀ := b0) (np := np) (pos := pos) (pos' := pos')
    (tb := fun W' => tSs X.K W' ct.at_ (fun B => B.fx = none) io0 g)
    (ts := fun a cls dd => fun D σ H => dd = none ∧ ∃ c, cls = .ref (ct.at_ c) ∧ c ∈ ct.ks ∧ tSs X.K (fun _ _ _ _ => False) ct.at_ (fun B => B.fx = some (i, a, c)) io0 f D σ H) (Wout := W) hs hf hN hi hln hc tk
    (fun W' pn xe tk' po => by
      have z := (hb W' pn xe tk' po).canon
      refine ⟨fun pins s σ H D I ⟨B, Hb, env, hB, hX, S, q⟩ => z.run pins s σ H D I ⟨B, Hb, env, hB, .of_none hn hX, S, q⟩⟩)
    (fun a oe cls dd pn hz hv => by
      have z := (hsu a ((a, oe) :: pn)).canon
      refine ⟨fun pins s σ H D I ⟨e1, c, e2, hc2, B, Hb, env, hB, hX, S, q⟩ => ?_⟩
      subst e1 e2
      exact z.run pins s σ H D I ⟨B, Hb, env, hB, ⟨a, c, oe, pn, hX, hc2, rfl, hz, hv⟩, S, q⟩)
  refine ⟨_, T, fun B σ Hb H env D hB hX S q => ⟨B, Hb, env, hB, hX.none_ hn, S, ?_⟩⟩
  cases hg : g env with
  | none => simp only [hg] at q; exact q
  | some t =>
  cases t with
  | nx e => simp only [hg] at q; exact q
  | bk e => simp only [hg] at q; exact q
  | ct e => simp only [hg] at q; exact q
  | rt r e => simp only [hg] at q; exact q
  | ex c e =>
    simp only [hg] at q
    intro σ' Hb' H' S' le
    have bx := hX.none_ hn
    by_cases hcc : cs.contains c = true
    · rw [if_pos hcc] at q
      have hm : c ∈ cs := by simpa using hcc
      refine ⟨true, hyes c hm, fun _ a ha => ⟨rfl, c, rfl, hcs c hm, ?_⟩, fun z => nomatch z⟩
      by_cases hl : i < e.length
      · rw [if_pos hl] at q
        have S1 := S'.store (nofx bx) (v := .ref a) (d := .exc c) hl ⟨a, rfl⟩
        have S2 := S1.withfx (i := i) (a := a) (c := c) (List.getElem?_set_self (by rw [S'.len]; exact hl)) (get_set_eq hl)
        refine ⟨{ B with fx := some (i, a, c) }, Hb', _, hB, rfl, S2, ?_⟩
        have out : ∀ {e2 : Evn} {σ2 : L2.St} {Hb2 H2 : Hp}, Stt X.K { B with fx := some (i, a, c) } e2 σ2 Hb2 H2 → Stt X.K B (unown [i] e2) (σ2.set i none) Hb2 H2 := fun S3 => (Stt.dropfx bx S3).wipe bx [i]
        unfold Ms.fin Ms.noex at q
        cases hfe : f (e.set i (.im (.exc c))) with
        | none => simp only [hfe] at q; exact q
        | some t =>
        cases t with
        | nx e2 => simp only [hfe] at q; exact fun σ2 Hb2 H2 S3 le2 => q _ Hb2 H2 (out S3) (le.trans le2)
        | bk e2 => simp only [hfe] at q; exact fun σ2 Hb2 H2 S3 le2 => q _ Hb2 H2 (out S3) (le.trans le2)
        | ct e2 => simp only [hfe] at q; exact fun σ2 Hb2 H2 S3 le2 => q _ Hb2 H2 (out S3) (le.trans le2)
        | rt r e2 =>
          simp only [hfe] at q
          exact fun v σ2 Hb2 H2 S3 le2 nb rv => q v σ2 Hb2 H2 (Stt.dropfx bx S3) (le.trans le2) nb (by cases r <;> exact rv)
        | ex c2 e2 => simp only [hfe] at q; exact q.elim
      · rw [if_neg hl] at q; exact q.elim
    · rw [if_neg hcc] at q
      have hm : c ∉ cs := by simpa using hcc
      by_cases hp : pass.contains c = true
      · rw [if_pos hp] at q
        exact ⟨false, hno c (by simpa using hp) hm, (fun z => Bool.noConfusion z), fun _ => q σ' Hb' H' S' le⟩
      · rw [if_neg hp] at q; exact q.elim
theorem SSs.nil : SSs X W ct io0 [] (fun env => some (.nx env)) := ⟨_, pss_nil, fun B σ Hb H env D hB hX S q => q σ Hb H S (Le.refl _)⟩
theorem SSs.cons {st : Stmt} {r : List Stmt} {f g : Ms} (h : SS X W ct io0 st f) (k : SSs X W ct io0 r g) : SSs X W ct io0 (st :: r) (f.seq g) := by
  obtain ⟨t, p, hk⟩ := h
  obtain ⟨u, pu, ku⟩ := k
  refine ⟨_, pss_cons p pu, fun B σ Hb H env D hB hX S q => hk B σ Hb H env _ hB hX S ?_⟩
  unfold Ms.seq at q
  cases hf : f env with
  | none => simp only [hf] at q; exact q
  | some t =>
    cases t with
    | nx e1 =>
      simp only [hf] at q
      exact fun σ' Hb' H' S' le => ku B σ' Hb' H' e1 D hB hX S' (GoS.mono q le)
    | bk e => simp only [hf] at q; exact q
    | ct e => simp only [hf] at q; exact q
    | rt r e => simp only [hf] at q; exact q
    | ex c e => simp only [hf] at q; exact q
theorem SS.iff {f : Mo Bool} {g : Bool → Ms} {x y : List Stmt} (hc : ST X W ct c f) (ha : SSs X W ct io0 x (g true)) (hb : SSs X W ct io0 y (g false)) : SS X W ct io0 (.If c x y pos) (f.fl g) := by
  obtain ⟨tc, pc, kc⟩ := hc
  obtain ⟨ta, pa, ka⟩ := ha
  obtain ⟨tb, pb, kb⟩ := hb
  refine ⟨_, ps_if pc pa pb, fun B σ Hb H env D hB hX S q => kc B σ Hb H env _ hX S ((GoS.fl q).same fun t e1 g1 Hb1 H1 S1 le1 sh1 => ?_)⟩
  have g2 := GoS.mono g1 le1
  cases t with
  | true => exact ka B σ Hb1 H1 e1 D hB hX S1 g2
  | false => exact kb B σ Hb1 H1 e1 D hB hX S1 g2
theorem SS.whl {f : Mo Bool} {g : Ms} {body : List Stmt} (hp : PassesOwn (model X.prog X.w) X.A X.env X.xe) (hc : ST X W ct c f) (hb : SSs X W ct io0 body g) (n : Nat) : SS X W ct io0 (.While c body [] pos) (whileGo f g n) := by
  obtain ⟨tc, pc, kc⟩ := hc
  obtain ⟨tb, pb, kb⟩ := hb
  refine ⟨_, ps_while hp pc pb, fun B σ Hb H env D hB hX S q => ?_⟩
  refine ⟨fun m σ' H' => ∃ env_i Hbi, Stt X.K B env_i σ' Hbi H' ∧ Le Hb Hbi ∧ GoS X W ct B Hbi D (whileGo f g m env_i), ⟨n, env, Hb, S, Le.refl _, q⟩, ?_⟩
  rintro m σ1 H1 ⟨env1, Hb1, S1, le1, q1⟩
  cases m with
  | zero => exact False.elim q1
  | succ m =>
    refine kc B σ1 Hb1 H1 env1 _ hX S1 ?_
    unfold whileGo at q1
    cases hf : f env1 with
    | none => simp only [hf] at q1; exact q1
    | some t =>
    cases t with
    | ex c e => simp only [hf] at q1; exact fun Hb' H' S' l => q1 σ1 Hb' H' S' l
    | ok t e2 =>
    cases t with
    | false => simp only [hf] at q1; exact fun Hb' H' S' l _ => q1 σ1 Hb' H' S' l
    | true =>
      simp only [hf] at q1
      intro Hb2 H2 S2 le2 sh2
      rw [if_pos rfl]
      refine ⟨fun σ' H' => ∃ env_i Hbi, Stt X.K B env_i σ' Hbi H' ∧ Le Hb Hbi ∧ GoS X W ct B Hbi D (whileGo f g m env_i), fun σ' H' h => ⟨m, Nat.lt_succ_self m, h⟩, ?_⟩
      refine kb B σ1 Hb2 H2 e2 _ hB hX S2 ?_
      have le12 := le1.trans le2
      cases hg : g e2 with
      | none => simp only [hg] at q1; exact q1
      | some t =>
      cases t with
      | nx e => simp only [hg] at q1; exact fun σ' Hb' H' S' l => ⟨e, Hb', S', le12.trans l, GoS.mono q1 (le2.trans l)⟩
      | ct e => simp only [hg] at q1; exact fun σ' Hb' H' S' l => ⟨e, Hb', S', le12.trans l, GoS.mono q1 (le2.trans l)⟩
      | bk e => simp only [hg] at q1; exact fun σ' Hb' H' S' l => q1 σ' Hb' H' S' (le2.trans l)
      | rt r e => simp only [hg] at q1; exact fun v σ' Hb' H' S' l => q1 v σ' Hb' H' S' (le2.trans l)
      | ex c e => simp only [hg] at q1; exact fun σ' Hb' H' S' l => q1 σ' Hb' H' S' (le2.trans l)
theorem SS.forr (hn : ct.xi = none) {t : List Nat} {fi : Mo (List D)} {g : Ms} {tg iter : Expr} {body : List Stmt} (hp : PassesOwn (model X.prog X.w) X.A X.env X.xe) (hc : X.calm = true) (hi : SI X W ct tg iter fi) (hg : PG X tg (tgG X.K t)) (hb : SSs X W ct io0 body g) (hs : ∀ x, foldedSetIterable iter X.env x = pure x) :
    SS X W ct io0 (.For tg iter body [] pos) (fi.fl fun ds => forGo t g ds) := by
  obtain ⟨wi, pi, ki⟩ := hi
  obtain ⟨tb, pb, kb⟩ := hb
  refine ⟨_, ps_for hp hc pi hg pb hs, fun B σ Hb H env D hB hX S q => ki B σ Hb H env _ hX S ((GoS.fl q).same fun ds e1 q0 J Hb1 H1 S1 le1 sh1 wk => ?_)⟩
  have q1 := GoS.mono q0 le1
  refine ⟨fun i m σ' H' => m = ds.length - i ∧ i ≤ ds.length ∧ ∃ env_i Hbi, Stt X.K B env_i σ' Hbi H' ∧ Le Hb1 Hbi ∧ GoS X W ct B Hbi D (forGo t g (ds.drop i) env_i), ⟨ds.length, rfl, Nat.zero_le _, e1, Hb1, S1, Le.refl _, q1⟩, ?_⟩
  rintro i m σ2 H2 ⟨rfl, hi, env2, Hb2, S2, le2, q2⟩
  by_cases hlt : i < ds.length
  · refine .inr ⟨wk.1 i Hb2 H2 le2 S2.sub hlt, fun σ' H' => (i + 1 ≤ ds.length ∧ ∃ env_i Hbi, Stt X.K B env_i σ' Hbi H' ∧ Le Hb1 Hbi ∧ GoS X W ct B Hbi D (forGo t g (ds.drop (i + 1)) env_i)), fun σ' H' ⟨h1, h2⟩ => ⟨ds.length - (i + 1), by omega, rfl, h1, h2⟩, fun x H' y => ?_⟩
    have hd : ds[i]? = some ds[i] := List.getElem?_eq_getElem hlt
    generalize ds[i] = d at hd
    have dr : ds.drop i = d :: ds.drop (i + 1) := by
      rw [List.drop_eq_getElem_cons hlt]
      congr 1
      rw [List.getElem?_eq_getElem hlt] at hd
      exact Option.some.inj hd
    rw [dr] at q2
    have yy : ∃ Hb', Stt X.K B env2 σ2 Hb' H' ∧ Le Hb2 Hb' ∧ Rp X.K Hb' d x := by
      rcases wk.2.2 i d Hb2 H2 x H' le2 S2.sub hd y with ⟨e, rp⟩ | ⟨T, u, hT, e, rp⟩
      · subst e; exact ⟨Hb2, S2, Le.refl _, rp⟩
      · subst e; exact ⟨upd Hb2 T u, S2.new hT, Le.new (S2.hbn hT), rp⟩
    obtain ⟨Hb', S', le', rp⟩ := yy
    unfold forGo at q2
    cases hbt : bindT t d env2 with
    | none => simp only [hbt] at q2; exact False.elim q2
    | some env3 =>
    simp only [hbt] at q2
    refine tg_rd (hX.none_ hn) S' rp hbt fun σ3 S3 sh3 _ => kb B σ3 Hb' H' env3 _ hB hX S3 ?_
    have q3 := GoS.mono q2 le'
    have leB := le2.trans le'
    cases hg2 : g env3 with
    | none => simp only [hg2] at q3; exact q3
    | some t3 =>
    cases t3 with
    | nx e => simp only [hg2] at q3; exact fun σ' Hb4 H4 S4 l => ⟨hlt, e, Hb4, S4, leB.trans l, GoS.mono q3 l⟩
    | ct e => simp only [hg2] at q3; exact fun σ' Hb4 H4 S4 l => ⟨hlt, e, Hb4, S4, leB.trans l, GoS.mono q3 l⟩
    | bk e => simp only [hg2] at q3; exact fun σ' Hb4 H4 S4 l => q3 σ' Hb4 H4 S4 l
    | rt r e => simp only [hg2] at q3; exact fun v σ' Hb4 H4 S4 l => q3 v σ' Hb4 H4 S4 l
    | ex c e => simp only [hg2] at q3; exact fun σ' Hb4 H4 S4 l => q3 σ' Hb4 H4 S4 l
  · have e : i = ds.length := by omega
    subst e
    refine .inl ⟨wk.2.1 _ Hb2 H2 le2 S2.sub (Nat.le_refl _), ?_⟩
    have dn : ds.drop ds.length = [] := List.drop_length
    rw [dn] at q2
    exact q2 σ2 Hb2 H2 S2 (Le.refl _)
theorem SS.asgLc (hn : ct.xi = none) {elt tg iter : Expr} {ifs : List Expr} {scope : Scope} {i : Nat} {own : Bool} {y : Str} {py p2 : Pos} (hc : X.calm = true) (hN : X.N.Nodup) (hy : X.N[i]? = some y) (hyl : X.env.scope.names.lookup y = some .local)
    (hsw : swapsWith (.ListComp elt [⟨tg, iter, ifs, 0⟩] scope p2) (some (.Name y py)) pos.line X.env = pure true) (h : LcOk X W ct elt tg iter ifs scope fe) :
    SS X W ct io0 (.Assign [.Name y py] (.ListComp elt [⟨tg, iter, ifs, 0⟩] scope p2) pos) ((fe.bnd fun r => prepR own r).fl fun r env => nxOf (storeR io0 i r env)) := by
  obtain ⟨own', t, fi, fc, fe', ⟨wi, pi, ki⟩, ok, ht, hg, hts, he, hs, rfl⟩ := h
  exact ⟨_, ps_setLc hc hN hy hyl hsw pi ok hg hts he hs, fun B σ Hb H env D hB hX S q => asg_rd (comp_rd hn ht ki) hB hX (nofx (hX.none_ hn)) S q⟩
theorem ps_dcName {kx vx tg iter : Expr} {ifs : List Expr} {scope : Scope} {own : List (Str × Nat)} {i : Nat} {y : Str} {py p2 : Pos} {wi : TI} {g : TG} {tt : TT} {tk tv : TE} (hc : X.calm = true) (hN : X.N.Nodup) (hy : X.N[i]? = some y) (hyl : X.env.scope.names.lookup y = some .local)
    (hsw : swapsWith (.DictComp kx vx [⟨tg, iter, ifs, 0⟩] scope p2) (some (.Name y py)) pos.line X.env = pure true) (hi : PI X tg iter wi) (ok : BlkOk X.N X.env.scope scope own)
    (hg : ∀ (s1 : Shared) (H1 : Hp) (C1 : Addr) (cl : List (Str × Addr)) (fp : List Addr), PG (X.blk s1 H1 scope (compEnvC scope cl C1 X.env) fp) tg g)
    (ht : ∀ (s1 : Shared) (H1 : Hp) (C1 : Addr) (cl : List (Str × Addr)) (fp : List Addr), PTs (X.blk s1 H1 scope (compEnvC scope cl C1 X.env) fp) ifs tt)
    (hk : ∀ (s1 : Shared) (H1 : Hp) (C1 : Addr) (cl : List (Str × Addr)) (fp : List Addr), PE (X.blk s1 H1 scope (compEnvC scope cl C1 X.env) fp) kx tk)
    (he : ∀ (s1 : Shared) (H1 : Hp) (C1 : Addr) (cl : List (Str × Addr)) (fp : List Addr), PE (X.blk s1 H1 scope (compEnvC scope cl C1 X.env) fp) vx tv)
    (hs : ∀ x, foldedSetIterable iter X.env x = pure x) :
    PS X (.Assign [.Name y py] (.DictComp kx vx [⟨tg, iter, ifs, 0⟩] scope p2) pos) (tAsg (tDc wi g tt tk tv (own.map (·.2))) (gName i)) := by
  constructor
  intro pins s σ H D I hq
  rw [exec_Assign_Name_used _ _ _ _ hsw]
  refine wpAny_bind (wpAny_standAt (wpAny_bind ?_))
  show wpAny _ X.A (do let _ ← comprehension (.DictComp kx vx [⟨tg, iter, ifs, 0⟩] scope p2) scope X.env (firstIterPos [⟨tg, iter, ifs, 0⟩] p2) newDict false (eval iter X.env) (some (assign (.Name y py) X.env))) _ _ s
  have hq' : tDc wi g tt tk tv (own.map (·.2)) σ H (fun x H1 => gName i x σ H1 D.nx) := hq
  refine wpAny_bind (thn (dc_core (Qf := fun _ t => SP X pins D .next t) hc hN I hi ok hg ht hk he hs hq' fun L C t m HL IL q hn fp => ?_) fun _ t hz => wpAny_pure (wpAny_pure hz))
  show wpAny _ _ (assign (.Name y py) X.env (.ref L)) _ _ _
  refine wpAny_assign_Name (store_ok2 (v := V.ref L) IL hN hy (.inl hyl) rfl (fun sE IE ⟨a, sb, ha⟩ => ?_) (.inr hyl))
  have hne : C ≠ a := ha.elim (fun z => by rw [z]; exact fp.2.1) fun z e => fp.2.2.2.2.1 y a z e.symm
  exact ⟨m, hn.sameBut sb hne, fun h3 sb3 => ⟨_, HL, IE.turned (t' := sE.toks) (fun b o hb e => (sb3.2 b hb).trans e) fp.1 fp.2.1 fp.2.2.2.1 fp.2.2.2.2.1 fp.2.2.2.2.2, q⟩⟩
theorem SS.asgDc (hn : ct.xi = none) {kx vx tg iter : Expr} {ifs : List Expr} {scope : Scope} {i : Nat} {own : Bool} {y : Str} {py p2 : Pos} (hc : X.calm = true) (hN : X.N.Nodup) (hy : X.N[i]? = some y) (hyl : X.env.scope.names.lookup y = some .local)
    (hsw : swapsWith (.DictComp kx vx [⟨tg, iter, ifs, 0⟩] scope p2) (some (.Name y py)) pos.line X.env = pure true) (h : DcOk X W ct kx vx tg iter ifs scope fe) :
    SS X W ct io0 (.Assign [.Name y py] (.DictComp kx vx [⟨tg, iter, ifs, 0⟩] scope p2) pos) ((fe.bnd fun r => prepR own r).fl fun r env => nxOf (storeR io0 i r env)) := by
  obtain ⟨own', t, fi, fc, fk, fe', ⟨wi, pi, ki⟩, ok, ht, hg, hts, hk, he, hs, rfl⟩ := h
  exact ⟨_, ps_dcName hc hN hy hyl hsw pi ok hg hts hk he hs, fun B σ Hb H env D hB hX S q => asg_rd (dcomp_rd hn ht ki) hB hX (nofx (hX.none_ hn)) S q⟩
theorem sw_dc {kx vx : Expr} {gs : List Comprehension} {scope : Scope} {p py : Pos} {y : Str} {l : Nat} {env : Env} : swapsWith (.DictComp kx vx gs scope p) (some (.Name y py)) l env = pure (env.blockKind == .function && env.kindOf y == some .local && py.line == p.line && !(scope.names.any fun (n, k) => n == y && (k == .local || k == .cell))) := rfl
end
/-! ### stores from the right -/
theorem no_sw {e : Expr} {t : Option Expr} {l : Nat} {env : Env} (h : notComp e = true) : swapsWith e t l env = pure false := by
  cases e <;> first | rfl | cases h
theorem sw_lc {elt : Expr} {gs : List Comprehension} {scope : Scope} {p py : Pos} {y : Str} {l : Nat} {env : Env} : swapsWith (.ListComp elt gs scope p) (some (.Name y py)) l env = pure (env.blockKind == .function && env.kindOf y == some .local && py.line == p.line && !(scope.names.any fun (n, k) => n == y && (k == .local || k == .cell))) := rfl
def isStr : Expr → Bool
  | .Starred .. => true
  | _ => false
def nmF (env : Env) (line : Nat) : Expr → Option Str
  | .Name id pos => if (env.kindOf id == some .local && pos.line == line) = true then some id else none
  | _ => none
theorem any_star : ∀ {es : List Expr}, allPlain es = true → es.any isStr = false
  | [], _ => rfl
  | e :: es, h => by
    have h' : notStar e = true ∧ allPlain es = true := by simpa [allPlain] using h
    rw [List.any_cons, any_star h'.2, Bool.or_false]
    have h1 := h'.1
    clear h h'
    cases e <;> first | rfl | cases h1
theorem fm_loc {S : Sc} {env : Env} (hsc : env.scope = S.sc) {line : Nat} : ∀ {ts : List Expr}, allLoc S line ts = true → ts.filterMap (nmF env line) = ts.map strOf
  | [], _ => rfl
  | t :: ts, h => by
    cases t <;> simp only [allLoc] at h <;> try cases h
    rename_i x p
    simp only [Bool.and_eq_true] at h
    obtain ⟨⟨h1, h2⟩, h3⟩ := h
    have k : (env.kindOf x == some NameKind.local && p.line == line) = true := by
      unfold isLoc at h1
      unfold Env.kindOf
      rw [hsc, h2]
      split at h1
      · rename_i e; rw [e]; rfl
      · cases h1
    rw [List.filterMap_cons]
    simp only [nmF, k, if_true]
    rw [fm_loc hsc h3]
    rfl
theorem fm_cell {S : Sc} {env : Env} (hsc : env.scope = S.sc) {line : Nat} {ts : List Expr} : anyCell S ts = true → (ts.filterMap (nmF env line)).length < ts.length := by
  induction ts with
  | nil => intro h; cases h
  | cons t ts ih =>
    intro h
    have le := List.length_filterMap_le (nmF env line) ts
    cases t <;> simp only [anyCell] at h <;> try cases h
    rename_i x p
    rw [List.filterMap_cons]
    simp only [Bool.or_eq_true] at h
    rcases h with h | h
    · have k : (env.kindOf x == some NameKind.local && p.line == line) = false := by
        unfold isLoc at h
        unfold Env.kindOf
        rw [hsc]
        cases hl : S.sc.names.lookup x with
        | none => rfl
        | some kd => cases kd <;> first | rfl | (rw [hl] at h; cases h)
      simp only [nmF, k, Bool.false_eq_true, if_false]
      simp only [List.length_cons]
      exact Nat.lt_succ_of_le le
    · have := ih h
      split <;> simp only [List.length_cons] <;> omega
theorem nest_none {α : Type} {n r u : α} {c1 c2 c3 c4 c5 : Prop} [Decidable c1] [Decidable c2] [Decidable c3] [Decidable c4] [Decidable c5] (h : c1 ∨ c3 ∨ c4) : (if c1 then n else if c2 then n else if c3 then n else if c4 then n else if c5 then u else r) = n := by
  rcases h with h | h | h
  · rw [if_pos h]
  · rw [if_pos h]
    simp
  · rw [if_pos h]
    simp
theorem nest_some {α : Type} {n r u : α} {c1 c2 c3 c4 c5 : Prop} [Decidable c1] [Decidable c2] [Decidable c3] [Decidable c4] [Decidable c5] (h1 : ¬ c1) (h2 : ¬ c2) (h3 : ¬ c3) (h4 : ¬ c4) (h5 : ¬ c5) : (if c1 then n else if c2 then n else if c3 then n else if c4 then n else if c5 then u else r) = r := by
  rw [if_neg h1, if_neg h2, if_neg h3, if_neg h4, if_neg h5]
theorem sw_eq {env : Env} {ts ws : List Expr} {k1 k2 : Nat} {p1 p2 : Pos} : swappedStores [.Tuple ts k1 p1] (.Tuple ws k2 p2) env =
    (if (!(ts.length == 2 || ts.length == 3) || ws.length != ts.length || env.blockKind != .function) = true then pure none else if (ws.any isStr) = true then pure none
     else if ((ts.filterMap (nmF env ((ts.head?.map (·.pos.line)).getD 0))).length != ts.length || (ts.filterMap (nmF env ((ts.head?.map (·.pos.line)).getD 0))).eraseDups.length != (ts.filterMap (nmF env ((ts.head?.map (·.pos.line)).getD 0))).length) = true then pure none
     else if ws.all (foldedForSure 8) = true then pure none else if ws.all (constantsAlone 8) = true then (do
        unsupported "assign.tuple-of-constant-expressions:order-of-the-stores"
        pure (some (ts.filterMap (nmF env ((ts.head?.map (·.pos.line)).getD 0)))))
     else pure (some (ts.filterMap (nmF env ((ts.head?.map (·.pos.line)).getD 0))))) := by
  unfold swappedStores
  rfl
theorem sw_none {S : Sc} {env : Env} (hsc : env.scope = S.sc) {ts ws : List Expr} {k1 k2 : Nat} {p1 p2 : Pos} (h : parN S ts ws = true) : swappedStores [.Tuple ts k1 p1] (.Tuple ws k2 p2) env = pure none := by
  rw [sw_eq]
  refine nest_none ?_
  unfold parN at h
  simp only [Bool.or_eq_true, Bool.and_eq_true, Bool.not_eq_true'] at h
  rcases h with (h | h) | h
  · refine .inr (.inl ?_)
    have := fm_cell hsc (line := ((ts.head?.map (·.pos.line)).getD 0)) h
    simp only [Bool.or_eq_true, bne_iff_ne, ne_eq]
    exact .inl (Nat.ne_of_lt this)
  · left
    simp only [Bool.or_eq_true]
    left; left
    rw [h]; rfl
  · exact .inr (.inr h.2)
theorem dup2 {x y : Str} (h : x ≠ y) : [x, y].eraseDups.length = 2 := by
  have h' : (y == x) = false := beq_eq_false_iff_ne.mpr (Ne.symm h)
  simp [List.eraseDups, List.eraseDupsBy, List.eraseDupsBy.loop, h']
theorem dup3 {x y z : Str} (h : x ≠ y) (h2 : x ≠ z) (h3 : y ≠ z) : [x, y, z].eraseDups.length = 3 := by
  have k1 : (y == x) = false := beq_eq_false_iff_ne.mpr (Ne.symm h)
  have k2 : (z == x) = false := beq_eq_false_iff_ne.mpr (Ne.symm h2)
  have k3 : (z == y) = false := beq_eq_false_iff_ne.mpr (Ne.symm h3)
  simp [List.eraseDups, List.eraseDupsBy, List.eraseDupsBy.loop, k1, k2, k3]
theorem sw_some {S : Sc} {env : Env} (hsc : env.scope = S.sc) (hk : env.blockKind = .function) {ts ws : List Expr} {k1 k2 : Nat} {p1 p2 : Pos} (h : parC S ts ws = true) (hl : ts.length = ws.length) (hp : allPlain ws = true) (hd : (ts.map strOf).eraseDups.length = ts.length) :
    swappedStores [.Tuple ts k1 p1] (.Tuple ws k2 p2) env = pure (some (ts.map strOf)) := by
  unfold parC at h
  simp only [Bool.and_eq_true, Bool.not_eq_true'] at h
  obtain ⟨⟨⟨h1, h2⟩, h3⟩, h4⟩ := h
  rw [sw_eq, fm_loc hsc h2]
  rw [nest_some]
  · rw [h1, hk, ← hl]; simp
  · rw [any_star hp]; exact Bool.false_ne_true
  · rw [hd]; simp
  · rw [h3]; exact Bool.false_ne_true
  · rw [h4]; exact Bool.false_ne_true
end HB

set_option Elab.async false
set_option linter.all false
set_option maxRecDepth 100000
set_option maxHeartbeats 2000000
/-! HBSnd14: every statement that is compiled does what exS says. -/
namespace HB
open PySem PySem.Spec PyProof.Rows L2

/-- what a def's body stands on -/
structure CkS (S : Sc) (Φ : Fn) (ct : CT) (k : Nat) (X : Cx) (W : WX) : Prop where
  e : CkE S Φ ct k X W
  kd : X.env.scope.kind = .function
  hp : PassesOwn (model X.prog X.w) X.A X.env X.xe
  st : X.stack = X.env :: X.outer
  fr : X.env.frame = some X.env.locals
section
variable {S : Sc} {Φ : Fn} {ct : CT} {k : Nat} {X : Cx} {W : WX} {io0 : Bool} {w : Nat}
theorem no_sws {t v : Expr} {l : Nat} {env : Env} (h : notComp v = true) : swapsWithSole [t] v l env = pure false := by
  cases v <;> first | rfl | cases h
theorem sub_asg {o i : Expr} {p1 : Pos} {env : Env} {v : Value} (h : notSlice i = true) : assign (.Subscript o i p1) env v = (do
      let ov ← holding [v] (eval o env)
      let iv ← holding [v, ov] (eval i env)
      standAt p1
      holding [v, ov, iv] (setItem ov iv v)
      release [v, ov, iv] []) := by
  cases i <;> first | rfl | cases h
theorem blk_kind {env : Env} (h : env.scope.kind = .function) : env.blockKind = .function := by
  unfold Env.blockKind
  rw [h]
  rfl
theorem evF_ok (C : CkE S Φ ct k X W) : ∀ {es : List Expr} {ia : IA}, allPlain es = true → cA S es = some ia → SF X W ct es (evF Φ ia)
  | [], ia, _, h => by
    simp only [cA] at h
    cases h
    rw [evF]
    exact SF.nil
  | e :: es, ia, hp, h => by
    have hp' : notStar e = true ∧ allPlain es = true := by simpa [allPlain] using hp
    simp only [cA, cSt_plain hp'.1] at h
    cases hx : cE S e with
    | none => simp [hx] at h
    | some x =>
      cases hr : cA S es with
      | none => simp [hx, hr] at h
      | some r =>
        simp only [hx, hr] at h
        cases h
        rw [evF]
        exact SF.cons (sE e S X W x C hx) (evF_ok C hp'.2 hr) hp'.1
theorem names_len : ∀ {ts : List Expr} {is : List Nat}, namesOf S ts = some is → ts.length = is.length
  | [], is, h => by cases h; rfl
  | t :: ts, is, h => by
    cases t <;> simp only [namesOf] at h <;> try cases h
    rename_i x p
    split at h
    · rename_i i is' h1 h2
      cases h
      simp [names_len h2]
    · cases h
theorem names_inv {t : Expr} {ts : List Expr} {is : List Nat} (h : namesOf S (t :: ts) = some is) : ∃ x p i is', t = .Name x p ∧ S.wr x = some i ∧ namesOf S ts = some is' ∧ is = i :: is' := by
  cases t <;> simp only [namesOf] at h <;> try cases h
  rename_i x p
  cases h1 : S.wr x with
  | none => simp [h1] at h
  | some i =>
    cases h2 : namesOf S ts with
    | none => simp [h1, h2] at h
    | some is' =>
      simp only [h1, h2] at h
      cases h
      exact ⟨x, p, i, is', rfl, h1, rfl, rfl⟩
theorem loc_of {line : Nat} {x : Str} {p : Pos} {ts : List Expr} (C : CkE S Φ ct k X W) (h : allLoc S line (.Name x p :: ts) = true) : X.env.scope.names.lookup x = some .local ∧ allLoc S line ts = true := by
  simp only [allLoc, Bool.and_eq_true] at h
  refine ⟨?_, h.2⟩
  have h1 := h.1.1
  unfold isLoc at h1
  rw [C.sc]
  split at h1
  · assumption
  · cases h1
theorem par_ok (C : CkS S Φ ct k X W) {ts ws : List Expr} {is : List Nat} {es : IA} {os : List Bool} {k1 k2 : Nat} {p1 p2 pos : Pos} (hn : namesOf S ts = some is) (he : cA S ws = some es) (hl : ts.length = ws.length) (hp : allPlain ws = true) (hc : parC S ts ws = true ∨ parN S ts ws = true) (hd : is.Nodup) (h2 : 2 ≤ is.length) (hlt : ws.length < 1000) (hcm : S.cm = true) :
    SS X W ct io0 (.Assign [.Tuple ts k1 p1] (.Tuple ws k2 p2) pos) (exS Φ w io0 (.asgN is os es)) := by
  rw [exS]
  have sf := evF_ok C.e hp he
  have ln := names_len hn
  by_cases hN : parN S ts ws = true
  · have z := tgt_ok C.e (e := .Tuple ts k1 p1) (t := is) (by simp only [tgtOf, hn, if_pos (And.intro h2 hcm)])
    have z' : PG X (.Tuple ts k1 p1) (gTup X.K is.length (gAll is)) := by
      match is, h2, z with
      | i :: j :: r, _, z => exact z
    exact SS.asgT (C.e.xn hcm) (C.e.calm hcm) z' sf (by omega) (sw_none C.e.sc hN)
  · have hC : parC S ts ws = true := hc.resolve_right hN
    have hC' := hC
    unfold parC at hC'
    simp only [Bool.and_eq_true, Bool.or_eq_true, beq_iff_eq] at hC'
    obtain ⟨⟨⟨h23, hal⟩, _⟩, _⟩ := hC'
    rcases h23 with h23 | h23
    · rcases ts with _ | ⟨t1, _ | ⟨t2, _ | ⟨t3, r⟩⟩⟩ <;> simp at h23
      rcases ws with _ | ⟨w1, _ | ⟨w2, _ | ⟨w3, r⟩⟩⟩ <;> simp at hl
      obtain ⟨x, px, i, is1, rfl, q1, n1, rfl⟩ := names_inv hn
      obtain ⟨y, py, j, is2, rfl, q2, n2, rfl⟩ := names_inv n1
      cases n2
      have hij : i ≠ j := by intro z; subst z; simp at hd
      have hxy : x ≠ y := by intro z; subst z; rw [q1] at q2; exact hij (Option.some.inj q2)
      obtain ⟨a1, a2, _⟩ := wr_ok C.e q1
      obtain ⟨b1, b2, _⟩ := wr_ok C.e q2
      obtain ⟨l1, hal⟩ := loc_of C.e hal
      obtain ⟨l2, hal⟩ := loc_of C.e hal
      exact SS.par2 (C.e.xn hcm) (C.e.calm hcm) C.e.nd a1 b1 hij l1 l2 sf (sw_some C.e.sc (blk_kind C.kd) hC rfl hp (dup2 hxy))
    · rcases ts with _ | ⟨t1, _ | ⟨t2, _ | ⟨t3, _ | ⟨t4, r⟩⟩⟩⟩ <;> simp at h23
      rcases ws with _ | ⟨w1, _ | ⟨w2, _ | ⟨w3, _ | ⟨w4, r⟩⟩⟩⟩ <;> simp at hl
      obtain ⟨x, px, i, is1, rfl, q1, n1, rfl⟩ := names_inv hn
      obtain ⟨y, py, j, is2, rfl, q2, n2, rfl⟩ := names_inv n1
      obtain ⟨u, pu, l, is3, rfl, q3, n3, rfl⟩ := names_inv n2
      cases n3
      have hij : i ≠ j := by intro z; subst z; simp at hd
      have hil : i ≠ l := by intro z; subst z; simp at hd
      have hjl : j ≠ l := by intro z; subst z; simp at hd
      have hxy : x ≠ y := by intro z; subst z; rw [q1] at q2; exact hij (Option.some.inj q2)
      have hxu : x ≠ u := by intro z; subst z; rw [q1] at q3; exact hil (Option.some.inj q3)
      have hyu : y ≠ u := by intro z; subst z; rw [q2] at q3; exact hjl (Option.some.inj q3)
      obtain ⟨a1, a2, _⟩ := wr_ok C.e q1
      obtain ⟨b1, b2, _⟩ := wr_ok C.e q2
      obtain ⟨c1, c2, _⟩ := wr_ok C.e q3
      obtain ⟨l1, hal⟩ := loc_of C.e hal
      obtain ⟨l2, hal⟩ := loc_of C.e hal
      obtain ⟨l3, hal⟩ := loc_of C.e hal
      exact SS.par3 (C.e.xn hcm) (C.e.calm hcm) C.e.nd a1 b1 c1 hij hil hjl l1 l2 l3 sf (sw_some C.e.sc (blk_kind C.kd) hC rfl hp (dup3 hxy hxu hyu))
/-! assignments -/
theorem asg_ok (C : CkS S Φ ct k X W) {ts : List Expr} {v : Expr} {is : IS} {pos : Pos} (h : cAsg S ts v (cE S v) (cA S (tupOf v)) (subA S ts) (subB S ts) = some is) : SS X W ct io0 (.Assign ts v pos) (exS Φ w io0 is) := by
  rcases ts with _ | ⟨t, _ | ⟨t2, r⟩⟩
  · simp [cAsg] at h
  · cases t with
    | Name x px =>
      simp only [cAsg] at h
      cases hw : S.wr x with
      | none => simp [hw] at h
      | some j =>
      cases hv : cE S v with
      | none => simp [hw, hv] at h
      | some e =>
      simp only [hw, hv] at h
      cases h
      obtain ⟨h1, h2, h3⟩ := wr_ok C.e hw
      rw [exS]
      by_cases hn : notComp v = true
      · exact SS.asg C.e.nd h1 h2 (sE v S X W e C.e hv) (no_sw hn) h3 (fun B hX => wr_nx C.e hw hX)
      · cases v with
        | ListComp elt gs scope p2 =>
          have hs := @sw_lc elt gs scope p2 px x pos.line X.env
          cases hb : (X.env.blockKind == .function && X.env.kindOf x == some .local && px.line == p2.line && !(scope.names.any fun (n, k) => n == x && (k == .local || k == .cell))) with
          | false =>
            rw [hb] at hs
            exact SS.asg C.e.nd h1 h2 (sE _ S X W e C.e hv) hs h3 (fun B hX => wr_nx C.e hw hX)
          | true =>
            rw [hb] at hs
            simp only [Bool.and_eq_true, beq_iff_eq] at hb
            have hv2 := hv
            unfold cE at hv2
            split at hv2
            · rename_i tg iter ifs
              have L := comp_ok C.e hv2 (fun y hy => sE iter S X W y C.e hy) (fun f args kw p as he has => sF args S X W as C.e has)
                (fun X' e y he C' hx => sT e (S.blk scope) X' _ y C' hx) (fun X' y C' hx => sE elt (S.blk scope) X' _ y C' hx)
              exact SS.asgLc (C.e.xn L.1) (C.e.calm L.1) C.e.nd h1 hb.1.1.2 hs L.2
            · cases hv2
        | SetComp => simp [cE] at hv
        | DictComp kx vx gs scope p2 =>
          have hs := @sw_dc kx vx gs scope p2 px x pos.line X.env
          cases hb : (X.env.blockKind == .function && X.env.kindOf x == some .local && px.line == p2.line && !(scope.names.any fun (n, k) => n == x && (k == .local || k == .cell))) with
          | false =>
            rw [hb] at hs
            exact SS.asg C.e.nd h1 h2 (sE _ S X W e C.e hv) hs h3 (fun B hX => wr_nx C.e hw hX)
          | true =>
            rw [hb] at hs
            simp only [Bool.and_eq_true, beq_iff_eq] at hb
            have hv2 := hv
            unfold cE at hv2
            split at hv2
            · rename_i tg iter ifs
              have L := dcomp_ok C.e hv2 (fun y hy => sE iter S X W y C.e hy) (fun f args kw p as he has => sF args S X W as C.e has)
                (fun X' e y he C' hx => sT e (S.blk scope) X' _ y C' hx) (fun X' y C' hx => sE kx (S.blk scope) X' _ y C' hx) (fun X' y C' hx => sE vx (S.blk scope) X' _ y C' hx)
              exact SS.asgDc (C.e.xn L.1) (C.e.calm L.1) C.e.nd h1 hb.1.1.2 hs L.2
            · cases hv2
        | _ => exact absurd rfl hn
    | Tuple ts k1 p1 =>
      simp only [cAsg] at h
      cases hn : namesOf S ts with
      | none => simp [hn] at h
      | some is' =>
      simp only [hn] at h
      rcases ite_or h with ⟨⟨h2, hcm⟩, h⟩ | ⟨_, h⟩
      · have unp : (if notComp v = true then (cE S v).map (IS.unp is') else none) = some is → (∀ ws k2 p2, v ≠ .Tuple ws k2 p2) → SS X W ct io0 (.Assign [.Tuple ts k1 p1] v pos) (exS Φ w io0 is) := fun h hne => by
          rcases ite_or h with ⟨hc, h⟩ | ⟨_, h⟩
          · obtain ⟨e, he, rfl⟩ := Option.map_eq_some_iff.mp h
            rw [exS]
            have z := tgt_ok C.e (e := .Tuple ts k1 p1) (t := is') (by simp only [tgtOf, hn, if_pos (And.intro h2 hcm)])
            refine SS.unp (C.e.xn hcm) z (SE.set (sE v S X W e C.e he)) (no_sws hc) ?_
            cases v <;> first | rfl | exact absurd rfl (hne _ _ _)
          · cases h
        cases v with
        | Tuple ws k2 p2 =>
          simp only [tupOf] at h
          cases ha : cA S ws with
          | none => simp [ha] at h
          | some es =>
          simp only [ha] at h
          rcases ite_or h with ⟨hc, h⟩ | ⟨_, h⟩
          · cases h
            simp only [Bool.and_eq_true, Bool.or_eq_true, beq_iff_eq, decide_eq_true_eq] at hc
            obtain ⟨⟨⟨⟨⟨c1, c2⟩, c3⟩, c4⟩, c5⟩, _⟩ := hc
            exact par_ok C hn ha c1 c2 c3 c4 h2 c5 hcm
          · cases h
        | _ => exact unp h (fun _ _ _ z => by cases z)
      · cases h
    | Subscript o i p1 =>
      simp only [cAsg, subA, subB] at h
      rcases ite_or h with ⟨hc, h⟩ | ⟨_, h⟩
      · simp only [Bool.and_eq_true] at hc
        cases ho : cE S o with
        | none => simp [ho] at h
        | some xo =>
        cases hi : cE S i with
        | none => simp [ho, hi] at h
        | some xi =>
        cases hv : cE S v with
        | none => simp [ho, hi, hv] at h
        | some xv =>
        simp only [ho, hi, hv] at h
        cases h
        rw [exS]
        exact SS.setI (by have := C.e.un; omega) (SE.set (sE o S X W xo C.e ho)) (SE.set (sE i S X W xi C.e hi)) (SE.set (sE v S X W xv C.e hv)) (no_sws hc.2) rfl (fun _ => sub_asg hc.1)
      · cases h
    | _ => simp [cAsg] at h
  · simp [cAsg] at h
mutual
theorem sS : ∀ (st : Stmt) (is : IS) (S : Sc) (ct : CT) (X : Cx) (W : WX), CkS S Φ ct k X W → cS S st = some is → SS X W ct io0 st (exS Φ w io0 is)
  | .Expr e p, is, S, ct, X, W, C, h => by
    simp only [cS] at h
    rcases ite_or h with ⟨hc, h⟩ | ⟨_, h⟩
    · obtain ⟨x, hx, rfl⟩ := Option.map_eq_some_iff.mp h
      rw [exS]
      exact SS.expr (sE e S X W x C.e hx) (no_sw hc)
    · cases h
  | .Assign ts v p, is, S, ct, X, W, C, h => by
    simp only [cS] at h
    exact asg_ok C h
  | .For tg it body orelse p, is, S, ct, X, W, C, h => by
    simp only [cS] at h
    cases orelse with
    | cons o os => simp at h
    | nil =>
    cases ht : tgtOf S tg with
    | none => simp [ht] at h
    | some t =>
    cases hi : cI S it (cE S it) (cArgs S it) with
    | none => simp [ht, hi] at h
    | some ii =>
    simp only [ht, hi] at h
    rcases ite_or h with ⟨hg0, h⟩ | ⟨_, h⟩
    · cases h
      rw [Bool.and_eq_true] at hg0
      obtain ⟨hg, hcm⟩ := hg0
      obtain ⟨si, ns⟩ := iter_ok C.e hi hg (fun x hx => sE it S X W x C.e hx) (fun f args kw p as he has => sF args S X W as C.e has)
      rw [exS]
      exact SS.forr (C.e.xn hcm) C.hp (C.e.calm hcm) si (tgt_ok C.e ht) (SSs.fin (C.e.xn hcm) (sB body S ct X W C) _) (fun x => folded ns)
    · cases h
  | .While c body orelse p, is, S, ct, X, W, C, h => by
    simp only [cS] at h
    cases orelse with
    | cons o os => simp at h
    | nil =>
    cases hc : cE S c with
    | none => simp [hc] at h
    | some x =>
    simp only [hc] at h
    rcases ite_or h with ⟨hcm, h⟩ | ⟨_, h⟩
    · cases h
      rw [exS]
      exact SS.whl C.hp (sT c S X W x C.e hc) (SSs.fin (C.e.xn hcm) (sB body S ct X W C) _) w
    · cases h
  | .If c a b p, is, S, ct, X, W, C, h => by
    simp only [cS] at h
    cases hc : cE S c with
    | none => simp [hc] at h
    | some x =>
    simp only [hc] at h
    cases hbw : S.bw.lookup p.line with
    | some bs =>
      simp only [hbw] at h
      cases h
      rw [exS]
      exact SS.ifB (g := fun t => if t = true then exB Φ w io0 (cB S a) else exB Φ w io0 (cB S b)) (sT c S X W x C.e hc) (sB a S ct X W C) (sB b S ct X W C)
    | none =>
    simp only [hbw] at h
    cases h
    rw [exS]
    exact SS.iff (g := fun t => if t = true then exB Φ w io0 (cB S a) else exB Φ w io0 (cB S b)) (sT c S X W x C.e hc) (sB a S ct X W C) (sB b S ct X W C)
  | .Return e p, is, S, ct, X, W, C, h => by
    cases e with
    | none => simp only [cS] at h; cases h; rw [exS]; exact SS.retN
    | some e =>
      simp only [cS] at h
      obtain ⟨x, hx, rfl⟩ := Option.map_eq_some_iff.mp h
      rw [exS]
      exact SS.ret (sE e S X W x C.e hx)
  | .Pass p, is, S, ct, X, W, C, h => by simp only [cS] at h; cases h; rw [exS]; exact SS.pass
  | .Break p, is, S, ct, X, W, C, h => by simp only [cS] at h; cases h; rw [exS]; exact SS.brk
  | .Continue p, is, S, ct, X, W, C, h => by simp only [cS] at h; cases h; rw [exS]; exact SS.cont
  | .FunctionDef .., is, S, ct, X, W, C, h => by simp [cS] at h
  | .AsyncFunctionDef .., is, S, ct, X, W, C, h => by simp [cS] at h
  | .ClassDef .., is, S, ct, X, W, C, h => by simp [cS] at h
  | .Delete .., is, S, ct, X, W, C, h => by simp [cS] at h
  | .TypeAlias .., is, S, ct, X, W, C, h => by simp [cS] at h
  | .AugAssign .., is, S, ct, X, W, C, h => by simp [cS] at h
  | .AnnAssign .., is, S, ct, X, W, C, h => by simp [cS] at h
  | .AsyncFor .., is, S, ct, X, W, C, h => by simp [cS] at h
  | .With .., is, S, ct, X, W, C, h => by simp [cS] at h
  | .AsyncWith .., is, S, ct, X, W, C, h => by simp [cS] at h
  | .Match .., is, S, ct, X, W, C, h => by simp [cS] at h
  | .Raise e c p, is, S, ct, X, W, C, h => by
    simp only [cS] at h
    rcases ite_or h with ⟨hcm, h⟩ | ⟨_, h⟩
    · split at h
      · rename_i x px q _
        cases hx : S.tb.cls.lookup x with
        | none => simp [hx] at h
        | some d =>
          simp only [hx] at h
          rcases ite_or h with ⟨hg, h⟩ | ⟨_, h⟩
          · cases h
            obtain ⟨gx, hdb⟩ := gl_ok C.e hg
            rw [exS]
            exact SS.raise rfl (C.e.xc x d hx) (C.e.calm hcm) C.e.tk gx hdb
          · cases h
      · cases h
    · cases h
  | .Try body hs orelse fin p, is, S, ct, X, W, C, h => by
    simp only [cS] at h
    cases hxs : cXs S hs with
    | none => simp [hxs] at h
    | some t =>
    obtain ⟨x, n, sb⟩ := t
    cases orelse with
    | cons _ _ => simp [hxs] at h
    | nil =>
    cases fin with
    | cons _ _ => simp [hxs] at h
    | nil =>
    simp only [hxs] at h
    cases hx : S.tb.cls.lookup x with
    | none => simp [hx] at h
    | some d =>
    cases hw : S.wr n with
    | none => simp [hx, hw] at h
    | some i =>
    simp only [hx, hw] at h
    rcases ite_or h with ⟨hg, h⟩ | ⟨_, h⟩
    · cases h
      simp only [Bool.and_eq_true, decide_eq_true_eq] at hg
      obtain ⟨⟨⟨hcm, hg⟩, hl⟩, hsub⟩ := hg
      obtain ⟨gx, hdb⟩ := gl_ok C.e hg
      obtain ⟨w1, w2, w3⟩ := wr_ok C.e hw
      have hln : X.env.scope.names.lookup n = some .local := by
        unfold isLoc at hl
        rw [C.e.sc]
        split at hl
        · assumption
        · cases hl
      have hix : ixOf n S.N = some i := by
        unfold Sc.wr at hw
        rcases ite_or hw with ⟨_, hw⟩ | ⟨_, hw⟩
        · exact hw
        · cases hw
      have E := C.e.xc x d hx
      obtain ⟨np, b0, suite, pos', ehs, ks⟩ := sXs hs S ct x n sb i X hxs (fun a pn => by
        refine ⟨⟨hix.symm, C.e.ck, C.e.xc, C.e.xk, C.e.un, C.e.N, C.e.sc, C.e.fnb, C.e.nd, (fun z => by cases z), C.e.gd, takes_no, C.e.fns, C.e.sm, C.e.bl⟩, C.kd, PassesOwn.never, C.st, C.fr⟩)
      subst ehs
      rw [exS]
      refine SS.try_ (C.e.xn hcm) C.st C.fr C.e.nd w1 hln ⟨gx, hdb, .inl E.mg⟩ C.e.tk (fun c hc => by rw [C.e.ck]; exact hsub hc) (fun c hc => ?_) (fun c hc hnc => ?_) (fun W' pn xe tk' po => sB body S ct (X.tr pn xe) W' ?_) ks
      · have hk : c ∈ ct.ks := by rw [C.e.ck]; exact hsub hc
        rw [((C.e.xk c hk).1 x d hx).2]
        have z : (S.tb.subs d).contains c = true := by simpa using hc
        rw [z]
      · have hk : c ∈ ct.ks := by
          rw [C.e.ck]
          exact (List.mem_filter.mp hc).1
        rw [((C.e.xk c hk).1 x d hx).2]
        have z : (S.tb.subs d).contains c = false := by simpa using hnc
        rw [z]
      · exact ⟨⟨C.e.xi, C.e.ck, C.e.xc, C.e.xk, C.e.un, C.e.N, C.e.sc, C.e.fnb, C.e.nd, C.e.hot, C.e.gd, tk', C.e.fns, C.e.sm, C.e.bl⟩, C.kd, po, C.st, C.fr⟩
    · cases h
  | .TryStar .., is, S, ct, X, W, C, h => by simp [cS] at h
  | .Assert .., is, S, ct, X, W, C, h => by simp [cS] at h
  | .Import .., is, S, ct, X, W, C, h => by simp [cS] at h
  | .ImportFrom .., is, S, ct, X, W, C, h => by simp [cS] at h
  | .Global .., is, S, ct, X, W, C, h => by simp [cS] at h
  | .Nonlocal .., is, S, ct, X, W, C, h => by simp [cS] at h
theorem sX : ∀ (hd : ExceptHandler) (S : Sc) (ct : CT) (x n : Str) (sb : List IS) (i : Nat) (X : Cx), cX S hd = some (x, n, sb) → (∀ (a : Addr) (pn : List (Addr × Obj)), CkS { S with ex := some n } Φ { ct with xi := some i } k (X.suite a pn) (fun _ _ _ _ => False)) →
    ∃ np b0 suite pos', hd = .ExceptHandler (some (.Name x np)) (some n) (b0 :: suite) pos' ∧ ∀ (a : Addr) (pn : List (Addr × Obj)), SSs (X.suite a pn) (fun _ _ _ _ => False) { ct with xi := some i } io0 (b0 :: suite) (exB Φ w io0 sb)
  | .ExceptHandler e m body p, S, ct, x, n, sb, i, X, h, C => by
    simp only [cX] at h
    cases e with
    | none => simp at h
    | some e =>
    cases m with
    | none => cases e <;> simp at h
    | some m =>
    cases e <;> simp only at h <;> try cases h
    rename_i y py
    rcases ite_or h with ⟨_, h⟩ | ⟨hb, h⟩
    · cases h
    · simp only [Option.some.injEq, Prod.mk.injEq] at h
      obtain ⟨rfl, rfl, rfl⟩ := h
      have z := fun a pn => sB body { S with ex := some m } { ct with xi := some i } (X.suite a pn) (fun _ _ _ _ => False) (C a pn)
      cases body with
      | nil => exact absurd rfl hb
      | cons b0 suite => exact ⟨py, b0, suite, p, rfl, z⟩
theorem sXs : ∀ (hs : List ExceptHandler) (S : Sc) (ct : CT) (x n : Str) (sb : List IS) (i : Nat) (X : Cx), cXs S hs = some (x, n, sb) → (∀ (a : Addr) (pn : List (Addr × Obj)), CkS { S with ex := some n } Φ { ct with xi := some i } k (X.suite a pn) (fun _ _ _ _ => False)) →
    ∃ np b0 suite pos', hs = [.ExceptHandler (some (.Name x np)) (some n) (b0 :: suite) pos'] ∧ ∀ (a : Addr) (pn : List (Addr × Obj)), SSs (X.suite a pn) (fun _ _ _ _ => False) { ct with xi := some i } io0 (b0 :: suite) (exB Φ w io0 sb)
  | [], S, ct, x, n, sb, i, X, h, C => by simp [cXs] at h
  | hd :: r, S, ct, x, n, sb, i, X, h, C => by
    simp only [cXs] at h
    rcases ite_or h with ⟨hr, h⟩ | ⟨_, h⟩
    · obtain ⟨np, b0, suite, pos', e, z⟩ := sX hd S ct x n sb i X h C
      cases r with
      | nil => exact ⟨np, b0, suite, pos', by rw [e], z⟩
      | cons _ _ => cases hr
    · cases h
theorem sB : ∀ (sts : List Stmt) (S : Sc) (ct : CT) (X : Cx) (W : WX), CkS S Φ ct k X W → SSs X W ct io0 sts (exB Φ w io0 (cB S sts))
  | [], S, ct, X, W, C => by rw [cB, exB]; exact SSs.nil
  | st :: sts, S, ct, X, W, C => by
    rw [cB, exB]
    cases hs : cS S st with
    | none =>
      simp only
      have z : exS Φ w io0 .stuck = fun _ => none := by rw [exS]
      rw [z]
      exact SSs.cons SS.stuck (sB sts S ct X W C)
    | some x => exact SSs.cons (sS st x S ct X W C hs) (sB sts S ct X W C)
end
end
end HB

set_option Elab.async false
set_option linter.all false
set_option maxRecDepth 100000
set_option maxHeartbeats 2000000
/-! HBSnd15: defs; the program; the law's call. -/
namespace HB
open PySem PySem.Spec PyProof.Rows L2

/-- a def by its body, no thing being shown -/
theorem fok_of {P : Program} {w : World} {K : Fg} {mg : Str → Option Value} {base : Heap} {k : Nat} {x qual : Str} {pa : Arguments} {bd : List Stmt} {sc : Scope} {f : Addr} {fd : FuncData} {N ps : List Str} {sp : Sp} (F : FunD K x qual pa bd sc [] [] f fd) (S : FnScope N ps sc)
    (ln : ∀ vs H Q E, sp vs H Q E → vs.length = ps.length)
    (go : ∀ (cd : Value) (A : Around) (outer : List Env) (s : Shared) (H : Hp) (vs : List V) (Q : VK) (E : XK), Room k (A.deeper (envOfC qual sc s.heap.objs.size f cd)) → A.guards = some [] → sp vs H Q E →
      ∃ t, PSs (cxOf (L2.CX P w) P w K mg base N qual sc f cd A outer s H E) bd t ∧ t { nx := fun _ H' => Q .non H', rt := Q } (L2.start N vs) H) : Fok P w K mg base (k + 1) f fd ps sp := by
  obtain ⟨oc, od, dV, kV, doc, pm, an, cd, ctv, osl, hfd, lk, hcode, _, _⟩ := F.ex
  subst hfd
  constructor
  · exact ln
  · intro A out st H0 as us vs Q E room gds en bnd rel hsp
    have len := ln vs H0 Q E hsp
    have inK : K.In st.heap := en.mod.kin.keeps fun c ob q => (en.bs c ob q).1
    have noL : st.heap.NoLimit := en.mod.nolimit.keeps fun c ob q => (en.bs c ob q).1
    have kinds : ∀ y ∈ ps.zip us, sc.names.lookup y.1 = some .local ∨ (sc.names.lookup y.1 = some .cell ∧ ((cellsFrom (st.heap.objs.size + 1) sc.names []).lookup y.1).isSome = true) := by
      intro y hy
      have hm := (List.of_mem_zip (show (y.1, y.2) ∈ ps.zip us from hy)).1
      cases S.par y.1 hm with
      | inl q => exact Or.inl q
      | inr q => exact Or.inr ⟨q, PySem.W.cellsFrom_some _ _ _ (Or.inl q)⟩
    apply codeAny_call_function room.depth (inK _ _ lk) rfl S.co S.gen rfl (PySem.W.codeRec_of inK hcode)
    apply bnd
    apply wpAny_newFunctionEnv_cells S.kind kinds
    intro ev0 hev st1 got
    subst hev
    refine And.intro (noL.keeps got.toInCall.keep) (codeAny_func ?_)
    obtain ⟨t, hps, ht⟩ := go cd A out st H0 vs Q E (room.deeper _) gds hsp
    have In := inv_start (CX := L2.CX P w) (E := E) S room.hd en len rel got
    have run := hps.run [] st1 (L2.start N vs) H0 _ In ht
    refine wpAny_mono run (fun fl s2 h2 => ?_) (fun _ _ z => z)
    have last : ∀ {σ2 : L2.St} {H2 : Hp} {v2 : V} {u2 : Value}, Inv (cxOf (L2.CX P w) P w K mg base N qual sc f cd A out st H0 E) [] σ2 H2 s2 → RelV v2 u2 → Q v2 H2 → CE out P w H0 st Q u2 s2 := by
      intro σ2 H2 v2 u2 J a b
      exact ⟨v2, H2, J.os, J.bare, J.base, J.hok, a, b⟩
    match fl, h2 with
    | .ret u2, ⟨v2, σ2, H2, J, a, b⟩ => exact last J a b
    | .next, ⟨σ2, H2, J, b⟩ => exact last (v2 := V.non) (u2 := Value.none) J rfl b
    | .brk, ⟨_, _, _, b⟩ => exact b.elim
    | .cont, ⟨_, _, _, b⟩ => exact b.elim

/-! ### the entry -/
theorem im_get {ds : List D} {i : Nat} {s : Sl} (h : (ds.map Sl.im)[i]? = some s) : ∃ d, ds[i]? = some d ∧ s = .im d := by
  rw [List.getElem?_map] at h
  obtain ⟨d, h1, h2⟩ := Option.map_eq_some_iff.mp h
  exact ⟨d, h1, h2.symm⟩
theorem start_get {N : List Str} {vs : List V} {i : Nat} {v : V} (h : vs[i]? = some v) : (L2.start N vs)[i]? = some (some v) := by
  unfold L2.start
  have hl := lt_of_get h
  rw [List.getElem?_append_left (by simpa using hl), List.getElem?_map, h]
  rfl
theorem start_len {N : List Str} {vs : List V} (h : vs.length ≤ N.length) : (L2.start N vs).length = N.length := by
  unfold L2.start
  rw [List.length_append, List.length_map, List.length_replicate]
  omega
def bsOf (d : Df) (Hb Hc : Hp) (ioa : Option Addr) : Bs := ⟨Hb, Hc, fun b => ioa = some b, fun i => (i == 0 && d.io), none⟩
theorem entry {K : Fg} {d : Df} {io : Option OB} {ds : List D} {env : Evn} {Hb Hc : Hp} {ioa : Option Addr} {vs : List V} {N : List Str} (le : Le Hb Hc) (h : startE d io ds = some env) (ha : ArgsOk K Hb Hc io ds ioa vs) (hN : N.length = d.ns) (hl : vs.length = d.ps) : Stt K (bsOf d Hb Hc ioa) env (L2.start N vs) Hb Hc := by
  unfold startE at h
  rcases ite_or h with ⟨⟨h1, h2, h3⟩, h⟩ | ⟨_, h⟩
  · cases h
    have un : ∀ {i : Nat} {s : Sl} {l : List Sl}, (l ++ List.replicate (d.ns - d.ps) Sl.un)[i]? = some s → s ≠ .un → l[i]? = some s := fun {i s l} e n => by
      by_cases hi : i < l.length
      · rwa [List.getElem?_append_left hi] at e
      · rw [List.getElem?_append_right (by omega), List.getElem?_replicate] at e
        split at e
        · cases e; exact (n rfl).elim
        · cases e
    match io, ioa, ha with
    | none, none, rp =>
      have lookup : ∀ {i : Nat} {s : Sl}, (([] ++ ds.map Sl.im) ++ List.replicate (d.ns - d.ps) Sl.un)[i]? = some s → s ≠ .un → ∃ e, ds[i]? = some e ∧ s = .im e := fun {i s} e n => im_get (by simpa using un e n)
      refine ⟨?_, le, fun i e q => ?_, fun i o q => ?_, fun i j o o' a q => ?_, Le.refl _, fun b o e _ => e, fun b o e n => ?_, (fun b z => nomatch z), fun i a c e => nomatch e⟩
      · rw [start_len (by rw [hN]; omega), hN, List.length_append, List.length_replicate]
        simp only [List.nil_append, List.length_map] at h2 ⊢
        omega
      · obtain ⟨e', q1, q2⟩ := lookup q (by simp)
        cases q2
        obtain ⟨v, hv, rv⟩ := rp.get q1
        exact ⟨v, start_get hv, rv⟩
      · obtain ⟨e', q1, q2⟩ := lookup q (by simp)
        cases q2
      · obtain ⟨e', q1, q2⟩ := lookup q (by simp)
        cases q2
      · have n' : Hb b = none := n
        rw [e] at n'; cases n'
    | some o, some a, ⟨vs', e0, k1, k2, rp⟩ =>
      subst e0
      have io1 : d.io = true := by rw [← h1]; rfl
      have lookup : ∀ {i : Nat} {s : Sl}, (([Sl.ow o] ++ ds.map Sl.im) ++ List.replicate (d.ns - d.ps) Sl.un)[i]? = some s → s ≠ .un → (i = 0 ∧ s = .ow o) ∨ ∃ j e, i = j + 1 ∧ ds[j]? = some e ∧ s = .im e := fun {i s} e n => by
        have z := un e n
        cases i with
        | zero => exact .inl ⟨rfl, by simpa using z.symm⟩
        | succ j =>
          obtain ⟨e, q1, q2⟩ := im_get (show (ds.map Sl.im)[j]? = some s by simpa using z)
          exact .inr ⟨j, e, rfl, q1, q2⟩
      refine ⟨?_, le, fun i e q => ?_, fun i o1 q => ?_, fun i j o1 o2 b q q' _ _ => ?_, Le.refl _, fun b o e _ => e, fun b o e n => ?_, fun b z => ?_, (fun i a c e => nomatch e)⟩
      · rw [start_len (by rw [hN]; omega), hN, List.length_append, List.length_replicate]
        simp only [List.length_append, List.length_cons, List.length_nil, List.length_map] at h2 ⊢
        omega
      · rcases lookup q (by simp) with ⟨_, z⟩ | ⟨j, e', rfl, q1, q2⟩
        · cases z
        · cases q2
          obtain ⟨v, hv, rv⟩ := rp.get q1
          exact ⟨v, start_get (by simpa using hv), rv⟩
      · rcases lookup q (by simp) with ⟨rfl, z⟩ | ⟨j, e', rfl, q1, q2⟩
        · cases z
          refine ⟨a, start_get rfl, k1, k2, ?_⟩
          have : (bsOf d Hb Hc (some a)).ios 0 = true := by simp [bsOf, io1]
          rw [if_pos this]
          rfl
        · cases q2
      · rcases lookup q (by simp) with ⟨rfl, z⟩ | ⟨j', e', rfl, q1, q2⟩
        · rcases lookup q' (by simp) with ⟨rfl, z⟩ | ⟨j', e', rfl, q1, q2⟩
          · rfl
          · cases q2
        · cases q2
      · have n' : Hb b = none := n
        rw [e] at n'; cases n'
      · have z' : some a = some b := z
        cases z'
        exact k2.there
  · cases h
/-! ### the program -/
/-- a def as it is written, with what is to be checked of it -/
structure DefI where
  name : Str
  st : Stmt
  N : List Str
  ps : List Str
  own : List Str
  kl : List (List Str × List Nat)
  df : Df
  num : Nat
  ks : List (Nat × List Nat) := []
  bw : List (Nat × List Nat) := []
def DefI.sc (T : Tab) (d : DefI) : Sc := { N := d.N, sc := defScope d.st, own := d.own, fnb := none, tb := T, ks := d.ks, bw := d.bw }
structure DefI.Ok (T : Tab) (d : DefI) : Prop where
  cb : cB (d.sc T) (defBody d.st) = d.df.body
  fs : FnScope d.N d.ps (defScope d.st)
  ns : d.N.length = d.df.ns
  np : d.ps.length = d.df.ps
  bd : ∀ (kV doc pm : Value) (an : Option Addr) (cdv ct : Value) (us : List Value), us.length = d.ps.length → bindArgs (PySem.W.fnOf d.name d.name (defArgs d.st) (defBody d.st) (defScope d.st) .none kV doc pm an cdv ct) ⟨us, []⟩ = pure (d.ps.zip us)
  kb : ∀ q ∈ d.kl, ∀ (kV doc pm : Value) (an : Option Addr) (cdv ct : Value) (us ws : List Value), us.length = d.ps.length → permL q.2 us = some ws → bindArgs (PySem.W.fnOf d.name d.name (defArgs d.st) (defBody d.st) (defScope d.st) .none kV doc pm an cdv ct) ⟨[], q.1.zip us⟩ = pure (d.ps.zip ws)
/-- the table speaks of the defs -/
def tabOf (defs : List DefI) : List (Str × Nat × Bool × List Str × List (List Str × List Nat)) := defs.map fun d => (d.name, d.num, d.df.io, d.ps, d.kl)
def prgOf (defs : List DefI) : Nat → Option Df := fun i => (defs.find? fun d => d.num == i).map (·.df)
theorem prg_at {defs : List DefI} (nd : (defs.map (·.num)).Nodup) {d : DefI} (h : d ∈ defs) : prgOf defs d.num = some d.df := by
  unfold prgOf
  induction defs with
  | nil => cases h
  | cons e r ih =>
    rw [List.map_cons, List.nodup_cons] at nd
    rw [List.find?_cons]
    rcases List.mem_cons.mp h with z | z
    · subst z; simp
    · have : (e.num == d.num) = false := by
        rw [beq_eq_false_iff_ne]
        intro q
        exact nd.1 (List.mem_map.mpr ⟨d, z, q.symm⟩)
      rw [this]
      exact ih nd.2 z
/-- the exception classes of the table stand, and their bases are known -/
structure ClsOk (K : Fg) (mg : Str → Option Value) (at_ : Nat → Addr) (T : Tab) : Prop where
  xc : ∀ x c, T.cls.lookup x = some c → ExAt K mg at_ x c
  xk : ∀ c ∈ T.cls.map (·.2), (∀ y d, T.cls.lookup y = some d → PySem.W.kitOne K (.ref (at_ c)) (.ref (at_ d)) = some ((T.subs d).contains c) ∧ PySem.W.exmOne K (.ref (at_ c)) (.ref (at_ d)) = some ((T.subs d).contains c)) ∧ PySem.W.kitOne K (.ref (at_ c)) (.type "ValueError") = some true ∧ ExcC K (at_ c)
/-- what stands of the program in the written part -/
structure PrgOk (K : Fg) (mg : Str → Option Value) (T : Tab) (defs : List DefI) : Prop where
  nd : (defs.map (·.num)).Nodup
  ok : ∀ d ∈ defs, d.Ok T
  fn : ∀ d ∈ defs, ∃ fa fd, mg d.name = some (.ref fa) ∧ FunD K d.name d.name (defArgs d.st) (defBody d.st) (defScope d.st) [] [] fa fd
  tab : ∀ x f io ps kl, T.fns.lookup x = some (f, io, ps, kl) → ∃ d ∈ defs, d.num = f ∧ d.name = x ∧ d.df.io = io ∧ d.ps = ps ∧ d.kl = kl
  bl : ∀ x, x ∈ T.bls → mg x = none
section
variable {P : Program} {w : World} {K : Fg} {mg : Str → Option Value} {base : Heap} {ct : Nat → Addr} {T : Tab} {defs : List DefI}
theorem SpOf.imp {n : Nat} {φ ψ : Option OB → List D → Option FOut} (h : ∀ o ds, φ o ds = none ∨ φ o ds = ψ o ds) {vs : List V} {Hc : Hp} {Q : VK} {E : XK} (s : SpOf K ct n φ vs Hc Q E) : SpOf K ct n ψ vs Hc Q E := by
  obtain ⟨hl, Hb, io, ds, ioa, le, ha, k⟩ := s
  refine ⟨hl, Hb, io, ds, ioa, le, ha, ?_⟩
  rcases h io ds with e | e
  · rw [e] at k; exact k.elim
  · rw [← e]; exact k
theorem FnAt.imp {k : Nat} {x : Str} {ps : List Str} {kl : List (List Str × List Nat)} {φ ψ : Option OB → List D → Option FOut} (h : ∀ o ds, φ o ds = none ∨ φ o ds = ψ o ds) (F : FnAt P w K mg base ct k x ps kl ψ) : FnAt P w K mg base ct k x ps kl φ := by
  obtain ⟨fa, fd, h1, h2, h3, h4, F⟩ := F
  exact ⟨fa, fd, h1, h2, h3, h4, ⟨fun vs H Q E s => s.1, fun A outer s H args us vs Q E hr hg e0 hb r hs => F.run A outer s H args us vs Q E hr hg e0 hb r (SpOf.imp h hs)⟩⟩
/-- behind the body -/
theorem leave {d : Df} {io : Option OB} {ds : List D} {env env' : Evn} {Hb Hc Hb' H' : Hp} {ioa : Option Addr} {vs : List V} {σ' : L2.St} {io' : Option OB} (ha : ArgsOk K Hb Hc io ds ioa vs) (hs : startE d io ds = some env) (S : Stt K (bsOf d Hb Hc ioa) env' σ' Hb' H') (h : ioE d env' = some io') :
    Aft Hb Hc Hb' H' (fun b => ioa = some b) ∧ IoOk K Hb' H' io' ioa := by
  have hio : io.isSome = d.io := by
    unfold startE at hs
    rcases ite_or hs with ⟨c, _⟩ | ⟨_, z⟩
    · exact c.1
    · cases z
  have key : (∀ b, ioa = some b → Hb' b = none) ∧ IoOk K Hb' H' io' ioa := by
    unfold ioE at h
    match io, ioa, ha with
    | none, none, _ =>
      have hd : d.io = false := by rw [← hio]; rfl
      rw [if_neg (by rw [hd]; exact Bool.false_ne_true)] at h
      cases h
      exact ⟨(fun b z => nomatch z), trivial⟩
    | some o, some a, _ =>
      have hd : d.io = true := by rw [← hio]; rfl
      rw [if_pos hd] at h
      cases env' with
      | nil => cases h
      | cons s r =>
        cases s <;> simp only at h <;> try cases h
        rename_i o1
        obtain ⟨a', h1, h2, h3, h4⟩ := S.ow 0 o1 rfl
        have hi : (bsOf d Hb Hc (some a)).ios 0 = true := by simp [bsOf, hd]
        rw [if_pos hi] at h4
        have e : some a = some a' := h4
        cases e
        exact ⟨fun b z => (by cases z; exact h2), h2, h3⟩
  refine ⟨⟨S.exb, S.sub, S.keep, fun b o e n => ?_⟩, key.2⟩
  rcases S.frs b o e n with z | z
  · exact z
  · have z' : ioa = some b := z
    rw [key.1 b z'] at e; cases e
theorem def_ok {wn n : Nat} {d : DefI} {Φ : Fn} {fa : Addr} {fd : FuncData} (CL : ClsOk K mg ct T) (O : d.Ok T) (bl : ∀ x, x ∈ T.bls → mg x = none) (F : FunD K d.name d.name (defArgs d.st) (defBody d.st) (defScope d.st) [] [] fa fd)
    (sm : ∃ o, base.get? sysModules = some o) (fns : ∀ x f io ps kl, T.fns.lookup x = some (f, io, ps, kl) → FnAt P w K mg base ct n x ps kl (fun o ds => if o.isSome = io then Φ f o ds else none)) :
    Fok P w K mg base (n + 1) fa fd d.ps (SpOf K ct d.ps.length (runD Φ wn d.df)) := by
  refine fok_of F O.fs (fun vs H Q E s => s.1) fun cd A outer s H vs Q E hr hg hsp => ?_
  generalize hX : cxOf (L2.CX P w) P w K mg base d.N d.name (defScope d.st) fa cd A outer s H E = X
  have C : CkS (d.sc T) Φ { at_ := ct, xi := none, ks := T.cls.map (·.2) } n X (fun cls dd _ H' => E cls dd H') := by
    subst hX
    exact ⟨⟨rfl, rfl, CL.xc, CL.xk, (by have z := hr.un; show (A.deeper (envOfC d.name (defScope d.st) s.heap.objs.size fa cd)).units + 200 < cLine; omega), rfl, rfl, fun _ _ => rfl, O.fs.nd, (fun _ => ⟨rfl, hr⟩), hg, L2.takes_of rfl rfl rfl rfl, fns, sm, bl⟩, O.fs.kind, L2.passes_of rfl, rfl, rfl⟩
  have hK : X.K = K := by subst hX; rfl
  obtain ⟨ts, pss, rd⟩ := sB (io0 := d.df.io) (w := wn) (defBody d.st) _ _ _ _ C
  rw [O.cb] at rd
  refine ⟨ts, pss, ?_⟩
  obtain ⟨hl, Hb, io, ds, ioa, le, ha, k⟩ := hsp
  unfold runD at k
  cases hs : startE d.df io ds with
  | none => rw [hs] at k; exact k.elim
  | some env =>
  simp only [hs] at k
  have S0 := entry (N := d.N) le hs ha O.ns (by rw [hl]; exact O.np)
  rw [← hK] at S0 ha
  refine rd (bsOf d.df Hb H ioa) _ Hb H env _ (fun i => rfl) (BX.of_none rfl rfl) S0 ?_
  cases hx : exB Φ wn d.df.io d.df.body env with
  | none => simp only [hx] at k
  | some t =>
  cases t with
  | nx e =>
    simp only [hx] at k
    intro σ' Hb' H' S' _
    cases ho : ioE d.df e with
    | none => simp [ho] at k
    | some io' =>
      simp only [ho, Option.map_some] at k
      obtain ⟨A', I'⟩ := leave ha hs S' ho
      exact k .non Hb' H' A' (hK ▸ I') rfl
  | bk e => simp only [hx] at k
  | ct e => simp only [hx] at k
  | rt r e =>
    simp only [hx] at k
    intro v σ' Hb' H' S' _ nb rv
    cases ho : ioE d.df e with
    | none => simp [ho] at k
    | some io' =>
      simp only [ho, Option.map_some] at k
      obtain ⟨A', I'⟩ := leave ha hs S' ho
      refine k v Hb' H' A' (hK ▸ I') ?_
      rw [← hK]
      cases r with
      | val dd => exact rv
      | bo i => exact nb.elim
      | fr o =>
        obtain ⟨p, e1, e2, e3, e4, e5⟩ := rv
        exact ⟨p, e1, e2, e3, e4⟩
  | ex c e =>
    simp only [hx] at k
    cases hd : d.df.io with
    | true => simp [hd] at k
    | false =>
      rw [hd, if_neg Bool.false_ne_true] at k
      intro σ' Hb' H' S' _
      have ho : ioE d.df e = some none := by unfold ioE; rw [hd]; rfl
      obtain ⟨A', I'⟩ := leave ha hs S' ho
      exact k Hb' H' A'
theorem kw_bind {d : DefI} {fa : Addr} {fd : FuncData} (O : d.Ok T) (F : FunD K d.name d.name (defArgs d.st) (defBody d.st) (defScope d.st) [] [] fa fd) : KwB K fd d.ps d.kl := by
  obtain ⟨oc, od, dV, kV, doc, pm, an, cd, ctv, osl, hfd, lk, hcode, hD, hK⟩ := F.ex
  subst hfd
  rcases hD with ⟨_, rfl⟩ | ⟨e, _⟩
  · exact fun q hq s us ws _ hl hp => .of_eq (O.kb q hq kV doc pm an cd ctv us ws hl hp)
  · exact absurd rfl e
theorem all_fns {wn : Nat} (CL : ClsOk K mg ct T) (O : PrgOk K mg T defs) (sm : ∃ o, base.get? sysModules = some o) : ∀ (n : Nat) (d : DefI), d ∈ defs → FnAt P w K mg base ct n d.name d.ps d.kl (fun o ds => runF (prgOf defs) wn n d.num o ds)
  | 0, d, hm => by
    obtain ⟨fa, fd, h1, F⟩ := O.fn d hm
    refine ⟨fa, fd, h1, F.kp, FunD.bindsN F (O.ok d hm).bd, kw_bind (O.ok d hm) F, ⟨fun vs H Q E s => s.1, fun A outer s H args us vs Q E hr hg e0 hb r hs => ?_⟩⟩
    obtain ⟨_, Hb, io, ds, ioa, _, _, k⟩ := hs
    exact k.elim
  | n + 1, d, hm => by
    obtain ⟨fa, fd, h1, F⟩ := O.fn d hm
    refine ⟨fa, fd, h1, F.kp, FunD.bindsN F (O.ok d hm).bd, kw_bind (O.ok d hm) F, ?_⟩
    have z := def_ok (P := P) (w := w) (base := base) (ct := ct) (wn := wn) (n := n) (Φ := runF (prgOf defs) wn n) CL (O.ok d hm) O.bl F sm (fun x f io ps kl hx => by
      obtain ⟨d', k0, k1, k2, k3, k4, k5⟩ := O.tab x f io ps kl hx
      have ih := all_fns (wn := wn) CL O sm n d' k0
      rw [k1, k2, k4, k5] at ih
      exact FnAt.imp (fun o ds => by
        by_cases hc : o.isSome = io
        · exact .inr (if_pos hc)
        · exact .inl (if_neg hc)) ih)
    have e : (fun o ds => runF (prgOf defs) wn (n + 1) d.num o ds) = runD (runF (prgOf defs) wn n) wn d.df := by
      funext o ds
      show (match prgOf defs d.num with
        | some d => runD (runF (prgOf defs) wn n) wn d o ds
        | none => none) = _
      rw [prg_at O.nd hm]
    rw [e]
    exact z
end
/-! ### the law's call -/
def soleH (a : Addr) (u : Option HO) : Hp := fun b => if b = a then u else none
theorem soleH_ne {a b : Addr} {u : Option HO} (h : soleH a u b ≠ none) : b = a := by
  by_cases e : b = a
  · exact e
  · exact (h (if_neg e)).elim
theorem law_go {P : Program} {w : World} {K : Fg} {mg mb : Str → Option Value} {k : Nat} {fa a : Addr} {fd : FuncData} {x : Str} {sp : Sp} {st : Shared} {us : List Value} {zs : List Int}
    (kin : K.In st.heap) (gns : st.heap.Ns mainGlobals mg) (bns : st.heap.Ns builtinsNs mb) (bbs : ∀ y : Str, y ≠ "__name__" → mb y = bootBuiltins y) (nol : st.heap.NoLimit) (gen : st.gens = #[])
    (obj : st.heap.get? a = some { cls := .type "list", data := .seq us.toArray }) (zint : IntsAre us zs) (few : zs.length ≤ sizeLine) (room : Room k callerA)
    (smod : ∃ o es ep, st.heap.get? sysModules = some o ∧ o.data = .dict es ep) (F : ∀ base : Heap, K.In base → base.Ns mainGlobals mg → (∃ o, base.get? sysModules = some o) → Fok P w K mg base k fa fd [x] sp) (bnd : ∀ (t : Shared) (u : Value), BindsTo t fd ⟨[u], []⟩ [(x, u)])
    (ask : ∀ H : Hp, SqL K H a (zs.map V.int) → sp [.ref a] H (fun v _ => v = .bl true) fun _ _ _ => False) :
    codeAny (model P w) callerA (.call (.ref fa) ⟨[.ref a], []⟩) (fun r t => r = .ok (.ret (.bool true)) ∧ OldK st.heap t.heap ∧ t.os = st.os ∧ AllBare t.gens) st := by
  have vals := vals_ints zint
  have size := zint.length
  generalize hob : ({ cls := .type "list", data := .seq us.toArray } : Obj) = ob at obj
  -- the script is tracked, or it stands in the written part
  obtain ⟨u, hu, hS, hh⟩ : ∃ u : Option HO, ((u = none) ∨ (u = some (.frz ob (.lst (zs.map V.int))) ∧ K.lookup a = none)) ∧ SqL K (soleH a u) a (zs.map V.int) ∧ HOk P w (soleH a u) st.heap := by
    cases hk : K.lookup a with
    | some o =>
      have same := kin a o hk
      rw [obj] at same
      cases same
      refine ⟨none, .inl rfl, .inr ⟨ob, us.toArray, 0, hk, ?_⟩, fun b v z => ?_⟩
      · subst hob
        exact ⟨rfl, rfl, rfl, by rw [List.size_toArray, size]; exact few, by simpa using vals⟩
      · have : soleH a none b = none := by unfold soleH; split <;> rfl
        rw [this] at z
        cases z
    | none =>
      refine ⟨some (.frz ob (.lst (zs.map V.int))), .inr ⟨rfl, rfl⟩, .inl (.inr ⟨ob, if_pos rfl⟩), fun b v z => ?_⟩
      have hb : b = a := soleH_ne (u := some (.frz ob (.lst (zs.map V.int)))) (by rw [z]; exact fun q => nomatch q)
      subst hb
      have z' : some (HO.frz ob (.lst (zs.map V.int))) = some v := (if_pos rfl).symm.trans z
      cases z'
      subst hob
      exact ⟨obj, by rw [List.length_map]; exact few, us, 0, vals, obj⟩
  generalize hH : soleH a u = H at hS hh
  have only : ∀ b, H b ≠ none → b = a := fun b hb => soleH_ne (by rw [hH]; exact hb)
  have under : ∀ {b : Addr} {o : Obj}, st.heap.get? b = some o → b ≠ a → (hidT st.heap H).get? b = some o := fun {b o} e ne => by
    refine hidT_get e ?_
    cases q : H b with
    | none => rfl
    | some v => exact (ne (only b (by rw [q]; exact fun z => nomatch z))).elim
  have nsIn : ∀ {b : Addr} {m : Str → Option Value}, st.heap.Ns b m → (hidT st.heap H).Ns b m := by
    intro b m q
    obtain ⟨o, es, ep, e, dd, r⟩ := q
    refine ⟨o, es, ep, under e fun z => ?_, dd, r⟩
    subst z
    rw [obj] at e
    cases e
    subst hob
    have : Data.seq us.toArray _ = Data.dict es ep := dd
    cases this
  have kb : K.In (hidT st.heap H) := fun b o e => by
    by_cases hb : b = a
    · subst hb
      rcases hu with hu | ⟨hu, hk⟩
      · refine hidT_get (kin b o e) ?_
        rw [← hH, hu]
        unfold soleH
        split <;> rfl
      · rw [hk] at e; cases e
    · exact under (kin b o e) hb
  obtain ⟨mc, lim1, lim2⟩ := nol
  have md : Mod K mg (hidT st.heap H) := ⟨kb, nsIn gns, ⟨mb, nsIn bns, bbs⟩, ⟨mc, nsIn lim1, lim2⟩⟩
  have en : Env0 P w K mg (hidT st.heap H) callerA [] st H := ⟨rfl, md, fun b o e => of_hidT e, Nat.le_of_eq (hidT_size _ _), trivial, (fun b (hb : b ∈ ([] : List Addr)) => nomatch hb), hh, .of_eq gen⟩
  have sm : ∃ o, (hidT st.heap H).get? sysModules = some o := by
    obtain ⟨o, es, ep, e, dd⟩ := smod
    refine ⟨o, under e fun z => ?_⟩
    rw [z, obj] at e
    cases e
    subst hob
    cases dd
  have done := (F _ kb (nsIn gns) sm).run callerA [] st H ⟨[.ref a], []⟩ [.ref a] [.ref a] _ _ room rfl en (bnd st (.ref a)) (.cons rfl .nil) (ask H hS)
  refine codeAny_mono done fun r t h => ?_
  match r, h with
  | .error e, ⟨_, _, _, _, _, _, _, _, _, _, _, _, z⟩ => exact z.elim
  | .ok .next, h => exact h.elim
  | .ok .brk, h => exact h.elim
  | .ok .cont, h => exact h.elim
  | .ok (.ret u'), ⟨v, H', os, bare, un, hok', r', q⟩ =>
    have q' : v = .bl true := q
    subst q'
    have ru : u' = Value.bool true := r'
    subst ru
    refine ⟨rfl, OldK.of_keep fun b o e => ?_, os, bare⟩
    cases q : H b with
    | none => exact un.keep b o e q (fun (z : b ∈ ([] : List Addr)) => nomatch z) (fun z => nomatch z)
    | some v =>
      have hb := only b (by rw [q]; exact fun z => nomatch z)
      subst hb
      rcases hu with hu | ⟨hu, _⟩
      · rw [← hH, hu] at q
        unfold soleH at q
        split at q <;> cases q
      · have z : H b = some (.frz ob (.lst (zs.map V.int))) := by rw [← hH, hu]; exact if_pos rfl
        obtain ⟨e1, _⟩ := hh b _ z
        obtain ⟨e2, _⟩ := hok' b _ (un.frzs b ob _ z)
        rw [e] at e1
        cases e1
        exact e2
theorem walk_fok {l : PySem.W.OpenLaw} {n k : Nat} {q : Program} {loose : List Str} {XP : (Str → Option Value) → Heap → Prop} {YP : World → Heap → Prop} {d : DefRec} {x : Str}
    (most : l.most = some n) (small : n ≤ sizeLine) (plain : d.params.defaults = []) (room : Room k callerA)
    (F : ∀ (w : World) (mg : Str → Option Value) (fa : Addr) (h : Heap), YP w h → h.Ns mainGlobals mg → mg d.name = some (.ref fa) →
      (∃ o es ep, h.get? sysModules = some o ∧ o.data = .dict es ep) ∧ ∃ (K : Fg) (fd : FuncData) (sp : Sp), K.In h ∧ (∀ (s : Shared) (u : Value), BindsTo s fd ⟨[u], []⟩ [(x, u)]) ∧
        (∀ (H : Hp) (a : Addr) (zs : List Int), zs.length ≤ n → SqL K H a (zs.map V.int) → sp [.ref a] H (fun v _ => v = .bl true) fun _ _ _ => False) ∧
        ∀ base : Heap, K.In base → base.Ns mainGlobals mg → (∃ o, base.get? sysModules = some o) → Fok l.prog w K mg base k fa fd [x] sp) :
    PySem.W.WalkO q loose XP YP l.row.toRowW d [] (fun f vs => PySem.call f vs) := by
  apply Att.attach_call most plain
  intro w t0 t1 mg mb fa o pm cd doc a us zs G Y _ _ _ hmg obj zint len gen
  obtain ⟨smod, K, fd, sp, kin, bnd, ask, hF⟩ := F w mg fa _ Y G.T.g hmg
  exact law_go kin G.T.g G.T.b G.T.builtins G.T.nolimit gen obj zint (Nat.le_trans len small) room smod hF bnd fun H hS => ask H a zs len hS
end HB

set_option Elab.async false
set_option linter.all false
set_option maxRecDepth 100000
set_option maxHeartbeats 2000000
/-! HBHead: what the top leaves, and the law's walk, for any list of defs. -/
namespace HB
open PySem PySem.Spec PyProof.Rows L2

def isDct : Option Obj → Bool
  | some o => (match o.data with
    | .dict _ _ => true
    | _ => false)
  | none => false
theorem isDct_is {x : Option Obj} (h : isDct x = true) : ∃ o es ep, x = some o ∧ o.data = .dict es ep := by
  unfold isDct at h
  split at h
  · rename_i o
    split at h
    · rename_i es ep e; exact ⟨o, es, ep, rfl, e⟩
    · cases h
  · cases h
/-- an exception class of the program's own stands as the table says -/
def exOne (K : Fg) (x : Str) : Bool :=
  He.eqO (PySem.W.nsIn K mainGlobals x) (some (some (.ref (He.ga K x)))) && (PySem.W.excIn K (He.ga K x) He.veBase "ValueError.__new__" && (PySem.W.keepIn K (.ref (He.ga K x)) && (decide (PySem.W.subIn K (.ref (He.ga K x)) (.type "BaseException") = some true) && (decide (PySem.W.typeIn K (.ref (He.ga K x)) = some (.type "type")) &&
  (decide (PySem.W.findIn K (.ref (He.ga K x)) "__getattribute__" = some (some (.builtin "BaseException.__getattribute__"))) && (decide (PySem.W.findIn K (.ref (He.ga K x)) "__getattr__" = some none) && (PySem.W.hasDictIn K (He.ga K x) && (decide (PySem.W.findIn K (.ref (He.ga K x)) "__class__" = some (some (.builtin "object.__class__"))) &&
  (decide (PySem.W.specialIn K (.builtin "object.__class__") "__get__" = some (some (.builtin "getset_descriptor.__get__"))) && (decide (PySem.W.takesIn K (.builtin "object.__class__") = some true) && (decide (PySem.W.mroIn K (He.ga K x) (.type "object") = some true) && decide (PySem.W.kitOne K (.ref (He.ga K x)) (.type "ValueError") = some true))))))))))))
def exTwo (K : Fg) (T : Tab) (p q : Str × Nat) : Bool := decide (PySem.W.kitOne K (.ref (He.ga K p.1)) (.ref (He.ga K q.1)) = some ((T.subs q.2).contains p.2)) && decide (PySem.W.exmOne K (.ref (He.ga K p.1)) (.ref (He.ga K q.1)) = some ((T.subs q.2).contains p.2))
def exAll (K : Fg) (T : Tab) : Bool := T.cls.all fun p => exOne K p.1 && T.cls.all fun q => exTwo K T p q
def atC (T : Tab) (K : Fg) (c : Nat) : Addr := match T.cls.find? fun p => p.2 == c with
  | some p => He.ga K p.1
  | none => 0
theorem atC_of {T : Tab} {K : Fg} (nd : (T.cls.map (·.2)).Nodup) {p : Str × Nat} (h : p ∈ T.cls) : atC T K p.2 = He.ga K p.1 := by
  unfold atC
  have e : ∀ {l : List (Str × Nat)}, (l.map (·.2)).Nodup → p ∈ l → l.find? (fun q => q.2 == p.2) = some p := by
    intro l
    induction l with
    | nil => intro _ h; cases h
    | cons a r ih =>
      intro nd h
      rw [List.map_cons, List.nodup_cons] at nd
      rw [List.find?_cons]
      rcases List.mem_cons.mp h with z | z
      · subst z; simp
      · have : (a.2 == p.2) = false := by
          rw [beq_eq_false_iff_ne]
          intro q
          exact nd.1 (List.mem_map.mpr ⟨p, z, q.symm⟩)
        rw [this]
        exact ih nd.2 z
  rw [e nd h]
theorem cls_of {K : Fg} {h : Heap} {mg : Str → Option Value} {T : Tab} (X : K.In h) (G : h.Ns mainGlobals mg) (nd : (T.cls.map (·.2)).Nodup) (e : exAll K T = true) : ClsOk K mg (atC T K) T := by
  have one : ∀ p ∈ T.cls, exOne K p.1 = true ∧ ∀ q ∈ T.cls, exTwo K T p q = true := fun p hp => by
    have z := List.all_eq_true.mp e p hp
    rw [Bool.and_eq_true] at z
    exact ⟨z.1, fun q hq => List.all_eq_true.mp z.2 q hq⟩
  refine ⟨fun x c hx => ?_, fun c hc => ?_⟩
  · have hm := mem_lk hx
    obtain ⟨k, _⟩ := one _ hm
    have ha := atC_of (K := K) nd hm
    simp only at ha
    unfold exOne at k
    simp only [Bool.and_eq_true, decide_eq_true_eq] at k
    obtain ⟨k1, k2, k3, k4, k5, _⟩ := k
    refine ⟨by rw [ha]; exact PySem.W.mg_of X G (He.eqO_ok k1), by rw [ha]; exact k2, by rw [ha]; exact k3, by rw [ha]; exact k4, by rw [ha]; exact k5⟩
  · obtain ⟨p, hp, rfl⟩ := List.mem_map.mp hc
    obtain ⟨k, k2⟩ := one p hp
    have ha := atC_of (K := K) nd hp
    unfold exOne at k
    simp only [Bool.and_eq_true, decide_eq_true_eq] at k
    obtain ⟨_, _, _, q4, _, q6, q7, q8, q9, q10, q11, q12, q13⟩ := k
    refine ⟨fun y d hy => ?_, by rw [ha]; exact q13, by rw [ha]; exact ⟨q6, q7, q4, q8, q9, q10, q11, q12⟩⟩
    have hm := mem_lk hy
    have hb := atC_of (K := K) nd hm
    simp only at hb
    have z := k2 _ hm
    unfold exTwo at z
    simp only [Bool.and_eq_true, decide_eq_true_eq] at z
    rw [ha, hb]
    exact z
def hookS (n : Nat) (fa : List He.Fa) (fn : List He.DefD) (T : Tab) : PySem.W.Hook where
  α := He.AlD × Bool × Bool
  obs := fun s => (He.obsDG n fa fn s.heap.get?, exAll (He.frG s.heap.get? (He.asD s.heap.get? n)) T, isDct (s.heap.get? sysModules))
  val := fun _ => (He.valD fn, true, true)
  says := fun _ h => (∃ K : Fg, K.In h ∧ He.SaysD fa fn K ∧ exAll K T = true) ∧ ∃ o es ep, h.get? sysModules = some o ∧ o.data = .dict es ep
  of := fun w s e => ⟨⟨He.frG s.heap.get? (He.asD s.heap.get? n), He.frG_in, congrArg (fun z : He.AlD × Bool × Bool => z.1) e, congrArg (fun z : He.AlD × Bool × Bool => z.2.1) e⟩, isDct_is (congrArg (fun z : He.AlD × Bool × Bool => z.2.2) e)⟩
  keeps := fun w h h' z k => by
    obtain ⟨⟨K, hK, c, c2⟩, o, es, ep, e, d⟩ := z
    exact ⟨⟨K, PySem.W.Frag.In.keeps hK k, c, c2⟩, o, es, ep, k _ _ e, d⟩
def obsS (n : Nat) (fa : List He.Fa) (fn : List He.DefD) (T : Tab) (s : PySem.W.SharedT) : He.AlD × Bool × Bool := (He.obsDG n fa fn (HandSHeadRun.getT s), exAll (He.frG (HandSHeadRun.getT s) (He.asD (HandSHeadRun.getT s) n)) T, isDct (HandSHeadRun.getT s sysModules))
theorem obsS_eq {n : Nat} {fa : List He.Fa} {fn : List He.DefD} {T : Tab} (s : PySem.W.SharedT) : obsS n fa fn T s = (hookS n fa fn T).obs s.abs := by
  have e : HandSHeadRun.getT s = s.abs.heap.get? := funext (HandSHeadRun.getT_eq s)
  unfold obsS
  rw [e]
  rfl
def DefI.toD (d : DefI) : He.DefD := ⟨(d.name, none), d.name, d.name, defArgs d.st, defBody d.st, defScope d.st, [], []⟩
def faOf (defs : List DefI) (bls : List Str) : List He.Fa := defs.map (fun d => .glo d.name) ++ bls.map .free
def fnOfs (defs : List DefI) : List He.DefD := defs.map DefI.toD
theorem tab_ok {defs : List DefI} {x : Str} {f : Nat} {io : Bool} {ps : List Str} {kl : List (List Str × List Nat)} (h : (tabOf defs).lookup x = some (f, io, ps, kl)) : ∃ d ∈ defs, d.num = f ∧ d.name = x ∧ d.df.io = io ∧ d.ps = ps ∧ d.kl = kl := by
  have m := mem_lk h
  unfold tabOf at m
  obtain ⟨d, h1, e⟩ := List.mem_map.mp m
  cases e
  exact ⟨d, h1, rfl, rfl, rfl, rfl, rfl⟩
theorem prg_of {K : Fg} {h : Heap} {mg : Str → Option Value} {defs : List DefI} {bls : List Str} (X : K.In h) (G : h.Ns mainGlobals mg) (c : He.SaysD (faOf defs bls) (fnOfs defs) K) {cls : List (Str × Nat)} {sub : List (Nat × List Nat)} (oks : ∀ d ∈ defs, d.Ok ⟨tabOf defs, cls, bls, sub⟩) (nd : (defs.map (·.num)).Nodup) : PrgOk K mg ⟨tabOf defs, cls, bls, sub⟩ defs where
  nd := nd
  ok := oks
  fn := fun d hd => by
    obtain ⟨fd, F⟩ := c.defs (d := d.toD) (List.mem_map.mpr ⟨d, hd, rfl⟩)
    exact ⟨_, fd, He.glo_ok X G (c.facts (f := .glo d.name) (List.mem_append_left _ (List.mem_map.mpr ⟨d, hd, rfl⟩))), F⟩
  tab := fun x f io ps kl h => tab_ok h
  bl := fun x hx => He.free_ok X G (c.facts (f := .free x) (List.mem_append_right _ (List.mem_map.mpr ⟨x, hx, rfl⟩)))
/-- the law holds, by what the small language says of it -/
theorem walk_hb {l : PySem.W.OpenLaw} {m : Nat} {q : Program} {loose : List Str} {XP : (Str → Option Value) → Heap → Prop} {d : DefRec} (nh : Nat) (defs : List DefI) (cls : List (Str × Nat)) (bls : List Str) (sub : List (Nat × List Nat)) (wn n : Nat) (dl : DefI)
    (most : l.most = some m) (small : m ≤ sizeLine) (plain : d.params.defaults = []) (room : Room (n + 1) callerA) (oks : ∀ d ∈ defs, d.Ok ⟨tabOf defs, cls, bls, sub⟩) (ndc : (cls.map (·.2)).Nodup) (nd : (defs.map (·.num)).Nodup) (hl : dl ∈ defs) (hps : dl.ps = [("script" : Str)]) (hnm : d.name = dl.name)
    (pure : ∀ zs : List Int, zs.length ≤ m → runF (prgOf defs) wn (n + 1) dl.num none [.frz (zs.map .int)] = some (.ok (.val (.bl true)) none)) :
    PySem.W.WalkO q loose XP (hookS nh (faOf defs bls) (fnOfs defs) ⟨tabOf defs, cls, bls, sub⟩).says l.row.toRowW d [] (fun f vs => PySem.call f vs) := by
  refine walk_fok (x := "script") most small plain room fun w mg fa h Y G hmg => ?_
  obtain ⟨⟨K, kin, c, cx⟩, smod⟩ := Y
  refine ⟨smod, ?_⟩
  have O := prg_of kin G c oks nd
  have CL := cls_of kin G (T := ⟨tabOf defs, cls, bls, sub⟩) ndc cx
  have hm := hl
  obtain ⟨fa', fd, h1, F⟩ := O.fn dl hm
  rw [hnm, h1] at hmg
  cases hmg
  have bd := FunD.bindsA F (O.ok dl hm).bd
  refine ⟨K, fd, SpOf K (atC ⟨tabOf defs, cls, bls, sub⟩ K) dl.ps.length (runD (runF (prgOf defs) wn n) wn dl.df), kin, fun s u => ?_, fun H a zs hz hS => ?_, fun base kb gb sm => ?_⟩
  · have z := bd s [u] (by rw [hps]; rfl)
    rw [hps] at z
    exact z
  · refine ⟨by rw [hps]; rfl, H, none, [.frz (zs.map .int)], none, Le.refl _, ⟨_, _, rfl, ⟨a, _, rfl, hS, rp_ints zs⟩, rfl⟩, ?_⟩
    have e := pure zs hz
    have e2 : runD (runF (prgOf defs) wn n) wn dl.df none [.frz (zs.map .int)] = some (.ok (.val (.bl true)) none) := by
      rw [← e]
      show _ = (match prgOf defs dl.num with
        | some d => runD (runF (prgOf defs) wn n) wn d none [.frz (zs.map .int)]
        | none => none)
      rw [prg_at nd hm]
    rw [e2]
    intro v Hb' H' _ _ r
    exact r
  · have z := def_ok (P := l.prog) (w := w) (base := base) (ct := atC ⟨tabOf defs, cls, bls, sub⟩ K) (wn := wn) (n := n) (Φ := runF (prgOf defs) wn n) CL (O.ok dl hm) O.bl F sm (fun x f io ps kl hx => by
      obtain ⟨d', k0, k1, k2, k3, k4, k5⟩ := O.tab x f io ps kl hx
      have ih := all_fns (P := l.prog) (w := w) (base := base) (ct := atC ⟨tabOf defs, cls, bls, sub⟩ K) (wn := wn) CL O sm n d' k0
      rw [k1, k2, k4, k5] at ih
      exact FnAt.imp (fun o ds => by
        by_cases hc : o.isSome = io
        · exact .inr (if_pos hc)
        · exact .inl (if_neg hc)) ih)
    rw [hps] at z ⊢
    exact z
end HB

set_option Elab.async false
set_option linter.all false
set_option maxRecDepth 100000
set_option maxHeartbeats 2000000
/-! HBPure: reasoning on the small language alone. -/
namespace HB
open PySem PySem.Spec PyProof.Rows L2

def GoX (N C Bk : Evn → Prop) (R : RV → Evn → Prop) : Option Fl → Prop
  | some (.nx e) => N e
  | some (.ct e) => C e
  | some (.bk e) => Bk e
  | some (.rt r e) => R r e
  | _ => False
theorem for_go {t : List Nat} {body : Ms} {N C Bk : Evn → Prop} {R : RV → Evn → Prop} (I : Nat → Evn → Prop) : ∀ (ds : List D) (k : Nat) (env : Evn), I k env →
    (∀ (i : Nat) (d : D) (env : Evn), ds[i]? = some d → I (k + i) env → ∃ env1, bindT t d env = some env1 ∧ GoX (I (k + i + 1)) (I (k + i + 1)) N R (body env1)) → (∀ env, I (k + ds.length) env → N env) → GoX N C Bk R (forGo t body ds env)
  | [], k, env, h, _, q => q env (by simpa using h)
  | d :: ds, k, env, h, s, q => by
    obtain ⟨env1, h1, h2⟩ := s 0 d env rfl h
    unfold forGo
    simp only [h1]
    have go : ∀ e, I (k + 1) e → GoX N C Bk R (forGo t body ds e) := fun e he =>
      for_go I ds (k + 1) e he (fun i d env hd hi => by
        have z := s (i + 1) d env (by simpa using hd) (by rw [show k + (i + 1) = k + 1 + i by omega]; exact hi)
        rw [show k + (i + 1) + 1 = k + 1 + i + 1 by omega] at z
        exact z) fun env hi => q env (by rw [List.length_cons, show k + (ds.length + 1) = k + 1 + ds.length by omega]; exact hi)
    cases hb : body env1 with
    | none => rw [hb] at h2; exact h2.elim
    | some f =>
      rw [hb] at h2
      cases f with
      | nx e => exact go e h2
      | ct e => exact go e h2
      | bk e => exact h2
      | rt r e => exact h2
      | ex c e => exact h2.elim
/-- a loop from its start -/
theorem for_go0 {t : List Nat} {body : Ms} {N C Bk : Evn → Prop} {R : RV → Evn → Prop} (I : Nat → Evn → Prop) {ds : List D} {env : Evn} (h0 : I 0 env)
    (hs : ∀ (i : Nat) (d : D) (env : Evn), ds[i]? = some d → I i env → ∃ env1, bindT t d env = some env1 ∧ GoX (I (i + 1)) (I (i + 1)) N R (body env1)) (hN : ∀ env, I ds.length env → N env) : GoX N C Bk R (forGo t body ds env) :=
  for_go I ds 0 env h0 (fun i d env hd hi => by
    have z := hs i d env hd (by simpa using hi)
    simpa using z) fun env hi => hN env (by simpa using hi)
theorem GoX.imp {N N' C C' Bk Bk' : Evn → Prop} {R R' : RV → Evn → Prop} {x : Option Fl} (h : GoX N C Bk R x) (h1 : ∀ e, N e → N' e) (h2 : ∀ e, C e → C' e) (h3 : ∀ e, Bk e → Bk' e) (h4 : ∀ r e, R r e → R' r e) : GoX N' C' Bk' R' x := by
  cases x with
  | none => exact h
  | some f => cases f with
    | nx e => exact h1 e h
    | ct e => exact h2 e h
    | bk e => exact h3 e h
    | rt r e => exact h4 r e h
    | ex c e => exact h
theorem seq_go {f g : Ms} {env : Evn} {N C Bk : Evn → Prop} {R : RV → Evn → Prop} (h : GoX (fun e => GoX N C Bk R (g e)) C Bk R (f env)) : GoX N C Bk R (f.seq g env) := by
  unfold Ms.seq
  cases hf : f env with
  | none => rw [hf] at h; exact h
  | some t => cases t <;> (rw [hf] at h; exact h)
theorem ex_cons {Φ : Fn} {w : Nat} {io : Bool} {s : IS} {r : List IS} {env : Evn} {N C Bk : Evn → Prop} {R : RV → Evn → Prop} (h : GoX (fun e => GoX N C Bk R (exB Φ w io r e)) C Bk R (exS Φ w io s env)) : GoX N C Bk R (exB Φ w io (s :: r) env) := by
  rw [exB]
  exact seq_go h
theorem ex_nil {Φ : Fn} {w : Nat} {io : Bool} {env : Evn} {N C Bk : Evn → Prop} {R : RV → Evn → Prop} (h : N env) : GoX N C Bk R (exB Φ w io [] env) := by
  rw [exB]
  exact h
/-- an expression ahead -/
theorem fl_go {α : Type} {x : Mo α} {f : α → Ms} {env e : Evn} {a : α} {N C Bk : Evn → Prop} {R : RV → Evn → Prop} (hx : x env = some (.ok a e)) (h : GoX N C Bk R (f a e)) : GoX N C Bk R (x.fl f env) := by
  unfold Mo.fl
  rw [hx]
  exact h
/-! statements -/
section
variable {Φ : Fn} {w : Nat} {io own : Bool} {i : Nat} {e c : IE} {env env1 : Evn} {N C Bk : Evn → Prop} {R : RV → Evn → Prop}
theorem asg_val {d : D} (h : ev Φ e env = some (.ok (.val d) env1)) (hi : (i == 0 && io) = false ∧ i < env1.length) (k : N (env1.set i (.im d))) : GoX N C Bk R (exS Φ w io (.asg i false e) env) := by
  rw [exS]
  refine fl_go (a := .val d) (e := env1) (by unfold Mo.bnd; rw [h]; rfl) ?_
  unfold storeR
  rw [if_neg (by rw [hi.1]; simp [hi.2])]
  exact k
theorem asg_fr {o : OB} (h : ev Φ e env = some (.ok (.fr o) env1)) (hi : (i == 0 && io) = false ∧ i < env1.length) (k : N (env1.set i (.ow o))) : GoX N C Bk R (exS Φ w io (.asg i true e) env) := by
  rw [exS]
  refine fl_go (a := .fr o) (e := env1) (by unfold Mo.bnd; rw [h]; rfl) ?_
  unfold storeR
  rw [if_neg (by rw [hi.1]; simp [hi.2])]
  exact k
/-- a thing just made, taken as data -/
theorem asg_fi {o : OB} (h : ev Φ e env = some (.ok (.fr o) env1)) (hi : (i == 0 && io) = false ∧ i < env1.length) (k : N (env1.set i (.im o.toD))) : GoX N C Bk R (exS Φ w io (.asg i false e) env) := by
  rw [exS]
  refine fl_go (a := .val o.toD) (e := env1) (by unfold Mo.bnd; rw [h]; rfl) ?_
  unfold storeR
  rw [if_neg (by rw [hi.1]; simp [hi.2])]
  exact k
theorem expr_go {r : RV} (h : ev Φ e env = some (.ok r env1)) (k : N env1) : GoX N C Bk R (exS Φ w io (.expr e) env) := by
  rw [exS]
  exact fl_go h k
theorem if_go {b : Bool} {x y : List IS} (h : (ev Φ c).tst env = some (.ok b env1)) (k : GoX N C Bk R (if b = true then exB Φ w io x env1 else exB Φ w io y env1)) : GoX N C Bk R (exS Φ w io (.if_ c x y) env) := by
  rw [exS]
  refine fl_go h ?_
  cases b <;> exact k
theorem fin_nil (x : Ms) : Ms.fin [] x = x := by
  funext env
  unfold Ms.fin
  cases x env with
  | none => rfl
  | some f => cases f <;> rfl
theorem for_st {t : List Nat} {it : II} {body : List IS} {ds : List D} (h : evI Φ it env = some (.ok ds env1)) (k : GoX N C Bk R (forGo t (exB Φ w io body) ds env1)) : GoX N C Bk R (exS Φ w io (.for_ t [] it body) env) := by
  rw [exS, fin_nil]
  exact fl_go h k
theorem ret_val {d : D} (h : ev Φ e env = some (.ok (.val d) env1)) (k : R (.val d) env1) : GoX N C Bk R (exS Φ w io (.ret e) env) := by
  rw [exS]
  exact fl_go h k
theorem ret_fr {o : OB} (h : ev Φ e env = some (.ok (.fr o) env1)) (k : R (.fr o) env1) : GoX N C Bk R (exS Φ w io (.ret e) env) := by
  rw [exS]
  exact fl_go h k
/-- a store of an item -/
theorem set_go {o i' e' : IE} {j : Nat} {kk : Int} {n : Nat} {d : D} {ds : List D} {env2 env3 : Evn} (h1 : (ev Φ e').set env = some (.ok (.val d) env1)) (h2 : (ev Φ o).set env1 = some (.ok (.bo j) env2)) (h3 : (ev Φ i').set env2 = some (.ok (.val (.int kk)) env3)) (h4 : env3[j]? = some (.ow (.lst ds))) (h5 : ixN ds.length kk = some n)
    (k : N (env3.set j (.ow (.lst (ds.set n d))))) : GoX N C Bk R (exS Φ w io (.setI o i' e') env) := by
  rw [exS]
  refine fl_go h1 (fl_go h2 (fl_go h3 (fl_go (a := d) (e := env3) rfl ?_)))
  simp only [setID, setOB, h4, h5, Option.map]
  exact k
/-- .. at a key -/
theorem set_goD {o i' e' : IE} {j : Nat} {kk : Int} {d : D} {ks : List Key} {ds : List D} {env2 env3 : Evn} (h1 : (ev Φ e').set env = some (.ok (.val d) env1)) (h2 : (ev Φ o).set env1 = some (.ok (.bo j) env2)) (h3 : (ev Φ i').set env2 = some (.ok (.val (.int kk)) env3)) (h4 : env3[j]? = some (.ow (.dK ks ds))) (h5 : ks.length < LIM)
    (k : N (env3.set j (.ow (.dK (putKs ks (.inl kk)) (putX ks ds (.inl kk) d))))) : GoX N C Bk R (exS Φ w io (.setI o i' e') env) := by
  rw [exS]
  refine fl_go h1 (fl_go h2 (fl_go h3 (fl_go (a := d) (e := env3) rfl ?_)))
  simp only [setID, setOB, h4, if_pos h5]
  exact k
end
/-- a def's end, by its body -/
theorem run_go {Φ : Fn} {wn : Nat} {d : Df} {io : Option OB} {ds : List D} {env : Evn} {Q : RV → Option OB → Prop} (hs : startE d io ds = some env)
    (h : GoX (fun e => ∃ o, ioE d e = some o ∧ Q (.val .non) o) (fun _ => False) (fun _ => False) (fun r e => ∃ o, ioE d e = some o ∧ Q r o) (exB Φ wn d.io d.body env)) : ∃ r o, runD Φ wn d io ds = some (.ok r o) ∧ Q r o := by
  unfold runD
  simp only [hs]
  cases hx : exB Φ wn d.io d.body env with
  | none => rw [hx] at h; exact h.elim
  | some f =>
    rw [hx] at h
    cases f with
    | nx e => obtain ⟨o, h1, h2⟩ := h; exact ⟨_, o, by simp [h1], h2⟩
    | rt r e => obtain ⟨o, h1, h2⟩ := h; exact ⟨r, o, by simp [h1], h2⟩
    | ct e => exact h.elim
    | bk e => exact h.elim
    | ex c e => exact h.elim
theorem while_go {c : Mo Bool} {body : Ms} {N C Bk : Evn → Prop} {R : RV → Evn → Prop} (I : Nat → Evn → Prop) (hs : ∀ m env, I m env → ∃ b e1, c env = some (.ok b e1) ∧ ((b = false ∧ N e1) ∨ (b = true ∧ 0 < m ∧ GoX (I (m - 1)) (I (m - 1)) N R (body e1)))) : ∀ (n m : Nat) (env : Evn), m < n → I m env → GoX N C Bk R (whileGo c body n env)
  | 0, m, env, h, _ => by omega
  | n + 1, m, env, h, hi => by
    obtain ⟨b, e1, h1, h2⟩ := hs m env hi
    unfold whileGo
    rcases h2 with ⟨rfl, h2⟩ | ⟨rfl, hm, h2⟩
    · simp only [h1]; exact h2
    · simp only [h1]
      have go : ∀ e, I (m - 1) e → GoX N C Bk R (whileGo c body n e) := fun e he => while_go I hs n (m - 1) e (by omega) he
      cases hb : body e1 with
      | none => rw [hb] at h2; exact h2.elim
      | some f =>
        rw [hb] at h2
        cases f with
        | nx e => exact go e h2
        | ct e => exact go e h2
        | bk e => exact h2
        | rt r e => exact h2
        | ex c e => exact h2.elim
/-! comprehensions -/
theorem compGo_is {step : D → Mo (Option D)} (J : Evn → Prop) (f : D → Option D) : ∀ (ds acc : List D) (env : Evn), J env → acc.length + ds.length ≤ LIM → (∀ d ∈ ds, ∀ env, J env → ∃ env', step d env = some (.ok (f d) env') ∧ J env') →
    ∃ env', compGo step ds acc env = some (.ok (acc ++ ds.filterMap f) env') ∧ J env'
  | [], acc, env, h, _, _ => ⟨env, by simp [compGo, Mo.ret], h⟩
  | d :: ds, acc, env, h, hl, hs => by
    obtain ⟨e1, h1, h2⟩ := hs d List.mem_cons_self env h
    simp only [List.length_cons] at hl
    cases hf : f d with
    | none =>
      obtain ⟨e2, h3, h4⟩ := compGo_is J f ds acc e1 h2 (by omega) fun d hd => hs d (List.mem_cons_of_mem _ hd)
      refine ⟨e2, ?_, h4⟩
      unfold compGo Mo.bnd
      rw [h1, hf]
      simp only
      rw [h3, List.filterMap_cons, hf]
    | some y =>
      obtain ⟨e2, h3, h4⟩ := compGo_is J f ds (acc ++ [y]) e1 h2 (by simp; omega) fun d hd => hs d (List.mem_cons_of_mem _ hd)
      refine ⟨e2, ?_, h4⟩
      unfold compGo Mo.bnd
      rw [h1, hf]
      simp only
      rw [if_pos (by omega), h3, List.filterMap_cons, hf]
      simp
theorem comp_is {Φ : Fn} {own t : List Nat} {it : II} {c : IO} {e : IE} {env : Evn} (ds : List D) (f : D → Option D) (hi : evI Φ it env = some (.ok ds env)) (hl : ds.length ≤ LIM) (hb : back env own (unown own env) = env)
    (h : ∀ d ∈ ds, ∃ e1, bindT t d (unown own env) = some e1 ∧ unown own e1 = unown own env ∧ ((f d = none ∧ evC Φ c e1 = some (.ok false e1)) ∨ ∃ y, f d = some y ∧ evC Φ c e1 = some (.ok true e1) ∧ (ev Φ e).set e1 = some (.ok (.val y) e1))) :
    ev Φ (.comp own t it c e) env = some (.ok (.fr (.lst (ds.filterMap f))) env) := by
  have z := compGo_is (step := cStep own t (evC Φ c) (ev Φ e).set) (fun e1 => unown own e1 = unown own env) f ds [] env rfl (by simpa using hl) fun d hd env' he => by
    obtain ⟨e1, h1, h2, h3⟩ := h d hd
    refine ⟨e1, ?_, h2⟩
    unfold cStep
    rw [he]
    simp only [h1]
    rcases h3 with ⟨h3, h4⟩ | ⟨y, h3, h4, h5⟩
    · unfold Mo.bnd
      rw [h4, h3]
      rfl
    · unfold Mo.bnd
      rw [h4, h3]
      simp only [if_true]
      rw [h5]
      rfl
  obtain ⟨e2, h1, h2⟩ := z
  rw [ev]
  unfold Mo.bnd
  rw [hi]
  show (match compGo (cStep own t (evC Φ c) (ev Φ e).set) ds [] env with
    | some (Out.ok ys env') => some (Out.ok (RV.fr (.lst ys)) (back env own (unown own env')))
    | some (.ex _ _) => none
    | none => none) = _
  rw [h1]
  simp only
  rw [h2, hb]
  simp
end HB

set_option Elab.async false
set_option linter.all false
set_option maxRecDepth 100000
set_option maxHeartbeats 2000000
/-! HBLib1: the defs that many laws share: is_integer, the well, the drawing. -/
namespace HB
open PySem PySem.Spec PyProof.Rows L2

theorem atI_nat {α : Type} {l : List α} {i : Nat} : L2.atI l (i : Int) = l[i]? := by
  unfold L2.atI ixN
  by_cases h : i < l.length
  · simp [h]
  · simp [h]
@[simp] theorem atI_0 {α : Type} {a : α} {l : List α} : L2.atI (a :: l) 0 = some a := atI_nat (i := 0)
@[simp] theorem atI_1 {α : Type} {a b : α} {l : List α} : L2.atI (a :: b :: l) 1 = some b := atI_nat (i := 1)
@[simp] theorem atI_2 {α : Type} {a b c : α} {l : List α} : L2.atI (a :: b :: c :: l) 2 = some c := atI_nat (i := 2)
@[simp] theorem ixN_0 {n : Nat} : ixN (n + 1) 0 = some 0 := by unfold ixN; simp
@[simp] theorem ixN_30 : ixN 3 0 = some 0 := rfl
@[simp] theorem ixN_32 : ixN 3 2 = some 2 := rfl

/-! ### is_integer -/
def f_is_integer : Df := ⟨3, 3, false, [.if_ (.or (.not (.isi (.var 0) [.int])) (.isi (.var 0) [.bool])) [.ret (.cst (.bl false))] [], .ret (.and (.or (.cmp .is (.var 1) (.cst .non)) (.cmp .le (.var 1) (.var 0))) (.or (.cmp .is (.var 2) (.cst .non)) (.cmp .le (.var 0) (.var 2))))]⟩
def isI (d : D) (lo hi : Int) : Bool := match d with
  | .int v => decide (lo ≤ v) && decide (v ≤ hi)
  | _ => false
def noFrz : D → Bool
  | .frz _ => false
  | .exc _ => false
  | _ => true
theorem int_ok {Φ : Fn} {wn : Nat} {d : D} {lo hi : Int} (h : noFrz d = true) : runD Φ wn f_is_integer none [d, .int lo, .int hi] = some (.ok (.val (.bl (isI d lo hi))) none) := by
  cases d with
  | frz ds => cases h
  | exc c => cases h
  | int v =>
    by_cases h1 : lo ≤ v <;> simp [ev, evA, evO, evC, evI, evF, exS, exB, Ms.seq, Mo.bnd, Mo.ret, Mo.lift, Mo.opd, RV.opd, Mo.set, RV.set, Mo.tst, Mo.imm, Mo.imms, Mo.nox, opds, OB.toD, atD, cmpD, binD, bltD, prepR, preps, storeR, storesR, nxOf, Mo.fl, isNon, tysD, tyD, intD, intsD, seqD, lstD, methD, isMut, mutD, callD, permL, bindT, slcD, startE, ioE, runD, setID, setOB, get1D, get2D, keyD, keyR, f_is_integer, isI, h1]
  | _ => simp [ev, evA, evO, evC, evI, evF, exS, exB, Ms.seq, Mo.bnd, Mo.ret, Mo.lift, Mo.opd, RV.opd, Mo.set, RV.set, Mo.tst, Mo.imm, Mo.imms, Mo.nox, opds, OB.toD, atD, cmpD, binD, bltD, prepR, preps, storeR, storesR, nxOf, Mo.fl, isNon, tysD, tyD, intD, intsD, seqD, lstD, methD, isMut, mutD, callD, permL, bindT, slcD, startE, ioE, runD, setID, setOB, get1D, get2D, keyD, keyR, f_is_integer, isI]
/-! ### the well -/
/-- a well at most n draws old -/
def Well (n : Nat) (o : OB) : Prop := ∃ a b c : Int, o = .lst [.int a, .int b, .int c] ∧ 0 ≤ b ∧ b < 10 ^ 45 ∧ 0 ≤ c ∧ c ≤ n
theorem Well.mono {n m : Nat} {o : OB} (h : Well n o) (k : n ≤ m) : Well m o := by
  obtain ⟨a, b, c, h1, h2, h3, h4, h5⟩ := h
  exact ⟨a, b, c, h1, h2, h3, h4, by omega⟩
def f_well : Df := ⟨2, 3, false, [.asg 2 false (.ite (.cmp .lt (.var 1) (.blt .len (.cons (.var 0) .nil))) (.idx (.var 0) (.var 1)) (.cst (.int 0))), .ret (.lst (.cons (.blt .max2 (.cons (.cst (.int 0)) (.cons (.bin .sub (.blt .abs (.cons (.var 2) .nil)) (.bin .pow (.cst (.int 10)) (.cst (.int 18)))) .nil))) (.cons (.bin .add (.bin .add (.bin .mul (.bin .mod (.blt .int (.cons (.var 2) .nil)) (.bin .add (.bin .pow (.cst (.int 10)) (.cst (.int 37))) (.cst (.int 141)))) (.cst (.int 101))) (.bin .mul (.cst (.int 67)) (.var 1))) (.cst (.int 41))) (.cons (.cst (.int 0)) .nil))))]⟩
theorem mulOk_r (i : Int) {j : Int} (h : -(2 ^ 64) < j ∧ j < 2 ^ 64) : mulOk i j = true := by
  unfold mulOk
  simp only [Bool.or_eq_true, decide_eq_true_eq]
  exact .inl (.inr h)
theorem mulOk_l {i : Int} (j : Int) (h : -(2 ^ 64) < i ∧ i < 2 ^ 64) : mulOk i j = true := by
  unfold mulOk
  simp only [Bool.or_eq_true, decide_eq_true_eq]
  exact .inl (.inl h)
theorem bits_le {i : Int} {n : Nat} (h : i.natAbs < 2 ^ n) : Builtin.Int.intBits i ≤ n := by
  unfold Builtin.Int.intBits
  split
  · omega
  · rename_i z
    have : i.natAbs.log2 < n := (Nat.log2_lt (by simpa using z)).mpr h
    omega
theorem bits_10 : Builtin.Int.intBits 10 = 4 := by decide +kernel
theorem well_cell {Φ : Fn} {wn : Nat} {ds : List D} {at_ : Nat} (v : Int) (hl : at_ ≤ 1000) (h : (at_ < ds.length ∧ ds[at_]? = some (.int v)) ∨ (¬ at_ < ds.length ∧ v = 0)) : ∃ o, runD Φ wn f_well none [.frz ds, .int (at_ : Int)] = some (.ok (.fr o) none) ∧ Well 0 o := by
  have hm : (0 : Int) < 10 ^ 37 + 141 := by decide
  have m1 := Int.emod_nonneg v (show (10 ^ 37 + 141 : Int) ≠ 0 by decide)
  have m2 := Int.emod_lt_of_pos v hm
  generalize hr : v % (10 ^ 37 + 141 : Int) = r at m1 m2
  have hr' : v % 10000000000000000000000000000000000141 = r := hr
  have k1 : mulOk r 101 = true := mulOk_r _ (by decide)
  have k2 : mulOk 67 (at_ : Int) = true := mulOk_l _ (by decide)
  have fin : ∀ x : Int, Well 0 (.lst [.int x, .int (r * 101 + 67 * (at_ : Int) + 41), .int 0]) := fun x => ⟨x, _, 0, rfl, by omega, by omega, by omega, by simp⟩
  rcases h with ⟨h1, h2⟩ | ⟨h1, rfl⟩
  · have h3 : L2.atI ds (at_ : Int) = some (.int v) := by rw [atI_nat, h2]
    have h4 : ((at_ : Int) < (ds.length : Int)) := by omega
    simp [ev, evA, evO, evC, evI, evF, exS, exB, Ms.seq, Mo.bnd, Mo.ret, Mo.lift, Mo.opd, RV.opd, Mo.set, RV.set, Mo.tst, Mo.imm, Mo.imms, Mo.nox, opds, OB.toD, atD, cmpD, binD, bltD, prepR, preps, storeR, storesR, nxOf, Mo.fl, isNon, tysD, tyD, intD, intsD, seqD, lstD, methD, isMut, mutD, callD, permL, bindT, slcD, startE, ioE, runD, setID, setOB, get1D, get2D, keyD, keyR, f_well, h3, h4, bits_10, k1, k2, LIM, hr', fin]
  · have h4 : ¬ ((at_ : Int) < (ds.length : Int)) := by omega
    simp [ev, evA, evO, evC, evI, evF, exS, exB, Ms.seq, Mo.bnd, Mo.ret, Mo.lift, Mo.opd, RV.opd, Mo.set, RV.set, Mo.tst, Mo.imm, Mo.imms, Mo.nox, opds, OB.toD, atD, cmpD, binD, bltD, prepR, preps, storeR, storesR, nxOf, Mo.fl, isNon, tysD, tyD, intD, intsD, seqD, lstD, methD, isMut, mutD, callD, permL, bindT, slcD, startE, ioE, runD, setID, setOB, get1D, get2D, keyD, keyR, f_well, h4, bits_10, k1, k2, LIM, hr', fin]
theorem well_ok {Φ : Fn} {wn : Nat} (zs : List Int) {at_ : Nat} (hl : at_ ≤ 1000) : ∃ o, runD Φ wn f_well none [.frz (zs.map .int), .int (at_ : Int)] = some (.ok (.fr o) none) ∧ Well 0 o := by
  by_cases h : at_ < zs.length
  · exact well_cell zs[at_] hl (.inl ⟨by simpa using h, by simp [h]⟩)
  · exact well_cell 0 hl (.inr ⟨by simpa using h, rfl⟩)
/-! ### a draw -/
def f_draw : Df := ⟨2, 4, true, [.if_ (.cmp .gt (.idx (.var 0) (.cst (.int 0))) (.cst (.int 0))) [.asg 2 false (.bin .mod (.blt .int (.cons (.idx (.var 0) (.cst (.int 0))) .nil)) (.var 1)), .setI (.var 0) (.cst (.int 0)) (.bin .div (.idx (.var 0) (.cst (.int 0))) (.var 1)), .ret (.var 2)] [], .setI (.var 0) (.cst (.int 2)) (.bin .add (.idx (.var 0) (.cst (.int 2))) (.cst (.int 1))), .asg 3 false (.bin .mod (.bin .pow (.blt .int (.cons (.bin .add (.idx (.var 0) (.cst (.int 1))) (.bin .mul (.cst (.int 715827883)) (.idx (.var 0) (.cst (.int 2))))) .nil)) (.cst (.int 3))) (.bin .add (.bin .pow (.cst (.int 10)) (.cst (.int 41))) (.cst (.int 109)))), .asg 3 false (.bin .mod (.bin .pow (.blt .int (.cons (.bin .add (.var 3) (.bin .mul (.cst (.int 198491317)) (.idx (.var 0) (.cst (.int 2))))) .nil)) (.cst (.int 3))) (.bin .add (.bin .pow (.cst (.int 10)) (.cst (.int 39))) (.cst (.int 3)))), .ret (.bin .mod (.blt .int (.cons (.bin .div (.var 3) (.cst (.int 1048576))) .nil)) (.var 1))]⟩
/-- what a drawing def promises -/
def DrawOk (φ : Option OB → List D → Option FOut) : Prop := ∀ (n : Nat) (o : OB) (m : Int), Well n o → n ≤ 1000000 → 0 < m → m < 2 ^ 1000 → ∃ (d : Int) (o' : OB), φ (some o) [.int m] = some (.ok (.val (.int d)) (some o')) ∧ 0 ≤ d ∧ d < m ∧ Well (n + 1) o'
theorem pow_ok {x : Int} (h0 : 0 ≤ x) (h : x < 10 ^ 50) : (Builtin.Int.intBits x : Int) * 3 ≤ 2 ^ 27 := by
  have : Builtin.Int.intBits x ≤ 200 := bits_le (by
    have : (10 : Int) ^ 50 < 2 ^ 200 := by decide
    omega)
  omega
theorem draw_ok {Φ : Fn} {wn : Nat} : DrawOk (runD Φ wn f_draw) := by
  intro n o m hw hn hm hm2
  obtain ⟨a, b, c, rfl, h1, h2, h3, h4⟩ := hw
  have e1 := Int.emod_nonneg a (show m ≠ 0 by omega)
  have e2 := Int.emod_lt_of_pos a hm
  have hlog : m.natAbs.log2 < 9000 := by
    have : m.natAbs < 2 ^ 9000 := by
      have : (2 : Int) ^ 1000 ≤ 2 ^ 9000 := by decide +kernel
      omega
    by_cases hz : m.natAbs = 0
    · omega
    · exact (Nat.log2_lt hz).mpr this
  by_cases ha : 0 < a
  · refine ⟨a % m, .lst [.int (a / m), .int b, .int c], ?_, e1, e2, ⟨_, _, _, rfl, h1, h2, h3, by omega⟩⟩
    simp [ev, evA, evO, evC, evI, evF, exS, exB, Ms.seq, Mo.bnd, Mo.ret, Mo.lift, Mo.opd, RV.opd, Mo.set, RV.set, Mo.tst, Mo.imm, Mo.imms, Mo.nox, opds, OB.toD, atD, cmpD, binD, bltD, prepR, preps, storeR, storesR, nxOf, Mo.fl, isNon, tysD, tyD, intD, intsD, seqD, lstD, methD, isMut, mutD, callD, permL, bindT, slcD, startE, ioE, runD, setID, setOB, get1D, get2D, keyD, keyR, f_draw, ha, hm, hlog]
  · generalize hc : c + 1 = c' at *
    have c1 : 0 ≤ c' := by omega
    have c2 : c' ≤ 1000001 := by omega
    have k1 : mulOk 715827883 c' = true := mulOk_l _ (by decide)
    have k2 : mulOk 198491317 c' = true := mulOk_l _ (by decide)
    have t1 : (0 : Int) ≤ b + 715827883 * c' := by omega
    have p1 := pow_ok t1 (show b + 715827883 * c' < 10 ^ 50 by omega)
    have q1 : (0 : Int) < 10 ^ 41 + 109 := by decide
    have r1 := Int.emod_nonneg ((b + 715827883 * c') ^ 3) (show (10 ^ 41 + 109 : Int) ≠ 0 by decide)
    have r2 := Int.emod_lt_of_pos ((b + 715827883 * c') ^ 3) q1
    generalize hx : (b + 715827883 * c') ^ 3 % (10 ^ 41 + 109 : Int) = x at r1 r2
    have hx' : (b + 715827883 * c') ^ 3 % 100000000000000000000000000000000000000109 = x := hx
    have t2 : (0 : Int) ≤ x + 198491317 * c' := by omega
    have p2 := pow_ok t2 (show x + 198491317 * c' < 10 ^ 50 by omega)
    have f1 := Int.emod_nonneg (((x + 198491317 * c') ^ 3 % (10 ^ 39 + 3 : Int)) / 1048576) (show m ≠ 0 by omega)
    have f2 := Int.emod_lt_of_pos (((x + 198491317 * c') ^ 3 % (10 ^ 39 + 3 : Int)) / 1048576) hm
    refine ⟨_, .lst [.int a, .int b, .int c'], ?_, f1, f2, ⟨_, _, _, rfl, h1, h2, c1, by omega⟩⟩
    have p1' : (Builtin.Int.intBits (b + 715827883 * c') : Int) * 3 ≤ 134217728 := p1
    have p2' : (Builtin.Int.intBits (x + 198491317 * c') : Int) * 3 ≤ 134217728 := p2
    have lg : Nat.log2 1048576 < 9000 := by decide +kernel
    simp [ev, evA, evO, evC, evI, evF, exS, exB, Ms.seq, Mo.bnd, Mo.ret, Mo.lift, Mo.opd, RV.opd, Mo.set, RV.set, Mo.tst, Mo.imm, Mo.imms, Mo.nox, opds, OB.toD, atD, cmpD, binD, bltD, prepR, preps, storeR, storesR, nxOf, Mo.fl, isNon, tysD, tyD, intD, intsD, seqD, lstD, methD, isMut, mutD, callD, permL, bindT, slcD, startE, ioE, runD, setID, setOB, get1D, get2D, keyD, keyR, f_draw, ha, hm, hlog, hc, k1, k2, p1', p2', bits_10, hx', lg]
end HB

set_option Elab.async false
set_option linter.all false
set_option maxRecDepth 100000
set_option maxHeartbeats 4000000
/-! HBLib2: forests: is_rooted, is_forest, and the other way of judging one. -/
namespace HB
open PySem PySem.Spec PyProof.Rows L2

/-! ### parents -/
def parD : D → Option Nat
  | .int i => some i.toNat
  | _ => none
def par (ds : List D) (x : Nat) : Option Nat := (ds[x]?).bind parD
def upE (ds : List D) : Nat → Option Nat → Option Nat
  | 0, y => y
  | k + 1, y => (upE ds k y).bind (par ds)
def hereD : Option Nat → D
  | none => .non
  | some i => .int (i : Int)
/-- each item is nothing, or a place -/
def okE (n : Nat) (d : D) : Bool := isNon d || isI d 0 ((n : Int) - 1)
def Fine (ds : List D) : Prop := ∀ d ∈ ds, d = .non ∨ ∃ i : Nat, d = .int (i : Int) ∧ i < ds.length
theorem okE_is {n : Nat} {d : D} (h : okE n d = true) : d = .non ∨ ∃ i : Nat, d = .int (i : Int) ∧ i < n := by
  unfold okE at h
  cases d <;> simp [isNon, isI] at h
  · exact .inl rfl
  · rename_i v
    refine .inr ⟨v.toNat, ?_, by omega⟩
    rw [Int.toNat_of_nonneg h.1]
theorem fine_of {ds : List D} (h : ds.all (okE ds.length) = true) : Fine ds := fun d hd => okE_is (List.all_eq_true.mp h d hd)
theorem fine_all {ds : List D} (h : Fine ds) : ds.all (okE ds.length) = true := by
  rw [List.all_eq_true]
  intro d hd
  rcases h d hd with e | ⟨i, e, hi⟩ <;> subst e
  · rfl
  · simp [okE, isNon, isI]; omega
theorem get_par {ds : List D} (h : Fine ds) {x : Nat} (hx : x < ds.length) : ds[x]? = some (hereD (par ds x)) := by
  have e : ds[x]? = some ds[x] := List.getElem?_eq_getElem hx
  unfold par
  rw [e]
  rcases h ds[x] (List.getElem_mem hx) with z | ⟨i, z, _⟩ <;> rw [z]
  · rfl
  · simp [parD, hereD]
theorem par_lt {ds : List D} (h : Fine ds) {x y : Nat} (e : par ds x = some y) : y < ds.length := by
  unfold par at e
  cases hx : ds[x]? with
  | none => rw [hx] at e; cases e
  | some d =>
    rw [hx] at e
    rcases h d (List.mem_of_getElem? hx) with z | ⟨i, z, hi⟩ <;> subst z
    · cases e
    · simp [parD] at e; omega
theorem upE_none (ds : List D) : ∀ k, upE ds k none = none
  | 0 => rfl
  | k + 1 => by unfold upE; rw [upE_none ds k]; rfl
theorem upE_add (ds : List D) (y : Option Nat) (i : Nat) : ∀ j, upE ds (i + j) y = upE ds j (upE ds i y)
  | 0 => rfl
  | j + 1 => by
    show (upE ds (i + j) y).bind (par ds) = (upE ds j (upE ds i y)).bind (par ds)
    rw [upE_add ds y i j]
theorem upE_succ (ds : List D) (x k : Nat) : upE ds (k + 1) (some x) = upE ds k (par ds x) := by
  rw [Nat.add_comm, upE_add]
  rfl
theorem upE_lt {ds : List D} (h : Fine ds) {x : Nat} (hx : x < ds.length) : ∀ {k y : Nat}, upE ds k (some x) = some y → y < ds.length
  | 0, y, e => by cases e; exact hx
  | k + 1, y, e => by
    unfold upE at e
    obtain ⟨z, h1, h2⟩ := Option.bind_eq_some_iff.mp e
    exact par_lt h h2
/-! no cycle -/
theorem php : ∀ (n : Nat) (f : Nat → Nat), (∀ i, i ≤ n → f i < n) → ∃ i j, i < j ∧ j ≤ n ∧ f i = f j
  | 0, f, h => by have := h 0 (Nat.le_refl _); omega
  | n + 1, f, h => by
    by_cases c : ∃ i, i ≤ n ∧ f i = f (n + 1)
    · obtain ⟨i, hi, e⟩ := c
      exact ⟨i, n + 1, by omega, Nat.le_refl _, e⟩
    · have hv := h (n + 1) (Nat.le_refl _)
      have ne : ∀ i, i ≤ n → f i ≠ f (n + 1) := fun i hi e => c ⟨i, hi, e⟩
      obtain ⟨i, j, h1, h2, e⟩ := php n (fun i => if f i > f (n + 1) then f i - 1 else f i) fun i hi => by
        have := h i (by omega)
        have := ne i hi
        split <;> omega
      refine ⟨i, j, h1, by omega, ?_⟩
      have n1 := ne i (by omega)
      have n2 := ne j h2
      split at e <;> split at e <;> omega
theorem long_path {ds : List D} (h : Fine ds) {x : Nat} (hx : x < ds.length) {v : Nat} (hv : upE ds ds.length (some x) = some v) : ∀ m, upE ds m (some x) ≠ none := by
  have some_below : ∀ m, m ≤ ds.length → ∃ y, upE ds m (some x) = some y := fun m hm => by
    cases e : upE ds m (some x) with
    | some y => exact ⟨y, rfl⟩
    | none =>
      have := upE_add ds (some x) m (ds.length - m)
      rw [show m + (ds.length - m) = ds.length by omega, e, upE_none, hv] at this
      cases this
  obtain ⟨i, j, hij, hj, e⟩ := php ds.length (fun m => (upE ds m (some x)).getD 0) fun m hm => by
    obtain ⟨y, hy⟩ := some_below m hm
    simp only [hy, Option.getD_some]
    exact upE_lt h hx hy
  have eq : upE ds i (some x) = upE ds j (some x) := by
    obtain ⟨a, ha⟩ := some_below i (by omega)
    obtain ⟨b, hb⟩ := some_below j hj
    simp only [ha, hb, Option.getD_some] at e
    rw [ha, hb, e]
  have all : ∀ n m, m ≤ n → upE ds m (some x) ≠ none := by
    intro n
    induction n with
    | zero => intro m hm; rw [show m = 0 by omega]; simp [upE]
    | succ n ih =>
      intro m hm
      by_cases hmj : m ≤ j
      · obtain ⟨y, hy⟩ := some_below m (by omega)
        rw [hy]; simp
      · have z := upE_add ds (some x) j (m - j)
        rw [show j + (m - j) = m by omega, ← eq, ← upE_add] at z
        rw [z]
        exact ih _ (by omega)
  exact fun m => all m m (Nat.le_refl _)
def rooted (ds : List D) : Bool := (List.range ds.length).all fun x => (upE ds ds.length (par ds x)).isNone
def rooted2 (ds : List D) : Bool := (List.range ds.length).all fun x => (upE ds ds.length (some x)).isNone
theorem rooted_same {ds : List D} (h : Fine ds) : rooted ds = rooted2 ds := by
  rw [Bool.eq_iff_iff]
  unfold rooted rooted2
  simp only [List.all_eq_true, List.mem_range, Option.isNone_iff_eq_none]
  constructor
  · intro k x hx
    cases e : upE ds ds.length (some x) with
    | none => rfl
    | some v =>
      have := long_path h hx e (ds.length + 1)
      rw [upE_succ] at this
      exact (this (k x hx)).elim
  · intro k x hx
    rw [← upE_succ]
    unfold upE
    rw [k x hx]
    rfl
def isForest : D → Bool
  | .tup ds => !ds.isEmpty && (ds.all (okE ds.length) && rooted ds)
  | _ => false
/-- a rank makes a forest -/
theorem rank_forest {ds : List D} (h : Fine ds) (ne : ds ≠ []) (r : Nat → Nat) (h1 : ∀ x, x < ds.length → r x < ds.length) (h2 : ∀ x y, x < ds.length → par ds x = some y → r y < r x) : isForest (.tup ds) = true := by
  have go : ∀ x k y, x < ds.length → upE ds k (some x) = some y → r y + k ≤ r x := by
    intro x k
    induction k with
    | zero => intro y hx e; cases e; omega
    | succ k ih =>
      intro y hx e
      unfold upE at e
      obtain ⟨z, e1, e2⟩ := Option.bind_eq_some_iff.mp e
      have := ih z hx e1
      have := h2 z y (upE_lt h hx e1) e2
      omega
  have e1 : ds.isEmpty = false := by cases ds <;> simp_all
  show (!ds.isEmpty && (ds.all (okE ds.length) && rooted ds)) = true
  rw [e1, fine_all h, rooted_same h]
  simp only [Bool.not_false, Bool.true_and]
  unfold rooted2
  simp only [List.all_eq_true, List.mem_range, Option.isNone_iff_eq_none]
  intro x hx
  cases e : upE ds ds.length (some x) with
  | none => rfl
  | some v =>
    have := go x _ v hx e
    have := h1 x hx
    omega
/-! ### is_rooted -/
def rt_step : List IS := [.if_ (.cmp .isn (.var 2) (.cst .non)) [.asg 2 false (.idx (.var 0) (.var 2))] []]
def rt_turn : List IS := [.asg 2 false (.idx (.var 0) (.var 1)), .for_ [3] [] (.rng1 (.blt .len (.cons (.var 0) .nil))) rt_step, .if_ (.cmp .isn (.var 2) (.cst .non)) [.ret (.cst (.bl false))] []]
def f_is_rooted : Df := ⟨1, 4, false, [.for_ [1] [] (.rng1 (.blt .len (.cons (.var 0) .nil))) rt_turn, .ret (.cst (.bl true))]⟩
theorem rng_get {n i : Nat} {d : D} (h : ((List.range n).map fun (k : Nat) => D.int (0 + (k : Int)))[i]? = some d) : i < n ∧ d = .int (i : Int) := by
  rw [List.getElem?_map] at h
  obtain ⟨k, h1, h2⟩ := Option.map_eq_some_iff.mp h
  have hi : i < n := by have := lt_of_get h1; simpa using this
  rw [List.getElem?_range hi] at h1
  cases h1
  exact ⟨hi, by rw [← h2]; simp⟩
theorem rooted_ok {Φ : Fn} {wn : Nat} {ds : List D} (h : Fine ds) (hl : ds.length ≤ 100000) : runD Φ wn f_is_rooted none [.tup ds] = some (.ok (.val (.bl (rooted ds))) none) := by
  have hr : -100000 ≤ (ds.length : Int) ∧ (ds.length : Int) ≤ 100000 := by omega
  obtain ⟨r, o, e, h1, h2⟩ := run_go (Φ := Φ) (wn := wn) (d := f_is_rooted) (io := none) (ds := [.tup ds]) (env := [.im (.tup ds), .un, .un, .un]) (Q := fun r o => r = .val (.bl (rooted ds)) ∧ o = none) rfl (by
    refine ex_cons (for_st (ds := (List.range ds.length).map fun (k : Nat) => D.int (0 + (k : Int))) (env1 := [.im (.tup ds), .un, .un, .un]) (by simp [ev, evA, evO, evC, evI, evF, exS, exB, Ms.seq, Mo.bnd, Mo.ret, Mo.lift, Mo.opd, RV.opd, Mo.set, RV.set, Mo.tst, Mo.imm, Mo.imms, Mo.nox, opds, OB.toD, atD, cmpD, binD, bltD, prepR, preps, storeR, storesR, nxOf, Mo.fl, isNon, tysD, tyD, intD, intsD, seqD, lstD, methD, isMut, mutD, callD, permL, bindT, slcD, startE, ioE, runD, setID, setOB, get1D, get2D, keyD, keyR, hr]) ?_)
    refine for_go0 (fun i env => ∃ s1 s2 s3, env = [.im (.tup ds), s1, s2, s3] ∧ ∀ x, x < i → upE ds ds.length (par ds x) = none) ⟨_, _, _, rfl, fun x hx => by omega⟩ ?_ ?_
    · rintro i d env hd ⟨s1, s2, s3, rfl, hi⟩
      obtain ⟨hlt, rfl⟩ := rng_get hd
      refine ⟨[.im (.tup ds), .im (.int (i : Int)), s2, s3], by simp [bindT], ?_⟩
      refine ex_cons ?_
      have g := get_par h hlt
      have g' : L2.atI ds (i : Int) = some (hereD (par ds i)) := by rw [atI_nat, g]
      refine asg_val (d := hereD (par ds i)) (env1 := [.im (.tup ds), .im (.int (i : Int)), s2, s3]) (by simp [ev, evA, evO, evC, evI, evF, exS, exB, Ms.seq, Mo.bnd, Mo.ret, Mo.lift, Mo.opd, RV.opd, Mo.set, RV.set, Mo.tst, Mo.imm, Mo.imms, Mo.nox, opds, OB.toD, atD, cmpD, binD, bltD, prepR, preps, storeR, storesR, nxOf, Mo.fl, isNon, tysD, tyD, intD, intsD, seqD, lstD, methD, isMut, mutD, callD, permL, bindT, slcD, startE, ioE, runD, setID, setOB, get1D, get2D, keyD, keyR, g']) ⟨rfl, by simp⟩ ?_
      refine ex_cons (for_st (ds := (List.range ds.length).map fun (k : Nat) => D.int (0 + (k : Int))) (env1 := [.im (.tup ds), .im (.int (i : Int)), .im (hereD (par ds i)), s3]) (by simp [ev, evA, evO, evC, evI, evF, exS, exB, Ms.seq, Mo.bnd, Mo.ret, Mo.lift, Mo.opd, RV.opd, Mo.set, RV.set, Mo.tst, Mo.imm, Mo.imms, Mo.nox, opds, OB.toD, atD, cmpD, binD, bltD, prepR, preps, storeR, storesR, nxOf, Mo.fl, isNon, tysD, tyD, intD, intsD, seqD, lstD, methD, isMut, mutD, callD, permL, bindT, slcD, startE, ioE, runD, setID, setOB, get1D, get2D, keyD, keyR, hr]) ?_)
      refine for_go0 (fun j env => ∃ s3, env = [.im (.tup ds), .im (.int (i : Int)), .im (hereD (upE ds j (par ds i))), s3]) ⟨_, rfl⟩ ?_ ?_
      · rintro j d env hd ⟨s3, rfl⟩
        obtain ⟨hj, rfl⟩ := rng_get hd
        refine ⟨[.im (.tup ds), .im (.int (i : Int)), .im (hereD (upE ds j (par ds i))), .im (.int (j : Int))], by simp [bindT], ?_⟩
        cases e : upE ds j (par ds i) with
        | none => simp [ev, evA, evO, evC, evI, evF, exS, exB, Ms.seq, Mo.bnd, Mo.ret, Mo.lift, Mo.opd, RV.opd, Mo.set, RV.set, Mo.tst, Mo.imm, Mo.imms, Mo.nox, opds, OB.toD, atD, cmpD, binD, bltD, prepR, preps, storeR, storesR, nxOf, Mo.fl, isNon, tysD, tyD, intD, intsD, seqD, lstD, methD, isMut, mutD, callD, permL, bindT, slcD, startE, ioE, runD, setID, setOB, get1D, get2D, keyD, keyR, rt_step, hereD, GoX, upE, e]
        | some y =>
          have hy : y < ds.length := by rw [← upE_succ] at e; exact upE_lt h hlt e
          have gy : L2.atI ds (y : Int) = some (hereD (par ds y)) := by rw [atI_nat, get_par h hy]
          simp [ev, evA, evO, evC, evI, evF, exS, exB, Ms.seq, Mo.bnd, Mo.ret, Mo.lift, Mo.opd, RV.opd, Mo.set, RV.set, Mo.tst, Mo.imm, Mo.imms, Mo.nox, opds, OB.toD, atD, cmpD, binD, bltD, prepR, preps, storeR, storesR, nxOf, Mo.fl, isNon, tysD, tyD, intD, intsD, seqD, lstD, methD, isMut, mutD, callD, permL, bindT, slcD, startE, ioE, runD, setID, setOB, get1D, get2D, keyD, keyR, rt_step, hereD, GoX, upE, e, gy]
      · rintro env ⟨s3, rfl⟩
        simp only [List.length_map, List.length_range]
        refine ex_cons ?_
        cases e : upE ds ds.length (par ds i) with
        | none =>
          simp only [hereD]
          simp [ev, evA, evO, evC, evI, evF, exS, exB, Ms.seq, Mo.bnd, Mo.ret, Mo.lift, Mo.opd, RV.opd, Mo.set, RV.set, Mo.tst, Mo.imm, Mo.imms, Mo.nox, opds, OB.toD, atD, cmpD, binD, bltD, prepR, preps, storeR, storesR, nxOf, Mo.fl, isNon, tysD, tyD, intD, intsD, seqD, lstD, methD, isMut, mutD, callD, permL, bindT, slcD, startE, ioE, runD, setID, setOB, get1D, get2D, keyD, keyR, GoX]
          intro x hx
          by_cases hxi : x < i
          · exact hi x hxi
          · rw [show x = i by omega]; exact e
        | some y =>
          simp only [hereD]
          have : rooted ds = false := by
            unfold rooted
            rw [List.all_eq_false]
            exact ⟨i, List.mem_range.mpr hlt, by rw [e]; simp⟩
          simp [ev, evA, evO, evC, evI, evF, exS, exB, Ms.seq, Mo.bnd, Mo.ret, Mo.lift, Mo.opd, RV.opd, Mo.set, RV.set, Mo.tst, Mo.imm, Mo.imms, Mo.nox, opds, OB.toD, atD, cmpD, binD, bltD, prepR, preps, storeR, storesR, nxOf, Mo.fl, isNon, tysD, tyD, intD, intsD, seqD, lstD, methD, isMut, mutD, callD, permL, bindT, slcD, startE, ioE, runD, setID, setOB, get1D, get2D, keyD, keyR, GoX, this, f_is_rooted]
    · rintro env ⟨s1, s2, s3, rfl, hi⟩
      have : rooted ds = true := by
        unfold rooted
        rw [List.all_eq_true]
        intro x hx
        rw [hi x (by simpa using hx)]
        rfl
      simp [ev, evA, evO, evC, evI, evF, exS, exB, Ms.seq, Mo.bnd, Mo.ret, Mo.lift, Mo.opd, RV.opd, Mo.set, RV.set, Mo.tst, Mo.imm, Mo.imms, Mo.nox, opds, OB.toD, atD, cmpD, binD, bltD, prepR, preps, storeR, storesR, nxOf, Mo.fl, isNon, tysD, tyD, intD, intsD, seqD, lstD, methD, isMut, mutD, callD, permL, bindT, slcD, startE, ioE, runD, setID, setOB, get1D, get2D, keyD, keyR, GoX, this, f_is_rooted])
  rw [e, h1, h2]
end HB

set_option Elab.async false
set_option linter.all false
set_option maxRecDepth 100000
set_option maxHeartbeats 4000000
/-! HBLib3: is_forest; the other way of judging a forest. -/
namespace HB
open PySem PySem.Spec PyProof.Rows L2

def noFrzs : List D → Bool
  | [] => true
  | d :: ds => noFrz d && noFrzs ds
/-- data that a judging def may be given -/
def Ask (d : D) : Prop := noFrz d = true ∧ ∀ ds, d = .tup ds → ds.length ≤ 1000 ∧ ∀ e ∈ ds, noFrz e = true
theorem eq_nil (ds : List D) : eqD (.tup ds) (.tup []) = some ds.isEmpty := by simp [eqD]
theorem bls_map {α : Type} (g : α → Bool) : ∀ l : List α, blsD (l.map fun x => D.bl (g x)) = some (l.map g)
  | [] => rfl
  | x :: l => by simp [blsD, bls_map g l]
theorem fm_map {α β : Type} (g : α → β) : ∀ l : List α, (l.filterMap fun x => some (g x)) = l.map g
  | [] => rfl
  | x :: l => by simp [fm_map g l]
theorem all_map {α : Type} (g : α → Bool) (l : List α) : (l.map g).all id = l.all g := by
  induction l with
  | nil => rfl
  | cons x l ih => simp [ih]
def cp_isf (ii : Nat) : IE := .comp [1] [1] (.seq (.var 0)) .no (.or (.cmp .is (.var 1) (.cst .non)) (.call ii false (.cons (.var 1) (.cons (.cst (.int 0)) (.cons (.bin .sub (.blt .len (.cons (.var 0) .nil)) (.cst (.int 1))) .nil)))))
def f_is_forest (ii ir : Nat) : Df := ⟨1, 2, false, [.if_ (.or (.not (.isi (.var 0) [.tuple])) (.cmp .eq (.var 0) (.tup .nil))) [.ret (.cst (.bl false))] [], .if_ (.not (.blt .all (.cons (cp_isf ii) .nil))) [.ret (.cst (.bl false))] [], .ret (.call ir false (.cons (.var 0) .nil))]⟩
theorem forest_ok {Φ : Fn} {wn ii ir : Nat} (hi : ∀ d lo hi, noFrz d = true → Φ ii none [d, .int lo, .int hi] = some (.ok (.val (.bl (isI d lo hi))) none)) (hr : ∀ ds, Fine ds → ds.length ≤ 100000 → Φ ir none [.tup ds] = some (.ok (.val (.bl (rooted ds))) none))
    {d : D} (hd : Ask d) : runD Φ wn (f_is_forest ii ir) none [d] = some (.ok (.val (.bl (isForest d))) none) := by
  obtain ⟨h1, h2⟩ := hd
  cases d with
  | frz ds => cases h1
  | exc c => cases h1
  | tup ds =>
    obtain ⟨hl, he⟩ := h2 ds rfl
    cases ds with
    | nil => simp [ev, evA, evO, evC, evI, evF, exS, exB, Ms.seq, Mo.bnd, Mo.ret, Mo.lift, Mo.opd, RV.opd, Mo.set, RV.set, Mo.tst, Mo.imm, Mo.imms, Mo.nox, opds, OB.toD, atD, cmpD, binD, bltD, prepR, preps, storeR, storesR, nxOf, Mo.fl, isNon, tysD, tyD, intD, intsD, seqD, lstD, methD, isMut, mutD, callD, permL, bindT, slcD, startE, ioE, runD, setID, setOB, get1D, get2D, keyD, keyR, f_is_forest, eq_nil, isForest, LIM]
    | cons x xs =>
      generalize hds : x :: xs = ds at *
      have ne : ds.isEmpty = false := by rw [← hds]; rfl
      have cp : ev Φ (cp_isf ii) [.im (.tup ds), .un] = some (.ok (.fr (.lst (ds.map fun d => D.bl (okE ds.length d)))) [.im (.tup ds), .un]) := by
        rw [← fm_map]
        refine comp_is ds _ (by simp [ev, evA, evO, evC, evI, evF, exS, exB, Ms.seq, Mo.bnd, Mo.ret, Mo.lift, Mo.opd, RV.opd, Mo.set, RV.set, Mo.tst, Mo.imm, Mo.imms, Mo.nox, opds, OB.toD, atD, cmpD, binD, bltD, prepR, preps, storeR, storesR, nxOf, Mo.fl, isNon, tysD, tyD, intD, intsD, seqD, lstD, methD, isMut, mutD, callD, permL, bindT, slcD, startE, ioE, runD, setID, setOB, get1D, get2D, keyD, keyR]) (by unfold LIM; omega) (by simp [unown, back]) fun d hd => ⟨[.im (.tup ds), .im d], by simp [unown, bindT], by simp [unown], .inr ⟨_, rfl, by simp [ev, evA, evO, evC, evI, evF, exS, exB, Ms.seq, Mo.bnd, Mo.ret, Mo.lift, Mo.opd, RV.opd, Mo.set, RV.set, Mo.tst, Mo.imm, Mo.imms, Mo.nox, opds, OB.toD, atD, cmpD, binD, bltD, prepR, preps, storeR, storesR, nxOf, Mo.fl, isNon, tysD, tyD, intD, intsD, seqD, lstD, methD, isMut, mutD, callD, permL, bindT, slcD, startE, ioE, runD, setID, setOB, get1D, get2D, keyD, keyR], ?_⟩⟩
        have hz := hi d 0 ((ds.length : Int) - 1) (he d hd)
        cases d <;> simp [ev, evA, evO, evC, evI, evF, exS, exB, Ms.seq, Mo.bnd, Mo.ret, Mo.lift, Mo.opd, RV.opd, Mo.set, RV.set, Mo.tst, Mo.imm, Mo.imms, Mo.nox, opds, OB.toD, atD, cmpD, binD, bltD, prepR, preps, storeR, storesR, nxOf, Mo.fl, isNon, tysD, tyD, intD, intsD, seqD, lstD, methD, isMut, mutD, callD, permL, bindT, slcD, startE, ioE, runD, setID, setOB, get1D, get2D, keyD, keyR, okE, hz]
      have b2 : (blsD (ds.map fun d => D.bl (okE ds.length d))).map (fun bs => RV.val (.bl (bs.all id))) = some (.val (.bl (ds.all (okE ds.length)))) := by
        rw [bls_map, Option.map_some, all_map]
      by_cases ha : ds.all (okE ds.length) = true
      · have hz := hr ds (fine_of ha) (by omega)
        have hf : isForest (.tup ds) = rooted ds := by show (!ds.isEmpty && (ds.all (okE ds.length) && rooted ds)) = _; rw [ne, ha]; rfl
        rw [hf]
        simp [ev, evA, evO, evC, evI, evF, exS, exB, Ms.seq, Mo.bnd, Mo.ret, Mo.lift, Mo.opd, RV.opd, Mo.set, RV.set, Mo.tst, Mo.imm, Mo.imms, Mo.nox, opds, OB.toD, atD, cmpD, binD, bltD, prepR, preps, storeR, storesR, nxOf, Mo.fl, isNon, tysD, tyD, intD, intsD, seqD, lstD, methD, isMut, mutD, callD, permL, bindT, slcD, startE, ioE, runD, setID, setOB, get1D, get2D, keyD, keyR, f_is_forest, eq_nil, ne, cp, b2, LIM, hz, ha]
      · have hf : isForest (.tup ds) = false := by show (!ds.isEmpty && (ds.all (okE ds.length) && rooted ds)) = _; rw [Bool.not_eq_true] at ha; rw [ha]; simp
        rw [hf]
        rw [Bool.not_eq_true] at ha
        simp [ev, evA, evO, evC, evI, evF, exS, exB, Ms.seq, Mo.bnd, Mo.ret, Mo.lift, Mo.opd, RV.opd, Mo.set, RV.set, Mo.tst, Mo.imm, Mo.imms, Mo.nox, opds, OB.toD, atD, cmpD, binD, bltD, prepR, preps, storeR, storesR, nxOf, Mo.fl, isNon, tysD, tyD, intD, intsD, seqD, lstD, methD, isMut, mutD, callD, permL, bindT, slcD, startE, ioE, runD, setID, setOB, get1D, get2D, keyD, keyR, f_is_forest, eq_nil, ne, cp, b2, LIM, ha]
  | _ => simp [ev, evA, evO, evC, evI, evF, exS, exB, Ms.seq, Mo.bnd, Mo.ret, Mo.lift, Mo.opd, RV.opd, Mo.set, RV.set, Mo.tst, Mo.imm, Mo.imms, Mo.nox, opds, OB.toD, atD, cmpD, binD, bltD, prepR, preps, storeR, storesR, nxOf, Mo.fl, isNon, tysD, tyD, intD, intsD, seqD, lstD, methD, isMut, mutD, callD, permL, bindT, slcD, startE, ioE, runD, setID, setOB, get1D, get2D, keyD, keyR, f_is_forest, isForest]
end HB

set_option Elab.async false
set_option linter.all false
set_option maxRecDepth 100000
set_option maxHeartbeats 4000000
/-! HBLib4: the law's own way of judging a forest. -/
namespace HB
open PySem PySem.Spec PyProof.Rows L2

def dI (l : List Nat) : List D := l.map fun (k : Nat) => D.int (k : Int)
theorem flat_dI : ∀ l : List Nat, flatDs (dI l) = some (l.map fun (k : Nat) => V.int (k : Int))
  | [] => rfl
  | k :: l => by
    have := flat_dI l
    unfold dI at this ⊢
    simp [flatDs, flatD, this]
theorem mem_dI0 (y : Nat) (l : List Nat) : memD (.int (y : Int)) (dI l) = some (decide (y ∈ l)) := by
  unfold memD
  rw [flat_dI]
  simp only [flatD]
  congr 1
  unfold inV
  induction l with
  | nil => simp
  | cons x l ih =>
    show (((x : Int) == (y : Int)) || (l.map fun (k : Nat) => V.int (k : Int)).any fun z => eqV z (.int (y : Int))) = _
    rw [ih]
    by_cases h : x = y
    · subst h; simp
    · have h' : ((x : Int) == (y : Int)) = false := by simp; omega
      rw [h', Bool.false_or]
      simp [Ne.symm h]
theorem mem_dI (y : Nat) (l : List Nat) : memL (.int (y : Int)) (dI l) = some (decide (y ∈ l)) := by
  unfold memL
  rw [mem_dI0]
def natOf : D → Nat
  | .int i => i.toNat
  | _ => 0
theorem dI_filter (p : Nat → Bool) : ∀ L : List Nat, dI (L.filter p) = (dI L).filterMap fun d => if p (natOf d) = true then some d else none
  | [] => rfl
  | x :: L => by
    have ih := dI_filter p L
    have e : dI (x :: L) = D.int (x : Int) :: dI L := rfl
    rw [e, List.filterMap_cons]
    have n : natOf (D.int (x : Int)) = x := by simp [natOf]
    rw [n]
    by_cases h : p x = true
    · rw [List.filter_cons_of_pos h, if_pos h]
      simp only
      rw [← ih]
      rfl
    · rw [List.filter_cons_of_neg h, if_neg h]
      exact ih
def lefts (ds : List D) (k : Nat) : List Nat := (List.range ds.length).filter fun x => (upE ds k (some x)).isSome
theorem lefts_0 (ds : List D) : lefts ds 0 = List.range ds.length := by
  unfold lefts
  rw [List.filter_eq_self]
  intro x _
  rfl
theorem lefts_succ {ds : List D} (h : Fine ds) (k : Nat) : (lefts ds k).filter (fun x => match par ds x with
    | some y => decide (y ∈ lefts ds k)
    | none => false) = lefts ds (k + 1) := by
  unfold lefts
  rw [List.filter_filter]
  apply List.filter_congr
  intro x hx
  have hx' : x < ds.length := by simpa using hx
  rw [upE_succ]
  cases e : par ds x with
  | none => simp [upE_none]
  | some y =>
    have hy := par_lt h e
    have e2 : upE ds (k + 1) (some x) = upE ds k (some y) := by rw [upE_succ, e]
    simp only [List.mem_filter, List.mem_range, hy, true_and]
    cases e3 : upE ds k (some y) with
    | none => simp
    | some z =>
      have : upE ds k (some x) ≠ none := fun q => by
        have : upE ds (k + 1) (some x) = (upE ds k (some x)).bind (par ds) := rfl
        rw [q, e2, e3] at this
        cases this
      cases e4 : upE ds k (some x) with
      | none => exact (this e4).elim
      | some w => simp
theorem lefts_nil {ds : List D} : (lefts ds ds.length).isEmpty = rooted2 ds := by
  rw [Bool.eq_iff_iff]
  unfold lefts rooted2
  rw [List.isEmpty_iff, List.filter_eq_nil_iff, List.all_eq_true]
  constructor
  · intro q x hx
    have := q x hx
    cases e : upE ds ds.length (some x) with
    | none => rfl
    | some y => rw [e] at this; simp at this
  · intro q x hx
    have := q x hx
    cases e : upE ds ds.length (some x) with
    | none => simp
    | some y => rw [e] at this; simp at this
def li_turn : List IS := [.if_ (.cmp .isn (.var 1) (.cst .non)) [.if_ (.or (.not (.isi (.var 1) [.int])) (.or (.isi (.var 1) [.bool]) (.not (.chn .le .lt (.cst (.int 0)) (.var 1) (.blt .len (.cons (.var 0) .nil)))))) [.ret (.cst (.bl false))] []] []]
def cp_li : IE := .comp [1] [1] (.seq (.var 2)) (.yes (.and (.cmp .isn (.idx (.var 0) (.var 1)) (.cst .non)) (.cmp .mem (.idx (.var 0) (.var 1)) (.var 2)))) (.var 1)
def li_round : List IS := [.asg 2 false cp_li]
def f_law_is : Df := ⟨1, 4, false, [.if_ (.or (.not (.isi (.var 0) [.tuple])) (.cmp .eq (.var 0) (.tup .nil))) [.ret (.cst (.bl false))] [], .for_ [1] [] (.seq (.var 0)) li_turn, .asg 2 false (.blt .listRng (.cons (.blt .len (.cons (.var 0) .nil)) .nil)), .for_ [3] [] (.rng1 (.blt .len (.cons (.var 0) .nil))) li_round, .ret (.cmp .eq (.var 2) (.lst .nil))]⟩
theorem eq_dI (l : List Nat) : eqD (.lst (dI l)) (.lst []) = some l.isEmpty := by
  cases l with
  | nil => rfl
  | cons x l => simp [eqD, dI]
theorem cp_li_is {Φ : Fn} {ds : List D} {L : List Nat} {s1 s3 : Sl} (h : Fine ds) (hl : ds.length ≤ 1000) (hL : L.length ≤ 1000) (hb : ∀ x ∈ L, x < ds.length) :
    ev Φ cp_li [.im (.tup ds), s1, .im (.lst (dI L)), s3] = some (.ok (.fr (.lst (dI (L.filter fun x => match par ds x with
      | some y => decide (y ∈ L)
      | none => false)))) [.im (.tup ds), s1, .im (.lst (dI L)), s3]) := by
  rw [dI_filter]
  refine comp_is (dI L) _ (by simp [ev, evA, evO, evC, evI, evF, exS, exB, Ms.seq, Mo.bnd, Mo.ret, Mo.lift, Mo.opd, RV.opd, Mo.set, RV.set, Mo.tst, Mo.imm, Mo.imms, Mo.nox, opds, OB.toD, atD, cmpD, binD, bltD, prepR, preps, storeR, storesR, nxOf, Mo.fl, isNon, tysD, tyD, intD, intsD, seqD, lstD, methD, isMut, mutD, callD, permL, bindT, slcD, startE, ioE, runD, setID, setOB, get1D, get2D, keyD, keyR]) (by unfold LIM dI; simp; omega) (by simp [unown, back]) fun d hd => ?_
  obtain ⟨x, hx, rfl⟩ := List.mem_map.mp hd
  have hxl := hb x hx
  have g : L2.atI ds (x : Int) = some (hereD (par ds x)) := by rw [atI_nat, get_par h hxl]
  refine ⟨[.im (.tup ds), .im (.int (x : Int)), .im (.lst (dI L)), s3], by simp [unown, bindT], by simp [unown], ?_⟩
  cases e : par ds x with
  | none =>
    rw [e] at g
    exact .inl ⟨by simp [e, natOf], by simp [ev, evA, evO, evC, evI, evF, exS, exB, Ms.seq, Mo.bnd, Mo.ret, Mo.lift, Mo.opd, RV.opd, Mo.set, RV.set, Mo.tst, Mo.imm, Mo.imms, Mo.nox, opds, OB.toD, atD, cmpD, binD, bltD, prepR, preps, storeR, storesR, nxOf, Mo.fl, isNon, tysD, tyD, intD, intsD, seqD, lstD, methD, isMut, mutD, callD, permL, bindT, slcD, startE, ioE, runD, setID, setOB, get1D, get2D, keyD, keyR, g, hereD]⟩
  | some y =>
    rw [e] at g
    have m := mem_dI y L
    by_cases hm : y ∈ L
    · exact .inr ⟨_, by simp [e, hm, natOf]; rfl, by simp [ev, evA, evO, evC, evI, evF, exS, exB, Ms.seq, Mo.bnd, Mo.ret, Mo.lift, Mo.opd, RV.opd, Mo.set, RV.set, Mo.tst, Mo.imm, Mo.imms, Mo.nox, opds, OB.toD, atD, cmpD, binD, bltD, prepR, preps, storeR, storesR, nxOf, Mo.fl, isNon, tysD, tyD, intD, intsD, seqD, lstD, methD, isMut, mutD, callD, permL, bindT, slcD, startE, ioE, runD, setID, setOB, get1D, get2D, keyD, keyR, g, hereD, m, hm], by simp [ev, evA, evO, evC, evI, evF, exS, exB, Ms.seq, Mo.bnd, Mo.ret, Mo.lift, Mo.opd, RV.opd, Mo.set, RV.set, Mo.tst, Mo.imm, Mo.imms, Mo.nox, opds, OB.toD, atD, cmpD, binD, bltD, prepR, preps, storeR, storesR, nxOf, Mo.fl, isNon, tysD, tyD, intD, intsD, seqD, lstD, methD, isMut, mutD, callD, permL, bindT, slcD, startE, ioE, runD, setID, setOB, get1D, get2D, keyD, keyR]⟩
    · exact .inl ⟨by simp [e, hm, natOf], by simp [ev, evA, evO, evC, evI, evF, exS, exB, Ms.seq, Mo.bnd, Mo.ret, Mo.lift, Mo.opd, RV.opd, Mo.set, RV.set, Mo.tst, Mo.imm, Mo.imms, Mo.nox, opds, OB.toD, atD, cmpD, binD, bltD, prepR, preps, storeR, storesR, nxOf, Mo.fl, isNon, tysD, tyD, intD, intsD, seqD, lstD, methD, isMut, mutD, callD, permL, bindT, slcD, startE, ioE, runD, setID, setOB, get1D, get2D, keyD, keyR, g, hereD, m, hm]⟩
theorem listRng_is (n : Nat) : ((List.range n).map fun (k : Nat) => D.int (k : Int)) = dI (List.range n) := rfl
theorem law_is_ok {Φ : Fn} {wn : Nat} {d : D} (hd : Ask d) : runD Φ wn f_law_is none [d] = some (.ok (.val (.bl (isForest d))) none) := by
  obtain ⟨h1, h2⟩ := hd
  cases d with
  | frz ds => cases h1
  | exc c => cases h1
  | tup ds =>
    obtain ⟨hl, he⟩ := h2 ds rfl
    cases ds with
    | nil => simp [ev, evA, evO, evC, evI, evF, exS, exB, Ms.seq, Mo.bnd, Mo.ret, Mo.lift, Mo.opd, RV.opd, Mo.set, RV.set, Mo.tst, Mo.imm, Mo.imms, Mo.nox, opds, OB.toD, atD, cmpD, binD, bltD, prepR, preps, storeR, storesR, nxOf, Mo.fl, isNon, tysD, tyD, intD, intsD, seqD, lstD, methD, isMut, mutD, callD, permL, bindT, slcD, startE, ioE, runD, setID, setOB, get1D, get2D, keyD, keyR, f_law_is, eq_nil, isForest, LIM]
    | cons x xs =>
      generalize hds : x :: xs = ds at *
      have ne : ds.isEmpty = false := by rw [← hds]; rfl
      have hr : -100000 ≤ (ds.length : Int) ∧ (ds.length : Int) ≤ 100000 := by omega
      have hf : isForest (.tup ds) = (ds.all (okE ds.length) && rooted ds) := by show (!ds.isEmpty && (ds.all (okE ds.length) && rooted ds)) = _; rw [ne]; rfl
      obtain ⟨r, o, e, k1, k2⟩ := run_go (Φ := Φ) (wn := wn) (d := f_law_is) (io := none) (ds := [.tup ds]) (env := [.im (.tup ds), .un, .un, .un]) (Q := fun r o => r = .val (.bl (isForest (.tup ds))) ∧ o = none) rfl (by
        refine ex_cons (if_go (b := false) (env1 := [.im (.tup ds), .un, .un, .un]) (by simp [ev, evA, evO, evC, evI, evF, exS, exB, Ms.seq, Mo.bnd, Mo.ret, Mo.lift, Mo.opd, RV.opd, Mo.set, RV.set, Mo.tst, Mo.imm, Mo.imms, Mo.nox, opds, OB.toD, atD, cmpD, binD, bltD, prepR, preps, storeR, storesR, nxOf, Mo.fl, isNon, tysD, tyD, intD, intsD, seqD, lstD, methD, isMut, mutD, callD, permL, bindT, slcD, startE, ioE, runD, setID, setOB, get1D, get2D, keyD, keyR, eq_nil, ne, LIM]) ?_)
        rw [if_neg Bool.false_ne_true]
        refine ex_nil ?_
        refine ex_cons (for_st (ds := ds) (env1 := [.im (.tup ds), .un, .un, .un]) (by simp [ev, evA, evO, evC, evI, evF, exS, exB, Ms.seq, Mo.bnd, Mo.ret, Mo.lift, Mo.opd, RV.opd, Mo.set, RV.set, Mo.tst, Mo.imm, Mo.imms, Mo.nox, opds, OB.toD, atD, cmpD, binD, bltD, prepR, preps, storeR, storesR, nxOf, Mo.fl, isNon, tysD, tyD, intD, intsD, seqD, lstD, methD, isMut, mutD, callD, permL, bindT, slcD, startE, ioE, runD, setID, setOB, get1D, get2D, keyD, keyR]) ?_)
        refine for_go0 (fun i env => ∃ s1, env = [.im (.tup ds), s1, .un, .un] ∧ ∀ (j : Nat) (d : D), j < i → ds[j]? = some d → okE ds.length d = true) ⟨_, rfl, fun j d hj => by omega⟩ ?_ ?_
        · rintro i d env hdi ⟨s1, rfl, hi⟩
          refine ⟨[.im (.tup ds), .im d, .un, .un], by simp [bindT], ?_⟩
          have hm := List.mem_of_getElem? hdi
          have hn := he d hm
          by_cases hk : okE ds.length d = true
          · have next : ∀ (j : Nat) (e : D), j < i + 1 → ds[j]? = some e → okE ds.length e = true := fun j e hj hje => by
              by_cases hji : j < i
              · exact hi j e hji hje
              · have : j = i := by omega
                subst this
                rw [hdi] at hje; cases hje; exact hk
            rcases okE_is hk with z | ⟨y, z, hy⟩
            · subst z
              simp [ev, evA, evO, evC, evI, evF, exS, exB, Ms.seq, Mo.bnd, Mo.ret, Mo.lift, Mo.opd, RV.opd, Mo.set, RV.set, Mo.tst, Mo.imm, Mo.imms, Mo.nox, opds, OB.toD, atD, cmpD, binD, bltD, prepR, preps, storeR, storesR, nxOf, Mo.fl, isNon, tysD, tyD, intD, intsD, seqD, lstD, methD, isMut, mutD, callD, permL, bindT, slcD, startE, ioE, runD, setID, setOB, get1D, get2D, keyD, keyR, li_turn, GoX, f_law_is]
              exact next
            · subst z
              have c1 : (0 : Int) ≤ (y : Int) := by omega
              have c2 : ((y : Int) < (ds.length : Int)) := by omega
              simp [ev, evA, evO, evC, evI, evF, exS, exB, Ms.seq, Mo.bnd, Mo.ret, Mo.lift, Mo.opd, RV.opd, Mo.set, RV.set, Mo.tst, Mo.imm, Mo.imms, Mo.nox, opds, OB.toD, atD, cmpD, binD, bltD, prepR, preps, storeR, storesR, nxOf, Mo.fl, isNon, tysD, tyD, intD, intsD, seqD, lstD, methD, isMut, mutD, callD, permL, bindT, slcD, startE, ioE, runD, setID, setOB, get1D, get2D, keyD, keyR, li_turn, GoX, f_law_is, c2]
              exact next
          · have : isForest (.tup ds) = false := by
              rw [hf]
              have : ds.all (okE ds.length) = false := by
                rw [List.all_eq_false]
                exact ⟨d, hm, hk⟩
              rw [this]; rfl
            rw [this]
            cases d with
            | frz _ => cases hn
            | exc _ => cases hn
            | non => exact (hk rfl).elim
            | int v =>
              have c : ¬ (0 ≤ v ∧ v < (ds.length : Int)) := fun c => hk (by simp [okE, isNon, isI]; omega)
              by_cases c1 : (0 : Int) ≤ v
              · have c2 : ¬ v < (ds.length : Int) := fun q => c ⟨c1, q⟩
                simp [ev, evA, evO, evC, evI, evF, exS, exB, Ms.seq, Mo.bnd, Mo.ret, Mo.lift, Mo.opd, RV.opd, Mo.set, RV.set, Mo.tst, Mo.imm, Mo.imms, Mo.nox, opds, OB.toD, atD, cmpD, binD, bltD, prepR, preps, storeR, storesR, nxOf, Mo.fl, isNon, tysD, tyD, intD, intsD, seqD, lstD, methD, isMut, mutD, callD, permL, bindT, slcD, startE, ioE, runD, setID, setOB, get1D, get2D, keyD, keyR, li_turn, GoX, f_law_is, c1, c2]
              · simp [ev, evA, evO, evC, evI, evF, exS, exB, Ms.seq, Mo.bnd, Mo.ret, Mo.lift, Mo.opd, RV.opd, Mo.set, RV.set, Mo.tst, Mo.imm, Mo.imms, Mo.nox, opds, OB.toD, atD, cmpD, binD, bltD, prepR, preps, storeR, storesR, nxOf, Mo.fl, isNon, tysD, tyD, intD, intsD, seqD, lstD, methD, isMut, mutD, callD, permL, bindT, slcD, startE, ioE, runD, setID, setOB, get1D, get2D, keyD, keyR, li_turn, GoX, f_law_is, c1]
            | _ => simp [ev, evA, evO, evC, evI, evF, exS, exB, Ms.seq, Mo.bnd, Mo.ret, Mo.lift, Mo.opd, RV.opd, Mo.set, RV.set, Mo.tst, Mo.imm, Mo.imms, Mo.nox, opds, OB.toD, atD, cmpD, binD, bltD, prepR, preps, storeR, storesR, nxOf, Mo.fl, isNon, tysD, tyD, intD, intsD, seqD, lstD, methD, isMut, mutD, callD, permL, bindT, slcD, startE, ioE, runD, setID, setOB, get1D, get2D, keyD, keyR, li_turn, GoX, f_law_is]
        · rintro env ⟨s1, rfl, hi⟩
          have hall : ds.all (okE ds.length) = true := by
            rw [List.all_eq_true]
            intro d hd
            obtain ⟨j, hj, e⟩ := List.mem_iff_getElem.mp hd
            exact hi j d hj (by rw [List.getElem?_eq_getElem hj, e])
          have fine := fine_of hall
          rw [hf, hall, Bool.true_and, rooted_same fine]
          refine ex_cons (asg_fi (o := .lst (dI (lefts ds 0))) (env1 := [.im (.tup ds), s1, .un, .un]) (by rw [lefts_0]; simp [ev, evA, evO, evC, evI, evF, exS, exB, Ms.seq, Mo.bnd, Mo.ret, Mo.lift, Mo.opd, RV.opd, Mo.set, RV.set, Mo.tst, Mo.imm, Mo.imms, Mo.nox, opds, OB.toD, atD, cmpD, binD, bltD, prepR, preps, storeR, storesR, nxOf, Mo.fl, isNon, tysD, tyD, intD, intsD, seqD, lstD, methD, isMut, mutD, callD, permL, bindT, slcD, startE, ioE, runD, setID, setOB, get1D, get2D, keyD, keyR, hr, listRng_is]) ⟨rfl, by simp⟩ ?_)
          refine ex_cons (for_st (ds := (List.range ds.length).map fun (k : Nat) => D.int (0 + (k : Int))) (env1 := [.im (.tup ds), s1, .im (.lst (dI (lefts ds 0))), .un]) (by simp [ev, evA, evO, evC, evI, evF, exS, exB, Ms.seq, Mo.bnd, Mo.ret, Mo.lift, Mo.opd, RV.opd, Mo.set, RV.set, Mo.tst, Mo.imm, Mo.imms, Mo.nox, opds, OB.toD, atD, cmpD, binD, bltD, prepR, preps, storeR, storesR, nxOf, Mo.fl, isNon, tysD, tyD, intD, intsD, seqD, lstD, methD, isMut, mutD, callD, permL, bindT, slcD, startE, ioE, runD, setID, setOB, get1D, get2D, keyD, keyR, hr]) ?_)
          refine for_go0 (fun i env => ∃ s1 s3, env = [.im (.tup ds), s1, .im (.lst (dI (lefts ds i))), s3]) ⟨_, _, rfl⟩ ?_ ?_
          · rintro i d env hdi ⟨s1, s3, rfl⟩
            refine ⟨[.im (.tup ds), s1, .im (.lst (dI (lefts ds i))), .im d], by simp [bindT], ?_⟩
            have sub : ∀ x ∈ lefts ds i, x < ds.length := fun x hx => by
              unfold lefts at hx
              simpa using (List.mem_filter.mp hx).1
            have len : (lefts ds i).length ≤ 1000 := by
              have := List.length_filter_le (fun x => (upE ds i (some x)).isSome) (List.range ds.length)
              unfold lefts
              simp only [List.length_range] at this
              omega
            refine ex_cons (asg_fi (cp_li_is fine hl len sub) ⟨rfl, by simp⟩ (ex_nil ?_))
            rw [lefts_succ fine]
            exact ⟨s1, _, rfl⟩
          · rintro env ⟨s1, s3, rfl⟩
            simp only [List.length_map, List.length_range]
            have q := eq_dI (lefts ds ds.length)
            rw [lefts_nil] at q
            refine ex_cons (ret_val (d := .bl (rooted2 ds)) (env1 := [.im (.tup ds), s1, .im (.lst (dI (lefts ds ds.length))), s3]) (by simp [ev, evA, evO, evC, evI, evF, exS, exB, Ms.seq, Mo.bnd, Mo.ret, Mo.lift, Mo.opd, RV.opd, Mo.set, RV.set, Mo.tst, Mo.imm, Mo.imms, Mo.nox, opds, OB.toD, atD, cmpD, binD, bltD, prepR, preps, storeR, storesR, nxOf, Mo.fl, isNon, tysD, tyD, intD, intsD, seqD, lstD, methD, isMut, mutD, callD, permL, bindT, slcD, startE, ioE, runD, setID, setOB, get1D, get2D, keyD, keyR, q, LIM]) ⟨none, rfl, rfl, rfl⟩))
      rw [e, k1, k2]
  | _ => simp [ev, evA, evO, evC, evI, evF, exS, exB, Ms.seq, Mo.bnd, Mo.ret, Mo.lift, Mo.opd, RV.opd, Mo.set, RV.set, Mo.tst, Mo.imm, Mo.imms, Mo.nox, opds, OB.toD, atD, cmpD, binD, bltD, prepR, preps, storeR, storesR, nxOf, Mo.fl, isNon, tysD, tyD, intD, intsD, seqD, lstD, methD, isMut, mutD, callD, permL, bindT, slcD, startE, ioE, runD, setID, setOB, get1D, get2D, keyD, keyR, f_law_is, isForest]
end HB

set_option Elab.async false
set_option linter.all false
set_option maxRecDepth 100000
set_option maxHeartbeats 4000000
/-! HBLib5: what can be shown; bent plans; a judging asked twice. -/
namespace HB
open PySem PySem.Spec PyProof.Rows L2

/-! ### the length of what is shown -/
theorem from_len : ∀ (ts : List Str) (k : Nat) (acc : Str), (textFrom k acc ts).length ≤ acc.length + piled ts
  | [], k, acc => by simp [textFrom, piled_nil]
  | t :: ts, k, acc => by
    have h := from_len ts (k + 1) (acc ++ (if k > 0 then ", " else "" : String) ++ t)
    have e : (acc ++ (if k > 0 then ", " else "" : String) ++ t).length ≤ acc.length + 2 + t.length := by
      rw [strLen_append, strLen_append]
      have : ((if k > 0 then ", " else "" : String) : Str).length ≤ 2 := by split <;> decide
      omega
    rw [piled_cons]
    unfold textFrom
    omega
theorem list_len (ts : List Str) : (listText ts).length ≤ piled ts + 2 := by
  unfold listText
  rw [strLen_append]
  have h := from_len ts 0 "["
  have e1 : (("[" : String) : Str).length = 1 := rfl
  have e2 : (("]" : String) : Str).length = 1 := rfl
  omega
theorem tuple_len (ts : List Str) : (tupleText ts).length ≤ piled ts + 3 := by
  unfold tupleText
  rw [strLen_append, strLen_append]
  have e1 : (("(" : String) : Str).length = 1 := rfl
  have e2 : ((if ts.length == 1 then ",)" else ")" : String) : Str).length ≤ 2 := by split <;> decide
  by_cases h : ts = []
  · subst h
    have : (Str.join ", " []).length = 0 := rfl
    rw [this]; omega
  · have := join_length_add ts h
    omega
theorem piled_le {c : Nat} : ∀ {ts : List Str}, (∀ t ∈ ts, t.length ≤ c) → piled ts ≤ (c + 2) * ts.length
  | [], _ => by simp [piled_nil]
  | t :: ts, h => by
    have h1 := h t List.mem_cons_self
    have h2 := piled_le (ts := ts) fun x hx => h x (List.mem_cons_of_mem _ hx)
    rw [piled_cons, List.length_cons, Nat.mul_succ]
    omega
/-- a thing that is small to show -/
def Small (d : D) : Prop := noFrz d = true ∧ reprOk d = true ∧ (toPy d).showable = true ∧ (toPy d).depth ≤ 2 ∧ (toPy d).shown.length ≤ 60
theorem small_non : Small .non := ⟨rfl, rfl, rfl, by decide, by decide⟩
theorem small_bl (b : Bool) : Small (.bl b) := by cases b <;> exact ⟨rfl, rfl, rfl, by decide, by decide⟩
theorem small_int {i : Int} (h : i.natAbs < 10 ^ 40) : Small (.int i) := by
  refine ⟨rfl, rfl, ?_, by simp [toPy, PyData.depth], ?_⟩
  · simp only [toPy, PyData.showable, decide_eq_true_eq]
    by_cases hz : i.natAbs = 0
    · rw [hz]; decide
    · rw [Nat.log2_lt hz]
      have : (10 : Nat) ^ 40 ≤ 2 ^ 1920 := by decide +kernel
      omega
  · have e := int_text_length_le10 (a := i) (k := 40) (by decide) h
    show (Str.ofString (toString i)).length ≤ 60
    rw [PySem.ofString_length]
    omega
theorem small_mem {ds : List D} (h : ∀ d ∈ ds, Small d) : reprOks ds = true ∧ PyData.showableAll (toPys ds) = true ∧ PyData.depthAll (toPys ds) ≤ 2 ∧ (∀ t ∈ PyData.shownAll (toPys ds), t.length ≤ 60) ∧ (PyData.shownAll (toPys ds)).length = ds.length := by
  induction ds with
  | nil => exact ⟨rfl, rfl, by decide, (fun t ht => by simp [toPys, PyData.shownAll] at ht), rfl⟩
  | cons d ds ih =>
    obtain ⟨h1, h2, h3, h4, h5⟩ := ih fun x hx => h x (List.mem_cons_of_mem _ hx)
    obtain ⟨k1, k2, k3, k4, k5⟩ := h d List.mem_cons_self
    refine ⟨by simp [reprOks, k2, h1], by simp [toPys, PyData.showableAll, k3, h2], by simp only [toPys, PyData.depthAll]; omega, fun t ht => ?_, by simp [toPys, PyData.shownAll, h5]⟩
    simp only [toPys, PyData.shownAll, List.mem_cons] at ht
    rcases ht with e | ht
    · subst e; exact k5
    · exact h4 t ht
theorem repr_tup {ds : List D} (h : ∀ d ∈ ds, Small d) (hl : ds.length ≤ 1000) : ∃ t, reprD (.tup ds) = some t := by
  obtain ⟨h1, h2, h3, h4, h5⟩ := small_mem h
  refine ⟨_, if_pos ?_⟩
  have p := piled_le h4
  have l := tuple_len (PyData.shownAll (toPys ds))
  rw [h5] at p
  simp only [Bool.and_eq_true, decide_eq_true_eq]
  refine ⟨⟨⟨h1, h2⟩, ?_⟩, ?_⟩
  · show PyData.depthAll (toPys ds) + 1 ≤ 64; omega
  · show (tupleText (PyData.shownAll (toPys ds))).length ≤ 100000; omega
theorem repr_lst {ds : List D} (h : ∀ d ∈ ds, Small d) (hl : ds.length ≤ 1000) : ∃ t, reprD (.lst ds) = some t := by
  obtain ⟨h1, h2, h3, h4, h5⟩ := small_mem h
  refine ⟨_, if_pos ?_⟩
  have p := piled_le h4
  have l := list_len (PyData.shownAll (toPys ds))
  rw [h5] at p
  simp only [Bool.and_eq_true, decide_eq_true_eq]
  refine ⟨⟨⟨h1, h2⟩, ?_⟩, ?_⟩
  · show PyData.depthAll (toPys ds) + 1 ≤ 64; omega
  · show (listText (PyData.shownAll (toPys ds))).length ≤ 100000; omega
theorem repr_small {d : D} (h : Small d) : ∃ t, reprD d = some t := by
  obtain ⟨k1, k2, k3, k4, k5⟩ := h
  refine ⟨_, if_pos ?_⟩
  simp only [Bool.and_eq_true, decide_eq_true_eq]
  exact ⟨⟨⟨k2, k3⟩, by omega⟩, by unfold LIM; omega⟩
/-! ### judged twice -/
def f_law_right (i_f i_l : Nat) : Df := ⟨1, 4, false, [.asg 1 false (.blt .repr (.cons (.var 0) .nil)), .asg 2 false (.lst (.cons (.call i_f false (.cons (.var 0) .nil)) (.cons (.callK i_f [0] (.cons (.var 0) .nil)) .nil))), .asg 3 false (.call i_l false (.cons (.var 0) .nil)), .ret (.and (.cmp .eq (.var 2) (.lst (.cons (.var 3) (.cons (.var 3) .nil)))) (.and (.isi (.idx (.var 2) (.cst (.int 0))) [.bool]) (.cmp .eq (.blt .repr (.cons (.var 0) .nil)) (.var 1))))]⟩
theorem eq_bls (a : Bool) : eqD (.lst [.bl a, .bl a]) (.lst [.bl a, .bl a]) = some true := by cases a <;> decide +kernel
theorem right_ok {Φ : Fn} {wn i_f i_l : Nat} {d : D} {b : Bool} {t : Str} (h1 : Φ i_f none [d] = some (.ok (.val (.bl b)) none)) (h2 : Φ i_l none [d] = some (.ok (.val (.bl b)) none)) (hr : reprD d = some t) : runD Φ wn (f_law_right i_f i_l) none [d] = some (.ok (.val (.bl true)) none) := by
  have e := eq_bls b
  have e2 : eqD (.str t) (.str t) = some true := by simp [eqD]
  simp [ev, evA, evO, evC, evI, evF, exS, exB, Ms.seq, Mo.bnd, Mo.ret, Mo.lift, Mo.opd, RV.opd, Mo.set, RV.set, Mo.tst, Mo.imm, Mo.imms, Mo.nox, opds, OB.toD, atD, cmpD, binD, bltD, prepR, preps, storeR, storesR, nxOf, Mo.fl, isNon, tysD, tyD, intD, intsD, seqD, lstD, methD, isMut, mutD, callD, permL, bindT, slcD, startE, ioE, runD, setID, setOB, get1D, get2D, keyD, keyR, f_law_right, h1, h2, hr, e, e2, LIM]
end HB

set_option Elab.async false
set_option linter.all false
set_option maxRecDepth 100000
set_option maxHeartbeats 4000000
/-! HBLib6: bent plans. -/
namespace HB
open PySem PySem.Spec PyProof.Rows L2

theorem cut_mem {ds : List D} {lo hi : Option Int} {d : D} (h : d ∈ cutD ds lo hi) : d ∈ ds := List.mem_of_mem_drop (List.mem_of_mem_take h)
theorem cut_len (ds : List D) (lo hi : Option Int) : (cutD ds lo hi).length ≤ ds.length := by
  unfold cutD
  rw [List.length_take, List.length_drop]
  omega
theorem at_some {ds : List D} {i : Int} (h0 : 0 ≤ i) (h1 : i < (ds.length : Int)) : ∃ x, L2.atI ds i = some x ∧ x ∈ ds := by
  obtain ⟨k, rfl⟩ := Int.eq_ofNat_of_zero_le h0
  have hk : k < ds.length := by omega
  exact ⟨ds[k], by rw [atI_nat]; simp [hk], List.getElem_mem hk⟩
def oddD (n : Nat) (s : Int) : List D := [.non, .int (-1), .int (n : Int), .bl true, .bl false, .str ("0" : PySem.Str), .tup [.int 0], .lst [.int 0], .int (10 ^ 39), .int s, .str ("" : PySem.Str), .dK [] []]
theorem odd_small {n : Nat} {s : Int} (hn : n ≤ 1000) (h0 : 0 ≤ s) (h1 : s < 10 ^ 20) : ∀ d ∈ oddD n s, Small d := by
  intro d hd
  simp only [oddD, List.mem_cons, List.not_mem_nil, or_false] at hd
  rcases hd with rfl | rfl | rfl | rfl | rfl | rfl | rfl | rfl | rfl | rfl | rfl | rfl
  · exact small_non
  · exact small_int (by decide)
  · exact small_int (by omega)
  · exact small_bl _
  · exact small_bl _
  · exact ⟨rfl, rfl, rfl, by decide, by decide +kernel⟩
  · exact ⟨rfl, rfl, by decide +kernel, by decide, by decide +kernel⟩
  · exact ⟨rfl, rfl, by decide +kernel, by decide, by decide +kernel⟩
  · exact small_int (by decide +kernel)
  · exact small_int (by omega)
  · exact ⟨rfl, rfl, rfl, by decide, by decide +kernel⟩
  · exact ⟨rfl, rfl, rfl, by decide, by decide +kernel⟩
def bt_0 (i : Nat) : IE := .bin .add (.bin .add (.slc (.var 1) .no (.yes (.var 2))) (.tup (.cons (.idx (.var 3) (.call i true (.cons (.var 0) (.cons (.cst (.int 12)) .nil)))) .nil))) (.slc (.var 1) (.yes (.bin .add (.var 2) (.cst (.int 1)))) .no)
def bt_1 (i : Nat) : IE := .bin .add (.bin .add (.slc (.var 1) .no (.yes (.var 2))) (.tup (.cons (.call i true (.cons (.var 0) (.cons (.blt .len (.cons (.var 1) .nil)) .nil))) .nil))) (.slc (.var 1) (.yes (.bin .add (.var 2) (.cst (.int 1)))) .no)
def bt_2 : IE := .bin .add (.slc (.var 1) .no (.yes (.var 2))) (.slc (.var 1) (.yes (.bin .add (.var 2) (.cst (.int 1)))) .no)
def bt_3 : IE := .bin .add (.slc (.var 1) (.yes (.var 2)) .no) (.slc (.var 1) .no (.yes (.var 2)))
def bt_o : IE := .lst (.cons (.cst .non) (.cons (.neg (.cst (.int 1))) (.cons (.blt .len (.cons (.var 1) .nil)) (.cons (.cst (.bl true)) (.cons (.cst (.bl false)) (.cons (.cst (.str ("0" : PySem.Str))) (.cons (.tup (.cons (.cst (.int 0)) .nil)) (.cons (.lst (.cons (.cst (.int 0)) .nil)) (.cons (.bin .pow (.cst (.int 10)) (.cst (.int 39))) (.cons (.var 2) (.cons (.cst (.str ("" : PySem.Str))) (.cons .dct0 .nil))))))))))))
def f_law_bent (i : Nat) : Df := ⟨2, 5, true, [.asg 2 false (.call i true (.cons (.var 0) (.cons (.blt .len (.cons (.var 1) .nil)) .nil))), .asg 3 false bt_o, .asg 4 false (.call i true (.cons (.var 0) (.cons (.cst (.int 4)) .nil))), .if_ (.cmp .eq (.var 4) (.cst (.int 0))) [.ret (bt_0 i)] [], .if_ (.cmp .eq (.var 4) (.cst (.int 1))) [.ret (bt_1 i)] [], .if_ (.cmp .eq (.var 4) (.cst (.int 2))) [.ret bt_2] [], .ret bt_3]⟩
theorem eq_int (a b : Int) : eqD (.int a) (.int b) = some (a == b) := by simp [eqD]
theorem bent_ok {Φ : Fn} {wn i : Nat} (hD : DrawOk (Φ i)) {n : Nat} {o : OB} {ds : List D} (hw : Well n o) (hn : n ≤ 900000) (hs : ∀ d ∈ ds, Small d) (h0 : 0 < ds.length) (hl : ds.length ≤ 500) :
    ∃ ds' o', runD Φ wn (f_law_bent i) (some o) [.tup ds] = some (.ok (.val (.tup ds')) (some o')) ∧ (∀ d ∈ ds', Small d) ∧ ds'.length ≤ 2 * ds.length + 1 ∧ Well (n + 3) o' := by
  obtain ⟨s, o1, e1, s0, s1, w1⟩ := hD n o (ds.length : Int) hw (by omega) (by omega) (by
    have : (1000 : Int) < 2 ^ 1000 := by decide +kernel
    omega)
  obtain ⟨y, o2, e2, y0, y1, w2⟩ := hD (n + 1) o1 4 w1 (by omega) (by decide) (by decide +kernel)
  have ho := odd_small (n := ds.length) (s := s) (by omega) s0 (by omega)
  have main : ∃ r q, runD Φ wn (f_law_bent i) (some o) [.tup ds] = some (.ok r q) ∧ ∃ ds' o', r = .val (.tup ds') ∧ q = some o' ∧ (∀ d ∈ ds', Small d) ∧ ds'.length ≤ 2 * ds.length + 1 ∧ Well (n + 3) o' := by
    refine run_go (env := [.ow o, .im (.tup ds), .un, .un, .un]) rfl ?_
    refine ex_cons (asg_val (d := .int s) (env1 := [.ow o1, .im (.tup ds), .un, .un, .un]) (by simp [ev, evA, evO, evC, evI, evF, exS, exB, Ms.seq, Mo.bnd, Mo.ret, Mo.lift, Mo.opd, RV.opd, Mo.set, RV.set, Mo.tst, Mo.imm, Mo.imms, Mo.nox, opds, OB.toD, atD, cmpD, binD, bltD, prepR, preps, storeR, storesR, nxOf, Mo.fl, isNon, tysD, tyD, intD, intsD, seqD, lstD, methD, isMut, mutD, callD, permL, bindT, slcD, startE, ioE, runD, setID, setOB, get1D, get2D, keyD, keyR, e1]) ⟨rfl, by simp⟩ ?_)
    refine ex_cons (asg_fi (o := .lst (oddD ds.length s)) (env1 := [.ow o1, .im (.tup ds), .im (.int s), .un, .un]) (by simp [ev, evA, evO, evC, evI, evF, exS, exB, Ms.seq, Mo.bnd, Mo.ret, Mo.lift, Mo.opd, RV.opd, Mo.set, RV.set, Mo.tst, Mo.imm, Mo.imms, Mo.nox, opds, OB.toD, atD, cmpD, binD, bltD, prepR, preps, storeR, storesR, nxOf, Mo.fl, isNon, tysD, tyD, intD, intsD, seqD, lstD, methD, isMut, mutD, callD, permL, bindT, slcD, startE, ioE, runD, setID, setOB, get1D, get2D, keyD, keyR, bt_o, oddD, LIM, bits_10]) ⟨rfl, by simp⟩ ?_)
    refine ex_cons (asg_val (d := .int y) (env1 := [.ow o2, .im (.tup ds), .im (.int s), .im (.lst (oddD ds.length s)), .un]) (by simp [ev, evA, evO, evC, evI, evF, exS, exB, Ms.seq, Mo.bnd, Mo.ret, Mo.lift, Mo.opd, RV.opd, Mo.set, RV.set, Mo.tst, Mo.imm, Mo.imms, Mo.nox, opds, OB.toD, atD, cmpD, binD, bltD, prepR, preps, storeR, storesR, nxOf, Mo.fl, isNon, tysD, tyD, intD, intsD, seqD, lstD, methD, isMut, mutD, callD, permL, bindT, slcD, startE, ioE, runD, setID, setOB, get1D, get2D, keyD, keyR, e2]) ⟨rfl, by simp⟩ ?_)
    have c1 := cut_len ds none (some s)
    have c2 := cut_len ds (some (s + 1)) none
    have c3 := cut_len ds (some s) none
    have k1 : ∀ d ∈ cutD ds none (some s), Small d := fun d hd => hs d (cut_mem hd)
    have k2 : ∀ d ∈ cutD ds (some (s + 1)) none, Small d := fun d hd => hs d (cut_mem hd)
    have k3 : ∀ d ∈ cutD ds (some s) none, Small d := fun d hd => hs d (cut_mem hd)
    generalize hc1 : cutD ds none (some s) = C1 at c1 k1
    generalize hc2 : cutD ds (some (s + 1)) none = C2 at c2 k2
    generalize hc3 : cutD ds (some s) none = C3 at c3 k3
    have l1 : C1.length + 1 ≤ 100000 := by omega
    have l2 : C1.length + (1 + C2.length) ≤ 100000 := by omega
    have l3 : C1.length + C2.length ≤ 100000 := by omega
    have l4 : C3.length + C1.length ≤ 100000 := by omega
    have l5 : C1.length + 1 + C2.length ≤ 100000 := by omega
    by_cases y_0 : y = 0
    · subst y_0
      obtain ⟨z, o3, e3, z0, z1, w3⟩ := hD (n + 1 + 1) o2 12 w2 (by omega) (by decide) (by decide +kernel)
      obtain ⟨x, hx, mx⟩ := at_some (ds := oddD ds.length s) z0 (by simpa [oddD] using z1)
      refine ex_cons (if_go (b := true) (env1 := [.ow o2, .im (.tup ds), .im (.int s), .im (.lst (oddD ds.length s)), .im (.int 0)]) (by simp [ev, evA, evO, evC, evI, evF, exS, exB, Ms.seq, Mo.bnd, Mo.ret, Mo.lift, Mo.opd, RV.opd, Mo.set, RV.set, Mo.tst, Mo.imm, Mo.imms, Mo.nox, opds, OB.toD, atD, cmpD, binD, bltD, prepR, preps, storeR, storesR, nxOf, Mo.fl, isNon, tysD, tyD, intD, intsD, seqD, lstD, methD, isMut, mutD, callD, permL, bindT, slcD, startE, ioE, runD, setID, setOB, get1D, get2D, keyD, keyR, eq_int]) ?_)
      rw [if_pos rfl]
      refine ex_cons (ret_val (d := .tup (C1 ++ [x] ++ C2)) (env1 := [.ow o3, .im (.tup ds), .im (.int s), .im (.lst (oddD ds.length s)), .im (.int 0)]) (by simp [ev, evA, evO, evC, evI, evF, exS, exB, Ms.seq, Mo.bnd, Mo.ret, Mo.lift, Mo.opd, RV.opd, Mo.set, RV.set, Mo.tst, Mo.imm, Mo.imms, Mo.nox, opds, OB.toD, atD, cmpD, binD, bltD, prepR, preps, storeR, storesR, nxOf, Mo.fl, isNon, tysD, tyD, intD, intsD, seqD, lstD, methD, isMut, mutD, callD, permL, bindT, slcD, startE, ioE, runD, setID, setOB, get1D, get2D, keyD, keyR, bt_0, e3, hx, hc1, hc2, l1, l2, l5, LIM]) ⟨some o3, rfl, _, o3, rfl, rfl, fun d hd => ?_, by simp; omega, w3⟩)
      simp only [List.mem_append, List.mem_singleton] at hd
      rcases hd with (hd | hd) | hd
      · exact k1 d hd
      · subst hd; exact ho _ mx
      · exact k2 d hd
    · refine ex_cons (if_go (b := false) (env1 := [.ow o2, .im (.tup ds), .im (.int s), .im (.lst (oddD ds.length s)), .im (.int y)]) (by simp [ev, evA, evO, evC, evI, evF, exS, exB, Ms.seq, Mo.bnd, Mo.ret, Mo.lift, Mo.opd, RV.opd, Mo.set, RV.set, Mo.tst, Mo.imm, Mo.imms, Mo.nox, opds, OB.toD, atD, cmpD, binD, bltD, prepR, preps, storeR, storesR, nxOf, Mo.fl, isNon, tysD, tyD, intD, intsD, seqD, lstD, methD, isMut, mutD, callD, permL, bindT, slcD, startE, ioE, runD, setID, setOB, get1D, get2D, keyD, keyR, eq_int, y_0]) ?_)
      rw [if_neg Bool.false_ne_true]
      refine ex_nil ?_
      by_cases y_1 : y = 1
      · subst y_1
        obtain ⟨z, o3, e3, z0, z1, w3⟩ := hD (n + 1 + 1) o2 (ds.length : Int) w2 (by omega) (by omega) (by
          have : (1000 : Int) < 2 ^ 1000 := by decide +kernel
          omega)
        refine ex_cons (if_go (b := true) (env1 := [.ow o2, .im (.tup ds), .im (.int s), .im (.lst (oddD ds.length s)), .im (.int 1)]) (by simp [ev, evA, evO, evC, evI, evF, exS, exB, Ms.seq, Mo.bnd, Mo.ret, Mo.lift, Mo.opd, RV.opd, Mo.set, RV.set, Mo.tst, Mo.imm, Mo.imms, Mo.nox, opds, OB.toD, atD, cmpD, binD, bltD, prepR, preps, storeR, storesR, nxOf, Mo.fl, isNon, tysD, tyD, intD, intsD, seqD, lstD, methD, isMut, mutD, callD, permL, bindT, slcD, startE, ioE, runD, setID, setOB, get1D, get2D, keyD, keyR, eq_int]) ?_)
        rw [if_pos rfl]
        refine ex_cons (ret_val (d := .tup (C1 ++ [.int z] ++ C2)) (env1 := [.ow o3, .im (.tup ds), .im (.int s), .im (.lst (oddD ds.length s)), .im (.int 1)]) (by simp [ev, evA, evO, evC, evI, evF, exS, exB, Ms.seq, Mo.bnd, Mo.ret, Mo.lift, Mo.opd, RV.opd, Mo.set, RV.set, Mo.tst, Mo.imm, Mo.imms, Mo.nox, opds, OB.toD, atD, cmpD, binD, bltD, prepR, preps, storeR, storesR, nxOf, Mo.fl, isNon, tysD, tyD, intD, intsD, seqD, lstD, methD, isMut, mutD, callD, permL, bindT, slcD, startE, ioE, runD, setID, setOB, get1D, get2D, keyD, keyR, bt_1, e3, hc1, hc2, l1, l2, l5, LIM]) ⟨some o3, rfl, _, o3, rfl, rfl, fun d hd => ?_, by simp; omega, w3⟩)
        simp only [List.mem_append, List.mem_singleton] at hd
        rcases hd with (hd | hd) | hd
        · exact k1 d hd
        · subst hd; exact small_int (by omega)
        · exact k2 d hd
      · refine ex_cons (if_go (b := false) (env1 := [.ow o2, .im (.tup ds), .im (.int s), .im (.lst (oddD ds.length s)), .im (.int y)]) (by simp [ev, evA, evO, evC, evI, evF, exS, exB, Ms.seq, Mo.bnd, Mo.ret, Mo.lift, Mo.opd, RV.opd, Mo.set, RV.set, Mo.tst, Mo.imm, Mo.imms, Mo.nox, opds, OB.toD, atD, cmpD, binD, bltD, prepR, preps, storeR, storesR, nxOf, Mo.fl, isNon, tysD, tyD, intD, intsD, seqD, lstD, methD, isMut, mutD, callD, permL, bindT, slcD, startE, ioE, runD, setID, setOB, get1D, get2D, keyD, keyR, eq_int, y_1]) ?_)
        rw [if_neg Bool.false_ne_true]
        refine ex_nil ?_
        by_cases y_2 : y = 2
        · subst y_2
          refine ex_cons (if_go (b := true) (env1 := [.ow o2, .im (.tup ds), .im (.int s), .im (.lst (oddD ds.length s)), .im (.int 2)]) (by simp [ev, evA, evO, evC, evI, evF, exS, exB, Ms.seq, Mo.bnd, Mo.ret, Mo.lift, Mo.opd, RV.opd, Mo.set, RV.set, Mo.tst, Mo.imm, Mo.imms, Mo.nox, opds, OB.toD, atD, cmpD, binD, bltD, prepR, preps, storeR, storesR, nxOf, Mo.fl, isNon, tysD, tyD, intD, intsD, seqD, lstD, methD, isMut, mutD, callD, permL, bindT, slcD, startE, ioE, runD, setID, setOB, get1D, get2D, keyD, keyR, eq_int]) ?_)
          rw [if_pos rfl]
          refine ex_cons (ret_val (d := .tup (C1 ++ C2)) (env1 := [.ow o2, .im (.tup ds), .im (.int s), .im (.lst (oddD ds.length s)), .im (.int 2)]) (by simp [ev, evA, evO, evC, evI, evF, exS, exB, Ms.seq, Mo.bnd, Mo.ret, Mo.lift, Mo.opd, RV.opd, Mo.set, RV.set, Mo.tst, Mo.imm, Mo.imms, Mo.nox, opds, OB.toD, atD, cmpD, binD, bltD, prepR, preps, storeR, storesR, nxOf, Mo.fl, isNon, tysD, tyD, intD, intsD, seqD, lstD, methD, isMut, mutD, callD, permL, bindT, slcD, startE, ioE, runD, setID, setOB, get1D, get2D, keyD, keyR, bt_2, hc1, hc2, l3, LIM]) ⟨some o2, rfl, _, o2, rfl, rfl, fun d hd => ?_, by simp; omega, w2.mono (by omega)⟩)
          simp only [List.mem_append] at hd
          rcases hd with hd | hd
          · exact k1 d hd
          · exact k2 d hd
        · refine ex_cons (if_go (b := false) (env1 := [.ow o2, .im (.tup ds), .im (.int s), .im (.lst (oddD ds.length s)), .im (.int y)]) (by simp [ev, evA, evO, evC, evI, evF, exS, exB, Ms.seq, Mo.bnd, Mo.ret, Mo.lift, Mo.opd, RV.opd, Mo.set, RV.set, Mo.tst, Mo.imm, Mo.imms, Mo.nox, opds, OB.toD, atD, cmpD, binD, bltD, prepR, preps, storeR, storesR, nxOf, Mo.fl, isNon, tysD, tyD, intD, intsD, seqD, lstD, methD, isMut, mutD, callD, permL, bindT, slcD, startE, ioE, runD, setID, setOB, get1D, get2D, keyD, keyR, eq_int, y_2]) ?_)
          rw [if_neg Bool.false_ne_true]
          refine ex_nil ?_
          refine ex_cons (ret_val (d := .tup (C3 ++ C1)) (env1 := [.ow o2, .im (.tup ds), .im (.int s), .im (.lst (oddD ds.length s)), .im (.int y)]) (by simp [ev, evA, evO, evC, evI, evF, exS, exB, Ms.seq, Mo.bnd, Mo.ret, Mo.lift, Mo.opd, RV.opd, Mo.set, RV.set, Mo.tst, Mo.imm, Mo.imms, Mo.nox, opds, OB.toD, atD, cmpD, binD, bltD, prepR, preps, storeR, storesR, nxOf, Mo.fl, isNon, tysD, tyD, intD, intsD, seqD, lstD, methD, isMut, mutD, callD, permL, bindT, slcD, startE, ioE, runD, setID, setOB, get1D, get2D, keyD, keyR, bt_3, hc1, hc3, l4, LIM]) ⟨some o2, rfl, _, o2, rfl, rfl, fun d hd => ?_, by simp; omega, w2.mono (by omega)⟩)
          simp only [List.mem_append] at hd
          rcases hd with hd | hd
          · exact k3 d hd
          · exact k1 d hd
  obtain ⟨r, q, e, ds', o', rfl, rfl, h1, h2, h3⟩ := main
  exact ⟨ds', o', e, h1, h2, h3⟩
end HB

set_option Elab.async false
set_option linter.all false
set_option maxRecDepth 100000
set_option maxHeartbeats 4000000
/-! HBLib7: drawn plans. -/
namespace HB
open PySem PySem.Spec PyProof.Rows L2

theorem pick_perm {α : Type} : ∀ {l : List α} {i : Nat} (h : i < l.length), (l[i] :: l.eraseIdx i).Perm l
  | x :: l, 0, _ => .refl _
  | x :: l, i + 1, h => by
    have hi : i < l.length := by simpa using h
    have ih := pick_perm (l := l) (i := i) hi
    exact (List.Perm.swap x l[i] (l.eraseIdx i)).trans (List.Perm.cons x ih)
/-- nothing, or a place ahead of k -/
def LowV (k : Nat) (d : D) : Prop := d = .non ∨ ∃ p : Nat, d = .int (p : Int) ∧ p < k
def Low (F : List D) : Prop := ∀ (j : Nat) (d : D), F[j]? = some d → LowV j d
theorem low_app {F : List D} {d : D} (h : Low F) (k : LowV F.length d) : Low (F ++ [d]) := by
  intro j e he
  by_cases hj : j < F.length
  · rw [List.getElem?_append_left hj] at he
    exact h j e he
  · rw [List.getElem?_append_right (by omega)] at he
    have hj2 : j - F.length < 1 := by have := lt_of_get he; simpa using this
    have : j = F.length := by omega
    subst this
    simp at he
    subst he
    exact k
theorem low_fine {F : List D} (h : Low F) : Fine F := by
  intro d hd
  obtain ⟨j, hj, e⟩ := List.mem_iff_getElem.mp hd
  rcases h j d (by rw [List.getElem?_eq_getElem hj, e]) with z | ⟨p, z, hp⟩
  · exact .inl z
  · exact .inr ⟨p, z, by omega⟩
theorem low_forest {F : List D} (h : Low F) (ne : F ≠ []) : isForest (.tup F) = true := by
  refine rank_forest (low_fine h) ne id (fun x hx => hx) fun x y hx e => ?_
  have g := get_par (low_fine h) hx
  rw [e] at g
  rcases h x _ g with z | ⟨p, z, hp⟩
  · cases z
  · simp only [hereD] at z
    cases z
    show y < x
    omega
def pl_e1 (i : Nat) : IE := .ite (.cmp .gt (.var 5) (.cst (.int 0))) (.idx (.lst (.cons (.cst .non) (.cons (.bin .sub (.var 5) (.cst (.int 1))) (.cons (.call i true (.cons (.var 0) (.cons (.blt .max2 (.cons (.cst (.int 1)) (.cons (.var 5) .nil))) .nil))) .nil)))) (.call i true (.cons (.var 0) (.cons (.cst (.int 3)) .nil)))) (.cst .non)
def pl_e2 (i : Nat) : IE := .idx (.lst (.cons (.bin .sub (.var 5) (.cst (.int 1))) (.cons (.blt .max2 (.cons (.cst (.int 0)) (.cons (.bin .sub (.var 5) (.cst (.int 2))) .nil))) .nil))) (.call i true (.cons (.var 0) (.cons (.cst (.int 2)) .nil)))
def pl_e3 (i : Nat) : IE := .idx (.lst (.cons (.cst (.int 0)) (.cons (.cst (.int 0)) (.cons (.cst .non) (.cons (.call i true (.cons (.var 0) (.cons (.var 5) .nil))) .nil))))) (.call i true (.cons (.var 0) (.cons (.cst (.int 4)) .nil)))
def pl_t1 (i : Nat) : List IS := [.asg 6 false (pl_e1 i), .if_ (.and (.cmp .gt (.var 5) (.cst (.int 0))) (.cmp .eq (.var 3) (.cst (.int 0)))) [.asg 6 false (pl_e2 i)] [], .if_ (.and (.cmp .gt (.var 5) (.cst (.int 0))) (.cmp .eq (.var 3) (.cst (.int 1)))) [.asg 6 false (pl_e3 i)] [], .expr (.meth .append (.var 4) (.cons (.var 6) .nil))]
def pl_t2 (i : Nat) : List IS := [.expr (.meth .append (.var 7) (.cons (.meth .popAt (.var 8) (.cons (.call i true (.cons (.var 0) (.cons (.blt .len (.cons (.var 8) .nil)) .nil))) .nil)) .nil))]
def pl_t3 : List IS := [.setI (.var 9) (.idx (.var 7) (.var 5)) (.ite (.cmp .is (.idx (.var 4) (.var 5)) (.cst .non)) (.cst .non) (.idx (.var 7) (.idx (.var 4) (.var 5))))]
def f_law_forest (i : Nat) : Df := ⟨2, 10, true, [.asg 2 false (.bin .add (.cst (.int 1)) (.call i true (.cons (.var 0) (.cons (.var 1) .nil)))), .asg 3 false (.call i true (.cons (.var 0) (.cons (.cst (.int 4)) .nil))), .asg 4 true (.lst .nil), .for_ [5] [] (.rng1 (.var 2)) (pl_t1 i), .if_ (.cmp .eq (.call i true (.cons (.var 0) (.cons (.cst (.int 3)) .nil))) (.cst (.int 0))) [.ret (.blt .tuple (.cons (.var 4) .nil))] [], .asgN [7, 8] [true, true] (.cons (.lst .nil) (.cons (.blt .listRng (.cons (.var 2) .nil)) .nil)), .for_ [5] [] (.rng1 (.var 2)) (pl_t2 i), .asg 9 true (.bin .mul (.lst (.cons (.cst .non) .nil)) (.var 2)), .for_ [5] [] (.rng1 (.var 2)) pl_t3, .ret (.blt .tuple (.cons (.var 9) .nil))]⟩
section
variable {Φ : Fn} {wn i : Nat} {n : Nat} {o : OB}
theorem one_lt (k : Nat) (hk : k ≤ 1000) : (k : Int) < 2 ^ 1000 := by
  have : (1001 : Int) < 2 ^ 1000 := by decide +kernel
  omega
theorem e1_ok (hD : DrawOk (Φ i)) (hw : Well n o) (hn : n ≤ 900000) {k : Nat} (hk : k ≤ 100) {a1 a2 a3 a4 a6 a7 a8 a9 : Sl} : ∃ v o', ev Φ (pl_e1 i) [.ow o, a1, a2, a3, a4, .im (.int (k : Int)), a6, a7, a8, a9] = some (.ok (.val v) [.ow o', a1, a2, a3, a4, .im (.int (k : Int)), a6, a7, a8, a9]) ∧ LowV k v ∧ Well (n + 2) o' := by
  by_cases h0 : 0 < k
  · obtain ⟨d, o1, e1, d0, d1, w1⟩ := hD n o (k : Int) hw (by omega) (by omega) (one_lt k (by omega))
    obtain ⟨y, o2, e2, y0, y1, w2⟩ := hD (n + 1) o1 3 w1 (by omega) (by decide) (by decide +kernel)
    have hmax : (if 1 < (k : Int) then (k : Int) else 1) = (k : Int) := by split <;> omega
    obtain ⟨x, hx, mx⟩ := at_some (ds := [.non, .int ((k : Int) - 1), .int d]) y0 (by simpa using y1)
    have h0' : (0 : Int) < (k : Int) := by omega
    refine ⟨x, o2, by simp [ev, evA, evO, evC, evI, evF, exS, exB, Ms.seq, Mo.bnd, Mo.ret, Mo.lift, Mo.opd, RV.opd, Mo.set, RV.set, Mo.tst, Mo.imm, Mo.imms, Mo.nox, opds, OB.toD, atD, cmpD, binD, bltD, prepR, preps, storeR, storesR, nxOf, Mo.fl, isNon, tysD, tyD, intD, intsD, seqD, lstD, methD, isMut, mutD, callD, permL, bindT, slcD, startE, ioE, runD, setID, setOB, get1D, get2D, keyD, keyR, pl_e1, h0', hmax, e1, e2, hx, LIM, h0], ?_, w2⟩
    simp only [List.mem_cons, List.not_mem_nil, or_false] at mx
    rcases mx with rfl | rfl | rfl
    · exact .inl rfl
    · exact .inr ⟨k - 1, by congr 1; omega, by omega⟩
    · exact .inr ⟨d.toNat, by congr 1; omega, by omega⟩
  · have : k = 0 := by omega
    subst this
    exact ⟨.non, o, by simp [ev, evA, evO, evC, evI, evF, exS, exB, Ms.seq, Mo.bnd, Mo.ret, Mo.lift, Mo.opd, RV.opd, Mo.set, RV.set, Mo.tst, Mo.imm, Mo.imms, Mo.nox, opds, OB.toD, atD, cmpD, binD, bltD, prepR, preps, storeR, storesR, nxOf, Mo.fl, isNon, tysD, tyD, intD, intsD, seqD, lstD, methD, isMut, mutD, callD, permL, bindT, slcD, startE, ioE, runD, setID, setOB, get1D, get2D, keyD, keyR, pl_e1], .inl rfl, hw.mono (by omega)⟩
theorem e2_ok (hD : DrawOk (Φ i)) (hw : Well n o) (hn : n ≤ 900000) {k : Nat} (hk : k ≤ 100) (h0 : 0 < k) {a1 a2 a3 a4 a6 a7 a8 a9 : Sl} : ∃ v o', ev Φ (pl_e2 i) [.ow o, a1, a2, a3, a4, .im (.int (k : Int)), a6, a7, a8, a9] = some (.ok (.val v) [.ow o', a1, a2, a3, a4, .im (.int (k : Int)), a6, a7, a8, a9]) ∧ LowV k v ∧ Well (n + 1) o' := by
  obtain ⟨y, o2, e2, y0, y1, w2⟩ := hD n o 2 hw (by omega) (by decide) (by decide +kernel)
  obtain ⟨x, hx, mx⟩ := at_some (ds := [.int ((k : Int) - 1), .int (if (0 : Int) < (k : Int) - 2 then (k : Int) - 2 else 0)]) y0 (by simpa using y1)
  simp at hx
  refine ⟨x, o2, by simp [ev, evA, evO, evC, evI, evF, exS, exB, Ms.seq, Mo.bnd, Mo.ret, Mo.lift, Mo.opd, RV.opd, Mo.set, RV.set, Mo.tst, Mo.imm, Mo.imms, Mo.nox, opds, OB.toD, atD, cmpD, binD, bltD, prepR, preps, storeR, storesR, nxOf, Mo.fl, isNon, tysD, tyD, intD, intsD, seqD, lstD, methD, isMut, mutD, callD, permL, bindT, slcD, startE, ioE, runD, setID, setOB, get1D, get2D, keyD, keyR, pl_e2, e2, hx, LIM], ?_, w2⟩
  simp only [List.mem_cons, List.not_mem_nil, or_false] at mx
  rcases mx with rfl | rfl
  · exact .inr ⟨k - 1, by congr 1; omega, by omega⟩
  · refine .inr ⟨k - 2, ?_, by omega⟩
    congr 1
    split <;> omega
theorem e3_ok (hD : DrawOk (Φ i)) (hw : Well n o) (hn : n ≤ 900000) {k : Nat} (hk : k ≤ 100) (h0 : 0 < k) {a1 a2 a3 a4 a6 a7 a8 a9 : Sl} : ∃ v o', ev Φ (pl_e3 i) [.ow o, a1, a2, a3, a4, .im (.int (k : Int)), a6, a7, a8, a9] = some (.ok (.val v) [.ow o', a1, a2, a3, a4, .im (.int (k : Int)), a6, a7, a8, a9]) ∧ LowV k v ∧ Well (n + 2) o' := by
  obtain ⟨d, o1, e1, d0, d1, w1⟩ := hD n o (k : Int) hw (by omega) (by omega) (one_lt k (by omega))
  obtain ⟨y, o2, e2, y0, y1, w2⟩ := hD (n + 1) o1 4 w1 (by omega) (by decide) (by decide +kernel)
  obtain ⟨x, hx, mx⟩ := at_some (ds := [.int 0, .int 0, .non, .int d]) y0 (by simpa using y1)
  refine ⟨x, o2, by simp [ev, evA, evO, evC, evI, evF, exS, exB, Ms.seq, Mo.bnd, Mo.ret, Mo.lift, Mo.opd, RV.opd, Mo.set, RV.set, Mo.tst, Mo.imm, Mo.imms, Mo.nox, opds, OB.toD, atD, cmpD, binD, bltD, prepR, preps, storeR, storesR, nxOf, Mo.fl, isNon, tysD, tyD, intD, intsD, seqD, lstD, methD, isMut, mutD, callD, permL, bindT, slcD, startE, ioE, runD, setID, setOB, get1D, get2D, keyD, keyR, pl_e3, e1, e2, hx, LIM], ?_, w2⟩
  simp only [List.mem_cons, List.not_mem_nil, or_false] at mx
  rcases mx with rfl | rfl | rfl | rfl
  · exact .inr ⟨0, rfl, h0⟩
  · exact .inr ⟨0, rfl, h0⟩
  · exact .inl rfl
  · exact .inr ⟨d.toNat, by congr 1; omega, by omega⟩
end
end HB

set_option Elab.async false
set_option linter.all false
set_option maxRecDepth 100000
set_option maxHeartbeats 4000000
/-! HBLib8: drawn plans, whole. -/
namespace HB
open PySem PySem.Spec PyProof.Rows L2

theorem erase_map {α β : Type} (f : α → β) : ∀ (l : List α) (i : Nat), (l.map f).eraseIdx i = (l.eraseIdx i).map f
  | [], _ => rfl
  | x :: l, 0 => rfl
  | x :: l, i + 1 => by
    show f x :: (l.map f).eraseIdx i = f x :: (l.eraseIdx i).map f
    rw [erase_map f l i]
section
variable {Φ : Fn} {wn i : Nat} {n : Nat} {o : OB}
theorem t1_ok (hD : DrawOk (Φ i)) (hw : Well n o) (hn : n ≤ 800000) {k : Nat} (hk : k ≤ 100) {F : List D} (hF : F.length ≤ 1000) {dm ds : D} {way : Int} {a6 : Sl} {N C Bk : Evn → Prop} {R : RV → Evn → Prop}
    (q : ∀ o' v a, LowV k v → Well (n + 5) o' → N [.ow o', .im dm, .im ds, .im (.int way), .ow (.lst (F ++ [v])), .im (.int (k : Int)), a, .un, .un, .un]) :
    GoX N C Bk R (exB Φ wn true (pl_t1 i) [.ow o, .im dm, .im ds, .im (.int way), .ow (.lst F), .im (.int (k : Int)), a6, .un, .un, .un]) := by
  obtain ⟨v, o1, e1, l1, w1⟩ := e1_ok (i := i) hD hw (by omega) hk (a1 := .im dm) (a2 := .im ds) (a3 := .im (.int way)) (a4 := .ow (.lst F)) (a6 := a6) (a7 := .un) (a8 := .un) (a9 := .un)
  have lim : F.length < LIM := by unfold LIM; omega
  have last : ∀ o' v a, LowV k v → Well (n + 5) o' → a = Sl.im v → GoX N C Bk R (exB Φ wn true [.expr (.meth .append (.var 4) (.cons (.var 6) .nil))] [.ow o', .im dm, .im ds, .im (.int way), .ow (.lst F), .im (.int (k : Int)), a, .un, .un, .un]) := fun o' v a lv w ea => by
    subst ea
    exact ex_cons (expr_go (r := .val .non) (env1 := [.ow o', .im dm, .im ds, .im (.int way), .ow (.lst (F ++ [v])), .im (.int (k : Int)), .im v, .un, .un, .un]) (by simp [ev, evA, evO, evC, evI, evF, exS, exB, Ms.seq, Mo.bnd, Mo.ret, Mo.lift, Mo.opd, RV.opd, Mo.set, RV.set, Mo.tst, Mo.imm, Mo.imms, Mo.nox, opds, OB.toD, atD, cmpD, binD, bltD, prepR, preps, storeR, storesR, nxOf, Mo.fl, isNon, tysD, tyD, intD, intsD, seqD, lstD, methD, isMut, mutD, callD, permL, bindT, slcD, startE, ioE, runD, setID, setOB, get1D, get2D, keyD, keyR, lim]) (ex_nil (q o' v _ lv w)))
  have third : ∀ m o' v, LowV k v → Well m o' → m ≤ n + 3 → GoX N C Bk R (exB Φ wn true [.if_ (.and (.cmp .gt (.var 5) (.cst (.int 0))) (.cmp .eq (.var 3) (.cst (.int 1)))) [.asg 6 false (pl_e3 i)] [], .expr (.meth .append (.var 4) (.cons (.var 6) .nil))] [.ow o', .im dm, .im ds, .im (.int way), .ow (.lst F), .im (.int (k : Int)), .im v, .un, .un, .un]) := fun m o' v lv w hm => by
    by_cases c : 0 < k ∧ way = 1
    · obtain ⟨c1, rfl⟩ := c
      obtain ⟨v3, o3, e3, l3, w3⟩ := e3_ok (i := i) hD w (by omega) hk c1 (a1 := .im dm) (a2 := .im ds) (a3 := .im (.int 1)) (a4 := .ow (.lst F)) (a6 := .im v) (a7 := .un) (a8 := .un) (a9 := .un)
      have c1' : (0 : Int) < (k : Int) := by omega
      refine ex_cons (if_go (b := true) (env1 := [.ow o', .im dm, .im ds, .im (.int 1), .ow (.lst F), .im (.int (k : Int)), .im v, .un, .un, .un]) (by simp [ev, evA, evO, evC, evI, evF, exS, exB, Ms.seq, Mo.bnd, Mo.ret, Mo.lift, Mo.opd, RV.opd, Mo.set, RV.set, Mo.tst, Mo.imm, Mo.imms, Mo.nox, opds, OB.toD, atD, cmpD, binD, bltD, prepR, preps, storeR, storesR, nxOf, Mo.fl, isNon, tysD, tyD, intD, intsD, seqD, lstD, methD, isMut, mutD, callD, permL, bindT, slcD, startE, ioE, runD, setID, setOB, get1D, get2D, keyD, keyR, eq_int, c1', c1]) ?_)
      rw [if_pos rfl]
      exact ex_cons (asg_val e3 ⟨rfl, by simp⟩ (ex_nil (last o3 v3 _ l3 (w3.mono (by omega)) rfl)))
    · refine ex_cons (if_go (b := false) (env1 := [.ow o', .im dm, .im ds, .im (.int way), .ow (.lst F), .im (.int (k : Int)), .im v, .un, .un, .un]) ?_ ?_)
      · by_cases c1 : 0 < k
        · have c2 : ¬ way = 1 := fun z => c ⟨c1, z⟩
          simp [ev, evA, evO, evC, evI, evF, exS, exB, Ms.seq, Mo.bnd, Mo.ret, Mo.lift, Mo.opd, RV.opd, Mo.set, RV.set, Mo.tst, Mo.imm, Mo.imms, Mo.nox, opds, OB.toD, atD, cmpD, binD, bltD, prepR, preps, storeR, storesR, nxOf, Mo.fl, isNon, tysD, tyD, intD, intsD, seqD, lstD, methD, isMut, mutD, callD, permL, bindT, slcD, startE, ioE, runD, setID, setOB, get1D, get2D, keyD, keyR, eq_int, c1, c2]
        · simp [ev, evA, evO, evC, evI, evF, exS, exB, Ms.seq, Mo.bnd, Mo.ret, Mo.lift, Mo.opd, RV.opd, Mo.set, RV.set, Mo.tst, Mo.imm, Mo.imms, Mo.nox, opds, OB.toD, atD, cmpD, binD, bltD, prepR, preps, storeR, storesR, nxOf, Mo.fl, isNon, tysD, tyD, intD, intsD, seqD, lstD, methD, isMut, mutD, callD, permL, bindT, slcD, startE, ioE, runD, setID, setOB, get1D, get2D, keyD, keyR, eq_int, c1]
      · rw [if_neg Bool.false_ne_true]
        exact ex_nil (last o' v _ lv (w.mono (by omega)) rfl)
  unfold pl_t1
  refine ex_cons (asg_val e1 ⟨rfl, by simp⟩ ?_)
  show GoX N C Bk R (exB Φ wn true _ [.ow o1, .im dm, .im ds, .im (.int way), .ow (.lst F), .im (.int (k : Int)), .im v, .un, .un, .un])
  by_cases c : 0 < k ∧ way = 0
  · obtain ⟨c1, rfl⟩ := c
    obtain ⟨v2, o2, e2, l2, w2⟩ := e2_ok (i := i) hD w1 (by omega) hk c1 (a1 := .im dm) (a2 := .im ds) (a3 := .im (.int 0)) (a4 := .ow (.lst F)) (a6 := .im v) (a7 := .un) (a8 := .un) (a9 := .un)
    have c1' : (0 : Int) < (k : Int) := by omega
    refine ex_cons (if_go (b := true) (env1 := [.ow o1, .im dm, .im ds, .im (.int 0), .ow (.lst F), .im (.int (k : Int)), .im v, .un, .un, .un]) (by simp [ev, evA, evO, evC, evI, evF, exS, exB, Ms.seq, Mo.bnd, Mo.ret, Mo.lift, Mo.opd, RV.opd, Mo.set, RV.set, Mo.tst, Mo.imm, Mo.imms, Mo.nox, opds, OB.toD, atD, cmpD, binD, bltD, prepR, preps, storeR, storesR, nxOf, Mo.fl, isNon, tysD, tyD, intD, intsD, seqD, lstD, methD, isMut, mutD, callD, permL, bindT, slcD, startE, ioE, runD, setID, setOB, get1D, get2D, keyD, keyR, eq_int, c1', c1]) ?_)
    rw [if_pos rfl]
    exact ex_cons (asg_val e2 ⟨rfl, by simp⟩ (ex_nil (third _ o2 v2 l2 w2 (by omega))))
  · refine ex_cons (if_go (b := false) (env1 := [.ow o1, .im dm, .im ds, .im (.int way), .ow (.lst F), .im (.int (k : Int)), .im v, .un, .un, .un]) ?_ ?_)
    · by_cases c1 : 0 < k
      · have c2 : ¬ way = 0 := fun z => c ⟨c1, z⟩
        simp [ev, evA, evO, evC, evI, evF, exS, exB, Ms.seq, Mo.bnd, Mo.ret, Mo.lift, Mo.opd, RV.opd, Mo.set, RV.set, Mo.tst, Mo.imm, Mo.imms, Mo.nox, opds, OB.toD, atD, cmpD, binD, bltD, prepR, preps, storeR, storesR, nxOf, Mo.fl, isNon, tysD, tyD, intD, intsD, seqD, lstD, methD, isMut, mutD, callD, permL, bindT, slcD, startE, ioE, runD, setID, setOB, get1D, get2D, keyD, keyR, eq_int, c1, c2]
      · simp [ev, evA, evO, evC, evI, evF, exS, exB, Ms.seq, Mo.bnd, Mo.ret, Mo.lift, Mo.opd, RV.opd, Mo.set, RV.set, Mo.tst, Mo.imm, Mo.imms, Mo.nox, opds, OB.toD, atD, cmpD, binD, bltD, prepR, preps, storeR, storesR, nxOf, Mo.fl, isNon, tysD, tyD, intD, intsD, seqD, lstD, methD, isMut, mutD, callD, permL, bindT, slcD, startE, ioE, runD, setID, setOB, get1D, get2D, keyD, keyR, eq_int, c1]
    · rw [if_neg Bool.false_ne_true]
      exact ex_nil (third _ o1 v l1 w1 (by omega))
theorem t2_ok (hD : DrawOk (Φ i)) (hw : Well n o) (hn : n ≤ 800000) {k : Nat} {A B : List Nat} (hA : A.length ≤ 1000) (hB : 0 < B.length ∧ B.length ≤ 1000) {dm ds dw : D} {F : List D} {a6 : Sl} {N C Bk : Evn → Prop} {R : RV → Evn → Prop}
    (q : ∀ (o' : OB) (z : Nat) (hz : z < B.length), Well (n + 1) o' → N [.ow o', .im dm, .im ds, .im dw, .ow (.lst F), .im (.int (k : Int)), a6, .ow (.lst (dI (A ++ [B[z]]))), .ow (.lst (dI (B.eraseIdx z))), .un]) :
    GoX N C Bk R (exB Φ wn true (pl_t2 i) [.ow o, .im dm, .im ds, .im dw, .ow (.lst F), .im (.int (k : Int)), a6, .ow (.lst (dI A)), .ow (.lst (dI B)), .un]) := by
  obtain ⟨d, o1, e1, d0, d1, w1⟩ := hD n o (B.length : Int) hw (by omega) (by omega) (one_lt _ (by omega))
  obtain ⟨z, rfl⟩ := Int.eq_ofNat_of_zero_le d0
  have hz : z < B.length := by omega
  have lB : (dI B).length = B.length := by simp [dI]
  have g : (dI B)[z]? = some (.int (B[z] : Int)) := by simp [dI, hz]
  have er : (dI B).eraseIdx z = dI (B.eraseIdx z) := erase_map _ B z
  have ap : dI A ++ [D.int (B[z] : Int)] = dI (A ++ [B[z]]) := by simp [dI]
  have lA : (dI A).length < LIM := by simp [dI, LIM]; omega
  have hz2 : (z : Int) ≤ 100000 := by omega
  unfold pl_t2
  exact ex_cons (expr_go (r := .val .non) (env1 := [.ow o1, .im dm, .im ds, .im dw, .ow (.lst F), .im (.int (k : Int)), a6, .ow (.lst (dI (A ++ [B[z]]))), .ow (.lst (dI (B.eraseIdx z))), .un]) (by simp [ev, evA, evO, evC, evI, evF, exS, exB, Ms.seq, Mo.bnd, Mo.ret, Mo.lift, Mo.opd, RV.opd, Mo.set, RV.set, Mo.tst, Mo.imm, Mo.imms, Mo.nox, opds, OB.toD, atD, cmpD, binD, bltD, prepR, preps, storeR, storesR, nxOf, Mo.fl, isNon, tysD, tyD, intD, intsD, seqD, lstD, methD, isMut, mutD, callD, permL, bindT, slcD, startE, ioE, runD, setID, setOB, get1D, get2D, keyD, keyR, lB, e1, g, er, ap, lA, hz2]) (ex_nil (q o1 z hz w1)))
/-- where a place goes -/
def img (A : List Nat) : D → D
  | .int p => .int (A.getD p.toNat 0 : Nat)
  | _ => .non
theorem t3_ok {k : Nat} {A : List Nat} {F T : List D} (hk : k < A.length) (hF : F.length = A.length) (hL : Low F) (hT : T.length = A.length) (hA : ∀ x ∈ A, x < A.length) {dm ds dw : D} {a6 a8 : Sl} {N C Bk : Evn → Prop} {R : RV → Evn → Prop}
    (q : N [.ow o, .im dm, .im ds, .im dw, .ow (.lst F), .im (.int (k : Int)), a6, .ow (.lst (dI A)), a8, .ow (.lst (T.set A[k] (img A (F[k]'(by omega)))))]) :
    GoX N C Bk R (exB Φ wn true pl_t3 [.ow o, .im dm, .im ds, .im dw, .ow (.lst F), .im (.int (k : Int)), a6, .ow (.lst (dI A)), a8, .ow (.lst T)]) := by
  have gA : L2.atI (dI A) (k : Int) = some (.int (A[k] : Int)) := by rw [atI_nat]; simp [dI, hk]
  have hkF : k < F.length := by omega
  have gF : L2.atI F (k : Int) = some (F[k]) := by rw [atI_nat]; simp [hkF]
  have hx : A[k] < T.length := by rw [hT]; exact hA _ (List.getElem_mem hk)
  have hix : ixN T.length (A[k] : Int) = some A[k] := by
    unfold ixN
    rw [if_pos (by omega), if_pos (by omega)]
    simp
  unfold pl_t3
  refine ex_cons (set_go (d := img A F[k]) (env1 := [.ow o, .im dm, .im ds, .im dw, .ow (.lst F), .im (.int (k : Int)), a6, .ow (.lst (dI A)), a8, .ow (.lst T)]) (j := 9) (env2 := [.ow o, .im dm, .im ds, .im dw, .ow (.lst F), .im (.int (k : Int)), a6, .ow (.lst (dI A)), a8, .ow (.lst T)]) (kk := (A[k] : Int)) (env3 := [.ow o, .im dm, .im ds, .im dw, .ow (.lst F), .im (.int (k : Int)), a6, .ow (.lst (dI A)), a8, .ow (.lst T)]) (ds := T) (n := A[k]) ?_ (by simp [ev, evA, evO, evC, evI, evF, exS, exB, Ms.seq, Mo.bnd, Mo.ret, Mo.lift, Mo.opd, RV.opd, Mo.set, RV.set, Mo.tst, Mo.imm, Mo.imms, Mo.nox, opds, OB.toD, atD, cmpD, binD, bltD, prepR, preps, storeR, storesR, nxOf, Mo.fl, isNon, tysD, tyD, intD, intsD, seqD, lstD, methD, isMut, mutD, callD, permL, bindT, slcD, startE, ioE, runD, setID, setOB, get1D, get2D, keyD, keyR]) (by simp [ev, evA, evO, evC, evI, evF, exS, exB, Ms.seq, Mo.bnd, Mo.ret, Mo.lift, Mo.opd, RV.opd, Mo.set, RV.set, Mo.tst, Mo.imm, Mo.imms, Mo.nox, opds, OB.toD, atD, cmpD, binD, bltD, prepR, preps, storeR, storesR, nxOf, Mo.fl, isNon, tysD, tyD, intD, intsD, seqD, lstD, methD, isMut, mutD, callD, permL, bindT, slcD, startE, ioE, runD, setID, setOB, get1D, get2D, keyD, keyR, gA]) (by simp) hix (ex_nil ?_))
  · rcases hL k F[k] (List.getElem?_eq_getElem hkF) with z | ⟨p, z, hp⟩
    · rw [z] at gF ⊢
      simp [ev, evA, evO, evC, evI, evF, exS, exB, Ms.seq, Mo.bnd, Mo.ret, Mo.lift, Mo.opd, RV.opd, Mo.set, RV.set, Mo.tst, Mo.imm, Mo.imms, Mo.nox, opds, OB.toD, atD, cmpD, binD, bltD, prepR, preps, storeR, storesR, nxOf, Mo.fl, isNon, tysD, tyD, intD, intsD, seqD, lstD, methD, isMut, mutD, callD, permL, bindT, slcD, startE, ioE, runD, setID, setOB, get1D, get2D, keyD, keyR, gF, img]
    · rw [z] at gF ⊢
      have hp2 : p < A.length := by omega
      have gp : L2.atI (dI A) (p : Int) = some (.int (A[p] : Int)) := by rw [atI_nat]; simp [dI, hp2]
      simp [ev, evA, evO, evC, evI, evF, exS, exB, Ms.seq, Mo.bnd, Mo.ret, Mo.lift, Mo.opd, RV.opd, Mo.set, RV.set, Mo.tst, Mo.imm, Mo.imms, Mo.nox, opds, OB.toD, atD, cmpD, binD, bltD, prepR, preps, storeR, storesR, nxOf, Mo.fl, isNon, tysD, tyD, intD, intsD, seqD, lstD, methD, isMut, mutD, callD, permL, bindT, slcD, startE, ioE, runD, setID, setOB, get1D, get2D, keyD, keyR, gF, img, gp, hp2]
  · exact q
end
theorem perm_forest {A : List Nat} {F T : List D} (hn : A.Nodup) (hA : ∀ x, x < A.length → x ∈ A) (hA2 : ∀ x ∈ A, x < A.length) (hF : F.length = A.length) (hT : T.length = A.length) (hL : Low F) (h0 : 0 < A.length)
    (h : ∀ (j : Nat) (hj : j < A.length), T[A[j]]? = some (img A (F[j]'(by omega)))) : Fine T ∧ isForest (.tup T) = true := by
  -- each place, by its rank
  have at_x : ∀ x, x < A.length → ∃ (j : Nat) (hj : j < A.length), A.idxOf x = j ∧ A[j] = x := fun x hx => by
    have m := hA x hx
    have l := List.idxOf_lt_length_iff.mpr m
    exact ⟨A.idxOf x, l, rfl, List.getElem_idxOf l⟩
  have val : ∀ (j : Nat) (hj : j < A.length), img A (F[j]'(by omega)) = .non ∨ ∃ (p : Nat) (hp : p < j), img A (F[j]'(by omega)) = .int (A[p]'(by omega) : Int) := fun j hj => by
    have hjF : j < F.length := by omega
    rcases hL j F[j] (List.getElem?_eq_getElem hjF) with z | ⟨p, z, hp⟩
    · rw [z]; exact .inl rfl
    · have hp2 : p < A.length := by omega
      refine .inr ⟨p, hp, ?_⟩
      simp [img, z, hp2]
  have fine : Fine T := by
    intro d hd
    obtain ⟨x, hx, e⟩ := List.mem_iff_getElem.mp hd
    obtain ⟨j, hj, _, ej⟩ := at_x x (by omega)
    have g := h j hj
    rw [ej, List.getElem?_eq_getElem hx, e] at g
    rcases val j hj with z | ⟨p, hp, z⟩
    · rw [z] at g; exact .inl (Option.some.inj g)
    · rw [z] at g
      refine .inr ⟨A[p], Option.some.inj g, ?_⟩
      rw [hT]
      exact hA2 _ (List.getElem_mem _)
  refine ⟨fine, rank_forest fine (fun z => by rw [z] at hT; simp at hT; omega) (fun x => A.idxOf x) (fun x hx => ?_) fun x y hx e => ?_⟩
  · obtain ⟨j, hj, e, _⟩ := at_x x (by omega)
    rw [e, hT]; exact hj
  · obtain ⟨j, hj, ei, ej⟩ := at_x x (by omega)
    have g := h j hj
    rw [ej, get_par fine hx, e] at g
    rcases val j hj with z | ⟨p, hp, z⟩
    · rw [z] at g; simp [hereD] at g
    · rw [z] at g
      simp only [hereD, Option.some.injEq, D.int.injEq] at g
      have : y = A[p]'(by omega) := by omega
      rw [ei, this, hn.idxOf_getElem p (by omega)]
      exact hp
section
variable {Φ : Fn} {wn i : Nat} {n : Nat} {o : OB}
theorem rep_non (S : Nat) : (List.replicate S [D.non]).flatten = List.replicate S D.non := by
  induction S with
  | zero => rfl
  | succ S ih => rw [List.replicate_succ, List.flatten_cons, ih]; rfl
theorem plan_ok (hD : DrawOk (Φ i)) (hw : Well n o) (hn : n ≤ 500000) {m : Int} (hm : 0 < m ∧ m ≤ 60) :
    ∃ ds o', runD Φ wn (f_law_forest i) (some o) [.int m] = some (.ok (.val (.tup ds)) (some o')) ∧ Fine ds ∧ ds ≠ [] ∧ ds.length ≤ 60 ∧ isForest (.tup ds) = true ∧ Well (n + 400) o' := by
  obtain ⟨d, o1, e1, d0, d1, w1⟩ := hD n o m hw (by omega) hm.1 (by
    have : (1000 : Int) < 2 ^ 1000 := by decide +kernel
    omega)
  obtain ⟨way, o2, e2, y0, y1, w2⟩ := hD (n + 1) o1 4 w1 (by omega) (by decide) (by decide +kernel)
  obtain ⟨S, hS⟩ : ∃ S : Nat, 1 + d = (S : Int) := ⟨(1 + d).toNat, by omega⟩
  have S1 : 1 ≤ S ∧ S ≤ 60 := by omega
  have hr : -100000 ≤ (S : Int) ∧ (S : Int) ≤ 100000 := by omega
  have rl : ((List.range S).map fun (k : Nat) => D.int (0 + (k : Int))).length = S := by simp
  have main : ∃ r q, runD Φ wn (f_law_forest i) (some o) [.int m] = some (.ok r q) ∧ ∃ ds o', r = .val (.tup ds) ∧ q = some o' ∧ Fine ds ∧ ds ≠ [] ∧ ds.length ≤ 60 ∧ isForest (.tup ds) = true ∧ Well (n + 400) o' := by
    refine run_go (env := [.ow o, .im (.int m), .un, .un, .un, .un, .un, .un, .un, .un]) rfl ?_
    refine ex_cons (asg_val (d := .int (S : Int)) (env1 := [.ow o1, .im (.int m), .un, .un, .un, .un, .un, .un, .un, .un]) (by simp [ev, evA, evO, evC, evI, evF, exS, exB, Ms.seq, Mo.bnd, Mo.ret, Mo.lift, Mo.opd, RV.opd, Mo.set, RV.set, Mo.tst, Mo.imm, Mo.imms, Mo.nox, opds, OB.toD, atD, cmpD, binD, bltD, prepR, preps, storeR, storesR, nxOf, Mo.fl, isNon, tysD, tyD, intD, intsD, seqD, lstD, methD, isMut, mutD, callD, permL, bindT, slcD, startE, ioE, runD, setID, setOB, get1D, get2D, keyD, keyR, e1, hS]) ⟨rfl, by simp⟩ ?_)
    refine ex_cons (asg_val (d := .int way) (env1 := [.ow o2, .im (.int m), .im (.int (S : Int)), .un, .un, .un, .un, .un, .un, .un]) (by simp [ev, evA, evO, evC, evI, evF, exS, exB, Ms.seq, Mo.bnd, Mo.ret, Mo.lift, Mo.opd, RV.opd, Mo.set, RV.set, Mo.tst, Mo.imm, Mo.imms, Mo.nox, opds, OB.toD, atD, cmpD, binD, bltD, prepR, preps, storeR, storesR, nxOf, Mo.fl, isNon, tysD, tyD, intD, intsD, seqD, lstD, methD, isMut, mutD, callD, permL, bindT, slcD, startE, ioE, runD, setID, setOB, get1D, get2D, keyD, keyR, e2]) ⟨rfl, by simp⟩ ?_)
    refine ex_cons (asg_fr (o := .lst []) (env1 := [.ow o2, .im (.int m), .im (.int (S : Int)), .im (.int way), .un, .un, .un, .un, .un, .un]) (by simp [ev, evA, evO, evC, evI, evF, exS, exB, Ms.seq, Mo.bnd, Mo.ret, Mo.lift, Mo.opd, RV.opd, Mo.set, RV.set, Mo.tst, Mo.imm, Mo.imms, Mo.nox, opds, OB.toD, atD, cmpD, binD, bltD, prepR, preps, storeR, storesR, nxOf, Mo.fl, isNon, tysD, tyD, intD, intsD, seqD, lstD, methD, isMut, mutD, callD, permL, bindT, slcD, startE, ioE, runD, setID, setOB, get1D, get2D, keyD, keyR, LIM]) ⟨rfl, by simp⟩ ?_)
    refine ex_cons (for_st (ds := (List.range S).map fun (k : Nat) => D.int (0 + (k : Int))) (env1 := [.ow o2, .im (.int m), .im (.int (S : Int)), .im (.int way), .ow (.lst []), .un, .un, .un, .un, .un]) (by simp [ev, evA, evO, evC, evI, evF, exS, exB, Ms.seq, Mo.bnd, Mo.ret, Mo.lift, Mo.opd, RV.opd, Mo.set, RV.set, Mo.tst, Mo.imm, Mo.imms, Mo.nox, opds, OB.toD, atD, cmpD, binD, bltD, prepR, preps, storeR, storesR, nxOf, Mo.fl, isNon, tysD, tyD, intD, intsD, seqD, lstD, methD, isMut, mutD, callD, permL, bindT, slcD, startE, ioE, runD, setID, setOB, get1D, get2D, keyD, keyR, hr]) ?_)
    refine for_go0 (fun k env => ∃ o' F s5 a6, env = [.ow o', .im (.int m), .im (.int (S : Int)), .im (.int way), .ow (.lst F), s5, a6, .un, .un, .un] ∧ F.length = k ∧ Low F ∧ Well (n + 1 + 1 + 5 * k) o') ⟨o2, [], _, _, rfl, rfl, fun j d h => by simp at h, w2⟩ ?_ ?_
    · rintro k d env hd ⟨o', F, s5, a6, rfl, hl, hL, w⟩
      obtain ⟨hk, rfl⟩ := rng_get hd
      refine ⟨[.ow o', .im (.int m), .im (.int (S : Int)), .im (.int way), .ow (.lst F), .im (.int (k : Int)), a6, .un, .un, .un], by simp [bindT], ?_⟩
      refine t1_ok (i := i) hD w (by omega) (by omega) (by omega) fun o3 v a lv w3 => ?_
      exact ⟨o3, F ++ [v], _, _, rfl, by simp [hl], low_app hL (by rw [hl]; exact lv), w3.mono (by omega)⟩
    · rintro env ⟨o', F, s5, a6, rfl, hl, hL, w⟩
      rw [rl] at hl w
      have neF : F ≠ [] := fun z => by rw [z] at hl; simp at hl; omega
      obtain ⟨y, o3, e3, z0, z1, w3⟩ := hD _ o' 3 w (by omega) (by decide) (by decide +kernel)
      by_cases hy : y = 0
      · subst hy
        refine ex_cons (if_go (b := true) (env1 := [.ow o3, .im (.int m), .im (.int (S : Int)), .im (.int way), .ow (.lst F), s5, a6, .un, .un, .un]) (by simp [ev, evA, evO, evC, evI, evF, exS, exB, Ms.seq, Mo.bnd, Mo.ret, Mo.lift, Mo.opd, RV.opd, Mo.set, RV.set, Mo.tst, Mo.imm, Mo.imms, Mo.nox, opds, OB.toD, atD, cmpD, binD, bltD, prepR, preps, storeR, storesR, nxOf, Mo.fl, isNon, tysD, tyD, intD, intsD, seqD, lstD, methD, isMut, mutD, callD, permL, bindT, slcD, startE, ioE, runD, setID, setOB, get1D, get2D, keyD, keyR, e3, eq_int]) ?_)
        rw [if_pos rfl]
        exact ex_cons (ret_val (d := .tup F) (env1 := [.ow o3, .im (.int m), .im (.int (S : Int)), .im (.int way), .ow (.lst F), s5, a6, .un, .un, .un]) (by simp [ev, evA, evO, evC, evI, evF, exS, exB, Ms.seq, Mo.bnd, Mo.ret, Mo.lift, Mo.opd, RV.opd, Mo.set, RV.set, Mo.tst, Mo.imm, Mo.imms, Mo.nox, opds, OB.toD, atD, cmpD, binD, bltD, prepR, preps, storeR, storesR, nxOf, Mo.fl, isNon, tysD, tyD, intD, intsD, seqD, lstD, methD, isMut, mutD, callD, permL, bindT, slcD, startE, ioE, runD, setID, setOB, get1D, get2D, keyD, keyR]) ⟨some o3, rfl, F, o3, rfl, rfl, low_fine hL, neF, by omega, low_forest hL neF, w3.mono (by omega)⟩)
      · refine ex_cons (if_go (b := false) (env1 := [.ow o3, .im (.int m), .im (.int (S : Int)), .im (.int way), .ow (.lst F), s5, a6, .un, .un, .un]) (by simp [ev, evA, evO, evC, evI, evF, exS, exB, Ms.seq, Mo.bnd, Mo.ret, Mo.lift, Mo.opd, RV.opd, Mo.set, RV.set, Mo.tst, Mo.imm, Mo.imms, Mo.nox, opds, OB.toD, atD, cmpD, binD, bltD, prepR, preps, storeR, storesR, nxOf, Mo.fl, isNon, tysD, tyD, intD, intsD, seqD, lstD, methD, isMut, mutD, callD, permL, bindT, slcD, startE, ioE, runD, setID, setOB, get1D, get2D, keyD, keyR, e3, eq_int, hy]) ?_)
        rw [if_neg Bool.false_ne_true]
        refine ex_nil ?_
        refine ex_cons ?_
        rw [exS]
        refine fl_go (a := [.fr (.lst []), .fr (.lst (dI (List.range S)))]) (e := [.ow o3, .im (.int m), .im (.int (S : Int)), .im (.int way), .ow (.lst F), s5, a6, .un, .un, .un]) (by simp [ev, evA, evO, evC, evI, evF, exS, exB, Ms.seq, Mo.bnd, Mo.ret, Mo.lift, Mo.opd, RV.opd, Mo.set, RV.set, Mo.tst, Mo.imm, Mo.imms, Mo.nox, opds, OB.toD, atD, cmpD, binD, bltD, prepR, preps, storeR, storesR, nxOf, Mo.fl, isNon, tysD, tyD, intD, intsD, seqD, lstD, methD, isMut, mutD, callD, permL, bindT, slcD, startE, ioE, runD, setID, setOB, get1D, get2D, keyD, keyR, LIM, hr, listRng_is]) ?_
        show GoX _ _ _ _ (nxOf (storesR true [7, 8] [.fr (.lst []), .fr (.lst (dI (List.range S)))] [.ow o3, .im (.int m), .im (.int (S : Int)), .im (.int way), .ow (.lst F), s5, a6, .un, .un, .un]))
        have st : storesR true [7, 8] [.fr (.lst []), .fr (.lst (dI (List.range S)))] [.ow o3, .im (.int m), .im (.int (S : Int)), .im (.int way), .ow (.lst F), s5, a6, .un, .un, .un] = some [.ow o3, .im (.int m), .im (.int (S : Int)), .im (.int way), .ow (.lst F), s5, a6, .ow (.lst (dI [])), .ow (.lst (dI (List.range S))), .un] := by simp [storesR, storeR, dI]
        rw [st]
        refine ex_cons (for_st (ds := (List.range S).map fun (k : Nat) => D.int (0 + (k : Int))) (env1 := [.ow o3, .im (.int m), .im (.int (S : Int)), .im (.int way), .ow (.lst F), s5, a6, .ow (.lst (dI [])), .ow (.lst (dI (List.range S))), .un]) (by simp [ev, evA, evO, evC, evI, evF, exS, exB, Ms.seq, Mo.bnd, Mo.ret, Mo.lift, Mo.opd, RV.opd, Mo.set, RV.set, Mo.tst, Mo.imm, Mo.imms, Mo.nox, opds, OB.toD, atD, cmpD, binD, bltD, prepR, preps, storeR, storesR, nxOf, Mo.fl, isNon, tysD, tyD, intD, intsD, seqD, lstD, methD, isMut, mutD, callD, permL, bindT, slcD, startE, ioE, runD, setID, setOB, get1D, get2D, keyD, keyR, hr]) ?_)
        refine for_go0 (fun k env => ∃ o' A B s5, env = [.ow o', .im (.int m), .im (.int (S : Int)), .im (.int way), .ow (.lst F), s5, a6, .ow (.lst (dI A)), .ow (.lst (dI B)), .un] ∧ A.length = k ∧ (A ++ B).Perm (List.range S) ∧ Well (n + 1 + 1 + 5 * S + 1 + k) o') ⟨o3, [], List.range S, _, rfl, rfl, .refl _, w3⟩ ?_ ?_
        · rintro k d env hd ⟨o', A, B, s5, rfl, hA, hp, w⟩
          obtain ⟨hk, rfl⟩ := rng_get hd
          have lp := hp.length_eq
          simp only [List.length_append, List.length_range] at lp
          refine ⟨[.ow o', .im (.int m), .im (.int (S : Int)), .im (.int way), .ow (.lst F), .im (.int (k : Int)), a6, .ow (.lst (dI A)), .ow (.lst (dI B)), .un], by simp [bindT], ?_⟩
          refine t2_ok (i := i) hD w (by omega) (by omega) ⟨by omega, by omega⟩ fun o4 z hz w4 => ?_
          refine ⟨o4, A ++ [B[z]], B.eraseIdx z, _, rfl, by simp [hA], ?_, w4.mono (by omega)⟩
          rw [List.append_assoc]
          exact (List.Perm.append_left A (pick_perm hz)).trans hp
        · rintro env ⟨o4, A, B, s5, rfl, hA, hp, w⟩
          rw [rl] at hA w
          have lp := hp.length_eq
          simp only [List.length_append, List.length_range] at lp
          have hB : B = [] := List.length_eq_zero_iff.mp (by omega)
          subst hB
          rw [List.append_nil] at hp
          have nd : A.Nodup := hp.nodup_iff.mpr List.nodup_range
          have mA : ∀ x, x < A.length → x ∈ A := fun x hx => hp.mem_iff.mpr (by simp; omega)
          have mA2 : ∀ x ∈ A, x < A.length := fun x hx => by
            have := hp.mem_iff.mp hx
            simp at this; omega
          refine ex_cons (asg_fr (o := .lst (List.replicate S D.non)) (env1 := [.ow o4, .im (.int m), .im (.int (S : Int)), .im (.int way), .ow (.lst F), s5, a6, .ow (.lst (dI A)), .ow (.lst (dI [])), .un]) (by
            have k1 : (S : Int) ≤ 100000 ∧ -100000 ≤ (S : Int) ∧ S ≤ 100000 := ⟨by omega, by omega, by omega⟩
            simp [ev, evA, evO, evC, evI, evF, exS, exB, Ms.seq, Mo.bnd, Mo.ret, Mo.lift, Mo.opd, RV.opd, Mo.set, RV.set, Mo.tst, Mo.imm, Mo.imms, Mo.nox, opds, OB.toD, atD, cmpD, binD, bltD, prepR, preps, storeR, storesR, nxOf, Mo.fl, isNon, tysD, tyD, intD, intsD, seqD, lstD, methD, isMut, mutD, callD, permL, bindT, slcD, startE, ioE, runD, setID, setOB, get1D, get2D, keyD, keyR, k1, rep_non, LIM]) ⟨rfl, by simp⟩ ?_)
          refine ex_cons (for_st (ds := (List.range S).map fun (k : Nat) => D.int (0 + (k : Int))) (env1 := [.ow o4, .im (.int m), .im (.int (S : Int)), .im (.int way), .ow (.lst F), s5, a6, .ow (.lst (dI A)), .ow (.lst (dI [])), .ow (.lst (List.replicate S D.non))]) (by simp [ev, evA, evO, evC, evI, evF, exS, exB, Ms.seq, Mo.bnd, Mo.ret, Mo.lift, Mo.opd, RV.opd, Mo.set, RV.set, Mo.tst, Mo.imm, Mo.imms, Mo.nox, opds, OB.toD, atD, cmpD, binD, bltD, prepR, preps, storeR, storesR, nxOf, Mo.fl, isNon, tysD, tyD, intD, intsD, seqD, lstD, methD, isMut, mutD, callD, permL, bindT, slcD, startE, ioE, runD, setID, setOB, get1D, get2D, keyD, keyR, hr]) ?_)
          refine for_go0 (fun k env => ∃ T s5, env = [.ow o4, .im (.int m), .im (.int (S : Int)), .im (.int way), .ow (.lst F), s5, a6, .ow (.lst (dI A)), .ow (.lst (dI [])), .ow (.lst T)] ∧ T.length = A.length ∧ ∀ (j : Nat) (hj : j < A.length), j < k → T[A[j]]? = some (img A (F[j]'(by omega)))) ⟨_, _, rfl, by simp [hA], fun j _ hj => by omega⟩ ?_ ?_
          · rintro k d env hd ⟨T, s5, rfl, hT, hj⟩
            obtain ⟨hk, rfl⟩ := rng_get hd
            have hkA : k < A.length := by omega
            refine ⟨[.ow o4, .im (.int m), .im (.int (S : Int)), .im (.int way), .ow (.lst F), .im (.int (k : Int)), a6, .ow (.lst (dI A)), .ow (.lst (dI [])), .ow (.lst T)], by simp [bindT], ?_⟩
            refine t3_ok (o := o4) hkA (by omega) hL hT mA2 ⟨_, _, rfl, by simp [hT], fun j hjA hjk => ?_⟩
            by_cases e : j = k
            · subst e
              rw [List.getElem?_set_self (by rw [hT]; exact mA2 _ (List.getElem_mem hjA))]
            · rw [List.getElem?_set_ne (fun z => e ((List.getElem_inj nd).mp z).symm)]
              exact hj j hjA (by omega)
          · rintro env ⟨T, s5, rfl, hT, hj⟩
            rw [rl] at hj
            obtain ⟨fine, ff⟩ := perm_forest nd mA mA2 (by omega) hT hL (by omega) fun j hjA => hj j hjA (by omega)
            exact ex_cons (ret_val (d := .tup T) (env1 := [.ow o4, .im (.int m), .im (.int (S : Int)), .im (.int way), .ow (.lst F), s5, a6, .ow (.lst (dI A)), .ow (.lst (dI [])), .ow (.lst T)]) (by simp [ev, evA, evO, evC, evI, evF, exS, exB, Ms.seq, Mo.bnd, Mo.ret, Mo.lift, Mo.opd, RV.opd, Mo.set, RV.set, Mo.tst, Mo.imm, Mo.imms, Mo.nox, opds, OB.toD, atD, cmpD, binD, bltD, prepR, preps, storeR, storesR, nxOf, Mo.fl, isNon, tysD, tyD, intD, intsD, seqD, lstD, methD, isMut, mutD, callD, permL, bindT, slcD, startE, ioE, runD, setID, setOB, get1D, get2D, keyD, keyR]) ⟨some o4, rfl, T, o4, rfl, rfl, fine, (fun z => by rw [z] at hT; simp at hT; omega), by omega, ff, w.mono (by omega)⟩)
  obtain ⟨r, q, e, ds, o', rfl, rfl, h⟩ := main
  exact ⟨ds, o', e, h⟩
end
end HB

set_option Elab.async false
set_option linter.all false
set_option maxRecDepth 100000
set_option maxHeartbeats 4000000
/-! HBLib9: things told to be the same; the checks; the things above. -/
namespace HB
open PySem PySem.Spec PyProof.Rows L2

/-! ### _law_same on a thing and itself -/
mutual
/-- data without dicts, of this depth at most -/
def plainD : Nat → D → Bool
  | _, .non => true
  | _, .bl _ => true
  | _, .int _ => true
  | _, .str _ => true
  | 0, _ => false
  | n + 1, .lst ds => decide (ds.length ≤ 100000) && plainDs n ds
  | n + 1, .tup ds => decide (ds.length ≤ 100000) && plainDs n ds
  | _, _ => false
def plainDs : Nat → List D → Bool
  | _, [] => true
  | n, d :: ds => plainD n d && plainDs n ds
end
theorem plainDs_mem {n : Nat} : ∀ {ds : List D}, plainDs n ds = true → ∀ d ∈ ds, plainD n d = true
  | [], _, _, h => nomatch h
  | e :: ds, h, d, hd => by
    unfold plainDs at h
    rw [Bool.and_eq_true] at h
    rcases List.mem_cons.mp hd with z | z
    · subst z; exact h.1
    · exact plainDs_mem h.2 d z
theorem plainDs_of {n : Nat} : ∀ {ds : List D}, (∀ d ∈ ds, plainD n d = true) → plainDs n ds = true
  | [], _ => rfl
  | e :: ds, h => by
    unfold plainDs
    rw [h e List.mem_cons_self, plainDs_of fun d hd => h d (List.mem_cons_of_mem _ hd)]
    rfl
theorem plain_lst {n : Nat} {ds : List D} (hl : ds.length ≤ 100000) (h : ∀ d ∈ ds, plainD n d = true) : plainD (n + 1) (.lst ds) = true := by
  simp [plainD, hl, plainDs_of h]
theorem plain_tup {n : Nat} {ds : List D} (hl : ds.length ≤ 100000) (h : ∀ d ∈ ds, plainD n d = true) : plainD (n + 1) (.tup ds) = true := by
  simp [plainD, hl, plainDs_of h]
def cp_same (i : Nat) : IE := .comp [2] [2] (.rng1 (.blt .len (.cons (.var 1) .nil))) (.yes (.not (.call i false (.cons (.idx (.var 0) (.var 2)) (.cons (.idx (.var 1) (.var 2)) .nil))))) (.var 2)
def f_same (i : Nat) : Df := ⟨2, 3, false, [.if_ (.or (.isi (.var 0) [.bool]) (.isi (.var 1) [.bool])) [.ret (.and (.isi (.var 0) [.bool]) (.and (.isi (.var 1) [.bool]) (.cmp .eq (.var 0) (.var 1))))] [], .if_ (.cmp .ne (.isi (.var 0) [.list]) (.isi (.var 1) [.list])) [.ret (.cst (.bl false))] [], .if_ (.and (.isi (.var 0) [.list, .tuple]) (.isi (.var 1) [.list, .tuple])) [.if_ (.cmp .ne (.blt .len (.cons (.var 0) .nil)) (.blt .len (.cons (.var 1) .nil))) [.ret (.cst (.bl false))] [], .ret (.cmp .eq (cp_same i) (.lst .nil))] [], .ret (.and (.cmp .eq (.var 0) (.var 1)) (.cmp .eq (.isi (.var 0) [.int]) (.isi (.var 1) [.int])))]⟩
def SameOk (φ : Option OB → List D → Option FOut) (k : Nat) : Prop := ∀ d, plainD k d = true → φ none [d, d] = some (.ok (.val (.bl true)) none)
theorem eqP_bl (a b : Bool) : eqD (.bl a) (.bl b) = some (a == b) := by cases a <;> cases b <;> rfl
theorem eqP_non : eqD .non .non = some true := rfl
theorem eq_str (x y : Str) : eqD (.str x) (.str y) = some (x == y) := rfl
theorem fm_none {α β : Type} : ∀ l : List α, (l.filterMap fun _ => (none : Option β)) = []
  | [] => rfl
  | x :: l => by simp
theorem same_seq {Φ : Fn} {wn i n : Nat} {ds : List D} {d : D} (hi : SameOk (Φ i) n) (hl : ds.length ≤ 100000) (h : plainDs n ds = true) (hd : d = .lst ds ∨ d = .tup ds) : ev Φ (cp_same i) [.im d, .im d, .un] = some (.ok (.fr (.lst [])) [.im d, .im d, .un]) := by
  have hr : -100000 ≤ (ds.length : Int) ∧ (ds.length : Int) ≤ 100000 := by omega
  have z := comp_is (Φ := Φ) (own := [2]) (t := [2]) (it := .rng1 (.blt .len (.cons (.var 1) .nil))) (c := .yes (.not (.call i false (.cons (.idx (.var 0) (.var 2)) (.cons (.idx (.var 1) (.var 2)) .nil))))) (e := .var 2) (env := [.im d, .im d, .un]) ((List.range ds.length).map fun (k : Nat) => D.int (0 + (k : Int))) (fun _ => none) (by rcases hd with rfl | rfl <;> simp [ev, evA, evO, evC, evI, evF, exS, exB, Ms.seq, Mo.bnd, Mo.ret, Mo.lift, Mo.opd, RV.opd, Mo.set, RV.set, Mo.tst, Mo.imm, Mo.imms, Mo.nox, opds, OB.toD, atD, cmpD, binD, bltD, prepR, preps, storeR, storesR, nxOf, Mo.fl, isNon, tysD, tyD, intD, intsD, seqD, lstD, methD, isMut, mutD, callD, permL, bindT, slcD, startE, ioE, runD, setID, setOB, get1D, get2D, keyD, keyR, hr]) (by simp [LIM]; omega) (by simp [unown, back]) fun e he => by
    obtain ⟨k, hk, rfl⟩ := List.mem_map.mp he
    have hk' : k < ds.length := by simpa using hk
    have g : L2.atI ds (k : Int) = some ds[k] := by rw [atI_nat, List.getElem?_eq_getElem hk']
    have q := hi ds[k] (plainDs_mem h _ (List.getElem_mem hk'))
    refine ⟨[.im d, .im d, .im (.int (0 + (k : Int)))], by simp [unown, bindT], by simp [unown], .inl ⟨rfl, ?_⟩⟩
    rcases hd with rfl | rfl <;> simp [ev, evA, evO, evC, evI, evF, exS, exB, Ms.seq, Mo.bnd, Mo.ret, Mo.lift, Mo.opd, RV.opd, Mo.set, RV.set, Mo.tst, Mo.imm, Mo.imms, Mo.nox, opds, OB.toD, atD, cmpD, binD, bltD, prepR, preps, storeR, storesR, nxOf, Mo.fl, isNon, tysD, tyD, intD, intsD, seqD, lstD, methD, isMut, mutD, callD, permL, bindT, slcD, startE, ioE, runD, setID, setOB, get1D, get2D, keyD, keyR, g, q]
  rw [fm_none] at z
  exact z
theorem same_ok {Φ : Fn} {wn i n : Nat} (hi : SameOk (Φ i) n) : SameOk (runD Φ wn (f_same i)) (n + 1) := by
  intro d hd
  have e0 : eqD (.lst []) (.lst []) = some true := rfl
  cases d with
  | non => simp [ev, evA, evO, evC, evI, evF, exS, exB, Ms.seq, Mo.bnd, Mo.ret, Mo.lift, Mo.opd, RV.opd, Mo.set, RV.set, Mo.tst, Mo.imm, Mo.imms, Mo.nox, opds, OB.toD, atD, cmpD, binD, bltD, prepR, preps, storeR, storesR, nxOf, Mo.fl, isNon, tysD, tyD, intD, intsD, seqD, lstD, methD, isMut, mutD, callD, permL, bindT, slcD, startE, ioE, runD, setID, setOB, get1D, get2D, keyD, keyR, f_same, eqP_bl, eqP_non]
  | bl b => simp [ev, evA, evO, evC, evI, evF, exS, exB, Ms.seq, Mo.bnd, Mo.ret, Mo.lift, Mo.opd, RV.opd, Mo.set, RV.set, Mo.tst, Mo.imm, Mo.imms, Mo.nox, opds, OB.toD, atD, cmpD, binD, bltD, prepR, preps, storeR, storesR, nxOf, Mo.fl, isNon, tysD, tyD, intD, intsD, seqD, lstD, methD, isMut, mutD, callD, permL, bindT, slcD, startE, ioE, runD, setID, setOB, get1D, get2D, keyD, keyR, f_same, eqP_bl]
  | int v => simp [ev, evA, evO, evC, evI, evF, exS, exB, Ms.seq, Mo.bnd, Mo.ret, Mo.lift, Mo.opd, RV.opd, Mo.set, RV.set, Mo.tst, Mo.imm, Mo.imms, Mo.nox, opds, OB.toD, atD, cmpD, binD, bltD, prepR, preps, storeR, storesR, nxOf, Mo.fl, isNon, tysD, tyD, intD, intsD, seqD, lstD, methD, isMut, mutD, callD, permL, bindT, slcD, startE, ioE, runD, setID, setOB, get1D, get2D, keyD, keyR, f_same, eqP_bl, eq_int, eq_str]
  | str x => simp [ev, evA, evO, evC, evI, evF, exS, exB, Ms.seq, Mo.bnd, Mo.ret, Mo.lift, Mo.opd, RV.opd, Mo.set, RV.set, Mo.tst, Mo.imm, Mo.imms, Mo.nox, opds, OB.toD, atD, cmpD, binD, bltD, prepR, preps, storeR, storesR, nxOf, Mo.fl, isNon, tysD, tyD, intD, intsD, seqD, lstD, methD, isMut, mutD, callD, permL, bindT, slcD, startE, ioE, runD, setID, setOB, get1D, get2D, keyD, keyR, f_same, eqP_bl, eq_int, eq_str]
  | lst ds =>
    simp only [plainD, Bool.and_eq_true, decide_eq_true_eq] at hd
    have q := same_seq (wn := wn) hi hd.1 hd.2 (.inl rfl)
    simp [ev, evA, evO, evC, evI, evF, exS, exB, Ms.seq, Mo.bnd, Mo.ret, Mo.lift, Mo.opd, RV.opd, Mo.set, RV.set, Mo.tst, Mo.imm, Mo.imms, Mo.nox, opds, OB.toD, atD, cmpD, binD, bltD, prepR, preps, storeR, storesR, nxOf, Mo.fl, isNon, tysD, tyD, intD, intsD, seqD, lstD, methD, isMut, mutD, callD, permL, bindT, slcD, startE, ioE, runD, setID, setOB, get1D, get2D, keyD, keyR, f_same, eqP_bl, eq_int, q, e0, LIM]
  | tup ds =>
    simp only [plainD, Bool.and_eq_true, decide_eq_true_eq] at hd
    have q := same_seq (wn := wn) hi hd.1 hd.2 (.inr rfl)
    simp [ev, evA, evO, evC, evI, evF, exS, exB, Ms.seq, Mo.bnd, Mo.ret, Mo.lift, Mo.opd, RV.opd, Mo.set, RV.set, Mo.tst, Mo.imm, Mo.imms, Mo.nox, opds, OB.toD, atD, cmpD, binD, bltD, prepR, preps, storeR, storesR, nxOf, Mo.fl, isNon, tysD, tyD, intD, intsD, seqD, lstD, methD, isMut, mutD, callD, permL, bindT, slcD, startE, ioE, runD, setID, setOB, get1D, get2D, keyD, keyR, f_same, eqP_bl, eq_int, q, e0, LIM]
  | frz ds => simp [plainD] at hd
  | exc c => simp [plainD] at hd
  | dK ks ds => simp [plainD] at hd
  | dT ks ds => simp [plainD] at hd
/-! ### the checks -/
/-- a forest's items -/
structure Fst (ds : List D) : Prop where
  fine : Fine ds
  ne : ds ≠ []
  few : ds.length ≤ 1000
  root : rooted ds = true
theorem Fst.is {ds : List D} (h : Fst ds) : isForest (.tup ds) = true := by
  have e : ds.isEmpty = false := by have := h.ne; cases ds <;> simp_all
  show (!ds.isEmpty && (ds.all (okE ds.length) && rooted ds)) = true
  rw [e, fine_all h.fine, h.root]
  rfl
theorem Fst.of {ds : List D} (f : Fine ds) (hl : ds.length ≤ 1000) (h : isForest (.tup ds) = true) : Fst ds := by
  have h : (!ds.isEmpty && (ds.all (okE ds.length) && rooted ds)) = true := h
  simp only [Bool.and_eq_true] at h
  exact ⟨f, by rintro rfl; simp at h, hl, h.2.2⟩
theorem fine_noFrz {ds : List D} (h : Fine ds) : ∀ e ∈ ds, noFrz e = true := fun e he => by
  rcases h e he with z | ⟨i, z, _⟩ <;> subst z <;> rfl
theorem Fst.ask {ds : List D} (h : Fst ds) : Ask (.tup ds) := ⟨rfl, fun es e => by cases e; exact ⟨h.few, fine_noFrz h.fine⟩⟩
def f_check_forest (i : Nat) : Df := ⟨1, 1, false, [.if_ (.not (.call i false (.cons (.var 0) .nil))) [.stuck] []]⟩
def f_check_thing (i : Nat) : Df := ⟨2, 2, false, [.if_ (.not (.call i false (.cons (.var 1) (.cons (.cst (.int 0)) (.cons (.bin .sub (.blt .len (.cons (.var 0) .nil)) (.cst (.int 1))) .nil))))) [.stuck] []]⟩
theorem check_forest_ok {Φ : Fn} {wn i : Nat} {ds : List D} (h : Fst ds) (hi : Φ i none [.tup ds] = some (.ok (.val (.bl (isForest (.tup ds)))) none)) : runD Φ wn (f_check_forest i) none [.tup ds] = some (.ok (.val .non) none) := by
  rw [h.is] at hi
  simp [ev, evA, evO, evC, evI, evF, exS, exB, Ms.seq, Mo.bnd, Mo.ret, Mo.lift, Mo.opd, RV.opd, Mo.set, RV.set, Mo.tst, Mo.imm, Mo.imms, Mo.nox, opds, OB.toD, atD, cmpD, binD, bltD, prepR, preps, storeR, storesR, nxOf, Mo.fl, isNon, tysD, tyD, intD, intsD, seqD, lstD, methD, isMut, mutD, callD, permL, bindT, slcD, startE, ioE, runD, setID, setOB, get1D, get2D, keyD, keyR, f_check_forest, hi]
theorem check_thing_ok {Φ : Fn} {wn i : Nat} {ds : List D} {x : Nat} (hx : x < ds.length) (hi : ∀ d lo hi, noFrz d = true → Φ i none [d, .int lo, .int hi] = some (.ok (.val (.bl (isI d lo hi))) none)) : runD Φ wn (f_check_thing i) none [.tup ds, .int (x : Int)] = some (.ok (.val .non) none) := by
  have q := hi (.int (x : Int)) 0 ((ds.length : Int) - 1) rfl
  have e : isI (.int (x : Int)) 0 ((ds.length : Int) - 1) = true := by simp [isI]; omega
  rw [e] at q
  simp [ev, evA, evO, evC, evI, evF, exS, exB, Ms.seq, Mo.bnd, Mo.ret, Mo.lift, Mo.opd, RV.opd, Mo.set, RV.set, Mo.tst, Mo.imm, Mo.imms, Mo.nox, opds, OB.toD, atD, cmpD, binD, bltD, prepR, preps, storeR, storesR, nxOf, Mo.fl, isNon, tysD, tyD, intD, intsD, seqD, lstD, methD, isMut, mutD, callD, permL, bindT, slcD, startE, ioE, runD, setID, setOB, get1D, get2D, keyD, keyR, f_check_thing, q]
/-! ### the things above -/
def upsF (ds : List D) : Nat → Option Nat → List Nat
  | 0, _ => []
  | _ + 1, none => []
  | n + 1, some y => y :: upsF ds n (par ds y)
/-- the things above y, y first -/
def upsO (ds : List D) (y : Option Nat) : List Nat := upsF ds ds.length y
def ups (ds : List D) (x : Nat) : List Nat := upsO ds (par ds x)
theorem upsF_len (ds : List D) : ∀ n y, (upsF ds n y).length ≤ n
  | 0, _ => Nat.le_refl _
  | _ + 1, none => Nat.zero_le _
  | n + 1, some y => by
    have := upsF_len ds n (par ds y)
    show (upsF ds n (par ds y)).length + 1 ≤ n + 1
    omega
theorem upsF_more {ds : List D} : ∀ n m y, upE ds n y = none → n ≤ m → upsF ds m y = upsF ds n y
  | 0, 0, _, _, _ => rfl
  | 0, m + 1, y, h, _ => by
    have h : y = none := h
    subst h
    rfl
  | n + 1, 0, _, _, h => by omega
  | n + 1, m + 1, none, _, _ => rfl
  | n + 1, m + 1, some y, h, hm => by
    rw [upE_succ] at h
    show y :: upsF ds m (par ds y) = y :: upsF ds n (par ds y)
    rw [upsF_more n m _ h (by omega)]
theorem Fst.end {ds : List D} (h : Fst ds) {x : Nat} (hx : x < ds.length) : upE ds ds.length (par ds x) = none := by
  have := h.root
  unfold rooted at this
  rw [List.all_eq_true] at this
  simpa using this x (by simpa using hx)
theorem Fst.end1 {ds : List D} (h : Fst ds) {x : Nat} (hx : x < ds.length) : upE ds ds.length (some x) = none := by
  have := h.root
  rw [rooted_same h.fine] at this
  unfold rooted2 at this
  rw [List.all_eq_true] at this
  simpa using this x (by simpa using hx)
theorem upsO_some {ds : List D} (h : Fst ds) {y : Nat} (hy : y < ds.length) : upsO ds (some y) = y :: ups ds y := by
  unfold ups upsO
  cases e : ds.length with
  | zero => omega
  | succ n =>
    show y :: upsF ds n (par ds y) = y :: upsF ds (n + 1) (par ds y)
    have z := h.end1 hy
    rw [e, upE_succ] at z
    rw [upsF_more n (n + 1) _ z (by omega)]
theorem upsO_none {ds : List D} : upsO ds none = [] := by
  unfold upsO
  cases ds.length <;> rfl
theorem ups_len {ds : List D} {x : Nat} : (ups ds x).length ≤ ds.length := upsF_len ds _ _
theorem ups_eq {ds : List D} (h : Fst ds) {x : Nat} (hx : x < ds.length) : ups ds x = match par ds x with
    | some y => y :: ups ds y
    | none => [] := by
  cases e : par ds x with
  | none => unfold ups; rw [e]; exact upsO_none
  | some y => unfold ups; rw [e]; exact upsO_some h (par_lt h.fine e)
def above_turn : List IS := [.expr (.meth .append (.var 2) (.cons (.var 3) .nil)), .asg 3 false (.idx (.var 0) (.var 3))]
def f_above_of : Df := ⟨2, 4, false, [.asg 2 true (.lst .nil), .asg 3 false (.idx (.var 0) (.var 1)), .while_ [] (.cmp .isn (.var 3) (.cst .non)) above_turn, .ret (.var 2)]⟩
def up_turn : List IS := [.asg 1 false (.idx (.var 0) (.var 1)), .expr (.meth .append (.var 2) (.cons (.var 1) .nil))]
def f_law_up : Df := ⟨2, 3, false, [.asg 2 true (.lst .nil), .while_ [] (.cmp .isn (.idx (.var 0) (.var 1)) (.cst .non)) up_turn, .ret (.var 2)]⟩
theorem dI_app (a b : List Nat) : dI (a ++ b) = dI a ++ dI b := by simp [dI]
theorem dI_len (a : List Nat) : (dI a).length = a.length := by simp [dI]
theorem at_par {ds : List D} (h : Fine ds) {x : Nat} (hx : x < ds.length) : L2.atI ds (x : Int) = some (hereD (par ds x)) := by rw [atI_nat, get_par h hx]
/-- the tuple, or the list of the same items -/
def IsRow (ds : List D) (d : D) : Prop := d = .tup ds ∨ d = .lst ds
theorem above_ok {Φ : Fn} {wn : Nat} {ds : List D} {d : D} {x : Nat} (hd : IsRow ds d) (h : Fst ds) (hx : x < ds.length) (hw : ds.length < wn) : runD Φ wn f_above_of none [d, .int (x : Int)] = some (.ok (.fr (.lst (dI (ups ds x)))) none) := by
  have at_ : ∀ {y : Nat}, y < ds.length → atD d (.int (y : Int)) = some (hereD (par ds y)) := fun {y} hy => by
    rcases hd with rfl | rfl <;> exact at_par h.fine hy
  obtain ⟨r, o, e, k1, k2⟩ := run_go (Φ := Φ) (wn := wn) (d := f_above_of) (io := none) (ds := [d, .int (x : Int)]) (env := [.im d, .im (.int (x : Int)), .un, .un]) (Q := fun r o => r = .fr (.lst (dI (ups ds x))) ∧ o = none) rfl (by
    refine ex_cons (asg_fr (o := .lst []) (env1 := [.im d, .im (.int (x : Int)), .un, .un]) (by simp [ev, evA, evO, evC, evI, evF, exS, exB, Ms.seq, Mo.bnd, Mo.ret, Mo.lift, Mo.opd, RV.opd, Mo.set, RV.set, Mo.tst, Mo.imm, Mo.imms, Mo.nox, opds, OB.toD, atD, cmpD, binD, bltD, prepR, preps, storeR, storesR, nxOf, Mo.fl, isNon, tysD, tyD, intD, intsD, seqD, lstD, methD, isMut, mutD, callD, permL, bindT, slcD, startE, ioE, runD, setID, setOB, get1D, get2D, keyD, keyR]) ⟨rfl, by simp⟩ ?_)
    refine ex_cons (asg_val (d := hereD (par ds x)) (env1 := [.im d, .im (.int (x : Int)), .ow (.lst []), .un]) (by simp only [ev, Mo.set, Mo.bnd, Mo.ret]; simp [RV.set, Mo.opd, RV.opd, Mo.lift, at_ hx]) ⟨rfl, by simp⟩ ?_)
    have inv := while_go (c := (ev Φ (.cmp .isn (.var 3) (.cst .non))).tst) (body := exB Φ wn false above_turn) (N := fun env => env = [.im d, .im (.int (x : Int)), .ow (.lst (dI (ups ds x))), .im .non]) (C := fun _ => False) (Bk := fun _ => False) (R := fun r e => ∃ o, ioE f_above_of e = some o ∧ r = .fr (.lst (dI (ups ds x))) ∧ o = none)
      (fun m env => ∃ pre y, env = [.im d, .im (.int (x : Int)), .ow (.lst (dI pre)), .im (hereD y)] ∧ pre ++ upsO ds y = ups ds x ∧ m = (upsO ds y).length ∧ ∀ z, y = some z → z < ds.length) ?_ wn (ups ds x).length _ (by have := ups_len (ds := ds) (x := x); omega) ⟨[], par ds x, rfl, rfl, rfl, fun z hz => par_lt h.fine hz⟩
    · refine ex_cons ?_
      rw [exS, fin_nil]
      refine inv.imp (fun env he => ?_) (fun _ q => q) (fun _ q => q) (fun _ _ q => q)
      subst he
      simp [ev, evA, evO, evC, evI, evF, exS, exB, Ms.seq, Mo.bnd, Mo.ret, Mo.lift, Mo.opd, RV.opd, Mo.set, RV.set, Mo.tst, Mo.imm, Mo.imms, Mo.nox, opds, OB.toD, atD, cmpD, binD, bltD, prepR, preps, storeR, storesR, nxOf, Mo.fl, isNon, tysD, tyD, intD, intsD, seqD, lstD, methD, isMut, mutD, callD, permL, bindT, slcD, startE, ioE, runD, setID, setOB, get1D, get2D, keyD, keyR, GoX, f_above_of]
    · rintro m env ⟨pre, y, rfl, hp, rfl, hy⟩
      cases y with
      | none =>
        rw [upsO_none, List.append_nil] at hp
        subst hp
        exact ⟨false, _, by simp [ev, evA, evO, evC, evI, evF, exS, exB, Ms.seq, Mo.bnd, Mo.ret, Mo.lift, Mo.opd, RV.opd, Mo.set, RV.set, Mo.tst, Mo.imm, Mo.imms, Mo.nox, opds, OB.toD, atD, cmpD, binD, bltD, prepR, preps, storeR, storesR, nxOf, Mo.fl, isNon, tysD, tyD, intD, intsD, seqD, lstD, methD, isMut, mutD, callD, permL, bindT, slcD, startE, ioE, runD, setID, setOB, get1D, get2D, keyD, keyR, hereD], .inl ⟨rfl, rfl⟩⟩
      | some y =>
        have hy' := hy y rfl
        rw [upsO_some h hy'] at hp ⊢
        have hl : pre.length < LIM := by
          have h1 := ups_len (ds := ds) (x := x)
          have h2 := h.few
          rw [← hp, List.length_append] at h1
          unfold LIM
          omega
        refine ⟨true, [.im d, .im (.int (x : Int)), .ow (.lst (dI pre)), .im (hereD (some y))], by simp [ev, evA, evO, evC, evI, evF, exS, exB, Ms.seq, Mo.bnd, Mo.ret, Mo.lift, Mo.opd, RV.opd, Mo.set, RV.set, Mo.tst, Mo.imm, Mo.imms, Mo.nox, opds, OB.toD, atD, cmpD, binD, bltD, prepR, preps, storeR, storesR, nxOf, Mo.fl, isNon, tysD, tyD, intD, intsD, seqD, lstD, methD, isMut, mutD, callD, permL, bindT, slcD, startE, ioE, runD, setID, setOB, get1D, get2D, keyD, keyR, hereD], .inr ⟨rfl, by simp, ?_⟩⟩
        refine ex_cons (expr_go (r := .val .non) (env1 := [.im d, .im (.int (x : Int)), .ow (.lst (dI (pre ++ [y]))), .im (hereD (some y))]) (by simp [ev, evA, evO, evC, evI, evF, exS, exB, Ms.seq, Mo.bnd, Mo.ret, Mo.lift, Mo.opd, RV.opd, Mo.set, RV.set, Mo.tst, Mo.imm, Mo.imms, Mo.nox, opds, OB.toD, atD, cmpD, binD, bltD, prepR, preps, storeR, storesR, nxOf, Mo.fl, isNon, tysD, tyD, intD, intsD, seqD, lstD, methD, isMut, mutD, callD, permL, bindT, slcD, startE, ioE, runD, setID, setOB, get1D, get2D, keyD, keyR, hereD, hl, dI]) ?_)
        refine ex_cons (asg_val (d := hereD (par ds y)) (env1 := [.im d, .im (.int (x : Int)), .ow (.lst (dI (pre ++ [y]))), .im (hereD (some y))]) (by simp only [ev, Mo.set, Mo.bnd, Mo.ret]; simp [RV.set, Mo.opd, RV.opd, Mo.lift, hereD, at_ hy']) ⟨rfl, by simp⟩ ?_)
        exact ex_nil ⟨pre ++ [y], par ds y, rfl, by rw [← hp]; simp [ups], by simp [ups], fun z hz => par_lt h.fine hz⟩)
  rw [e, k1, k2]
end HB

set_option Elab.async false
set_option linter.all false
set_option maxRecDepth 100000
set_option maxHeartbeats 4000000
/-! HBLib10: the law's own paths. -/
namespace HB
open PySem PySem.Spec PyProof.Rows L2

theorem law_up_ok {Φ : Fn} {wn : Nat} {ds : List D} {d : D} {x : Nat} (hd : IsRow ds d) (h : Fst ds) (hx : x < ds.length) (hw : ds.length < wn) : runD Φ wn f_law_up none [d, .int (x : Int)] = some (.ok (.fr (.lst (dI (ups ds x)))) none) := by
  have at_ : ∀ {y : Nat}, y < ds.length → atD d (.int (y : Int)) = some (hereD (par ds y)) := fun {y} hy => by
    rcases hd with rfl | rfl <;> exact at_par h.fine hy
  obtain ⟨r, o, e, k1, k2⟩ := run_go (Φ := Φ) (wn := wn) (d := f_law_up) (io := none) (ds := [d, .int (x : Int)]) (env := [.im d, .im (.int (x : Int)), .un]) (Q := fun r o => r = .fr (.lst (dI (ups ds x))) ∧ o = none) rfl (by
    refine ex_cons (asg_fr (o := .lst []) (env1 := [.im d, .im (.int (x : Int)), .un]) (by simp [ev, evA, evO, evC, evI, evF, exS, exB, Ms.seq, Mo.bnd, Mo.ret, Mo.lift, Mo.opd, RV.opd, Mo.set, RV.set, Mo.tst, Mo.imm, Mo.imms, Mo.nox, opds, OB.toD, atD, cmpD, binD, bltD, prepR, preps, storeR, storesR, nxOf, Mo.fl, isNon, tysD, tyD, intD, intsD, seqD, lstD, methD, isMut, mutD, callD, permL, bindT, slcD, startE, ioE, runD, setID, setOB, get1D, get2D, keyD, keyR]) ⟨rfl, by simp⟩ ?_)
    have inv := while_go (c := (ev Φ (.cmp .isn (.idx (.var 0) (.var 1)) (.cst .non))).tst) (body := exB Φ wn false up_turn) (N := fun env => ∃ z, env = [.im d, .im z, .ow (.lst (dI (ups ds x)))]) (C := fun _ => False) (Bk := fun _ => False) (R := fun r e => ∃ o, ioE f_law_up e = some o ∧ r = .fr (.lst (dI (ups ds x))) ∧ o = none)
      (fun m env => ∃ pre z, env = [.im d, .im (.int ((z : Nat) : Int)), .ow (.lst (dI pre))] ∧ z < ds.length ∧ pre ++ ups ds z = ups ds x ∧ m = (ups ds z).length) ?_ wn (ups ds x).length _ (by have := ups_len (ds := ds) (x := x); omega) ⟨[], x, rfl, hx, rfl, rfl⟩
    · refine ex_cons ?_
      rw [exS, fin_nil]
      refine inv.imp (fun env he => ?_) (fun _ q => q) (fun _ q => q) (fun _ _ q => q)
      obtain ⟨z, rfl⟩ := he
      simp [ev, evA, evO, evC, evI, evF, exS, exB, Ms.seq, Mo.bnd, Mo.ret, Mo.lift, Mo.opd, RV.opd, Mo.set, RV.set, Mo.tst, Mo.imm, Mo.imms, Mo.nox, opds, OB.toD, atD, cmpD, binD, bltD, prepR, preps, storeR, storesR, nxOf, Mo.fl, isNon, tysD, tyD, intD, intsD, seqD, lstD, methD, isMut, mutD, callD, permL, bindT, slcD, startE, ioE, runD, setID, setOB, get1D, get2D, keyD, keyR, GoX, f_law_up]
    · rintro m env ⟨pre, z, rfl, hz, hp, rfl⟩
      have a1 := at_ hz
      rw [ups_eq h hz] at hp ⊢
      cases e : par ds z with
      | none =>
        rw [e] at hp a1
        simp only [List.append_nil] at hp
        subst hp
        exact ⟨false, _, by simp only [ev, Mo.set, Mo.bnd, Mo.ret, Mo.tst]; simp [RV.set, Mo.opd, RV.opd, Mo.lift, a1, hereD, cmpD, isNon]; rfl, .inl ⟨rfl, _, rfl⟩⟩
      | some y =>
        rw [e] at hp a1
        have hy := par_lt h.fine e
        have hl : pre.length < LIM := by
          have h1 := ups_len (ds := ds) (x := x)
          have h2 := h.few
          rw [← hp, List.length_append] at h1
          unfold LIM
          omega
        refine ⟨true, [.im d, .im (.int (z : Int)), .ow (.lst (dI pre))], by simp only [ev, Mo.set, Mo.bnd, Mo.ret, Mo.tst]; simp [RV.set, Mo.opd, RV.opd, Mo.lift, Mo.ret, a1, hereD, cmpD, isNon], .inr ⟨rfl, by simp, ?_⟩⟩
        refine ex_cons (asg_val (d := .int (y : Int)) (env1 := [.im d, .im (.int (z : Int)), .ow (.lst (dI pre))]) (by simp only [hereD] at a1; simp only [ev, Mo.set, Mo.bnd, Mo.ret]; simp [RV.set, Mo.opd, RV.opd, Mo.lift, a1]) ⟨rfl, by simp⟩ ?_)
        refine ex_cons (expr_go (r := .val .non) (env1 := [.im d, .im (.int (y : Int)), .ow (.lst (dI (pre ++ [y])))]) (by simp [ev, evA, evO, evC, evI, evF, exS, exB, Ms.seq, Mo.bnd, Mo.ret, Mo.lift, Mo.opd, RV.opd, Mo.set, RV.set, Mo.tst, Mo.imm, Mo.imms, Mo.nox, opds, OB.toD, atD, cmpD, binD, bltD, prepR, preps, storeR, storesR, nxOf, Mo.fl, isNon, tysD, tyD, intD, intsD, seqD, lstD, methD, isMut, mutD, callD, permL, bindT, slcD, startE, ioE, runD, setID, setOB, get1D, get2D, keyD, keyR, hl, dI]) ?_)
        exact ex_nil ⟨pre ++ [y], y, rfl, hy, by rw [← hp]; simp, by simp⟩)
  rw [e, k1, k2]
/-! ### the rows of paths -/
def lus_in : List IS := [.if_ (.cmp .isn (.var 4) (.cst .non)) [.expr (.meth .append (.var 3) (.cons (.var 4) .nil)), .asg 4 false (.idx (.var 0) (.var 4))] []]
def lus_out : List IS := [.asgN [3, 4] [true, false] (.cons (.lst .nil) (.cons (.idx (.var 0) (.var 2)) .nil)), .for_ [5] [] (.rng1 (.blt .len (.cons (.var 0) .nil))) lus_in, .expr (.meth .append (.var 1) (.cons (.var 3) .nil))]
def f_law_ups : Df := ⟨1, 6, false, [.asg 1 true (.lst .nil), .for_ [2] [] (.rng1 (.blt .len (.cons (.var 0) .nil))) lus_out, .ret (.var 1)]⟩
def upsR (ds : List D) (n : Nat) : List D := (List.range n).map fun x => D.lst (dI (ups ds x))
theorem upsR_succ (ds : List D) (n : Nat) : upsR ds (n + 1) = upsR ds n ++ [.lst (dI (ups ds n))] := by simp [upsR, List.range_succ]
theorem law_ups_ok {Φ : Fn} {wn : Nat} {ds : List D} (h : Fine ds) (hl : ds.length ≤ 1000) : runD Φ wn f_law_ups none [.tup ds] = some (.ok (.fr (.lst (upsR ds ds.length))) none) := by
  have hr : -100000 ≤ (ds.length : Int) ∧ (ds.length : Int) ≤ 100000 := by omega
  obtain ⟨r, o, e, k1, k2⟩ := run_go (Φ := Φ) (wn := wn) (d := f_law_ups) (io := none) (ds := [.tup ds]) (env := [.im (.tup ds), .un, .un, .un, .un, .un]) (Q := fun r o => r = .fr (.lst (upsR ds ds.length)) ∧ o = none) rfl (by
    refine ex_cons (asg_fr (o := .lst []) (env1 := [.im (.tup ds), .un, .un, .un, .un, .un]) (by simp [ev, evA, evO, evC, evI, evF, exS, exB, Ms.seq, Mo.bnd, Mo.ret, Mo.lift, Mo.opd, RV.opd, Mo.set, RV.set, Mo.tst, Mo.imm, Mo.imms, Mo.nox, opds, OB.toD, atD, cmpD, binD, bltD, prepR, preps, storeR, storesR, nxOf, Mo.fl, isNon, tysD, tyD, intD, intsD, seqD, lstD, methD, isMut, mutD, callD, permL, bindT, slcD, startE, ioE, runD, setID, setOB, get1D, get2D, keyD, keyR]) ⟨rfl, by simp⟩ ?_)
    refine ex_cons (for_st (ds := (List.range ds.length).map fun (k : Nat) => D.int (0 + (k : Int))) (env1 := [.im (.tup ds), .ow (.lst []), .un, .un, .un, .un]) (by simp [ev, evA, evO, evC, evI, evF, exS, exB, Ms.seq, Mo.bnd, Mo.ret, Mo.lift, Mo.opd, RV.opd, Mo.set, RV.set, Mo.tst, Mo.imm, Mo.imms, Mo.nox, opds, OB.toD, atD, cmpD, binD, bltD, prepR, preps, storeR, storesR, nxOf, Mo.fl, isNon, tysD, tyD, intD, intsD, seqD, lstD, methD, isMut, mutD, callD, permL, bindT, slcD, startE, ioE, runD, setID, setOB, get1D, get2D, keyD, keyR, hr]) ?_)
    refine for_go0 (fun i env => ∃ s2 s3 s4 s5, env = [.im (.tup ds), .ow (.lst (upsR ds i)), s2, s3, s4, s5]) ⟨_, _, _, _, rfl⟩ ?_ ?_
    · rintro i d env hdi ⟨s2, s3, s4, s5, rfl⟩
      obtain ⟨hi, rfl⟩ := rng_get hdi
      refine ⟨[.im (.tup ds), .ow (.lst (upsR ds i)), .im (.int (i : Int)), s3, s4, s5], by simp [bindT], ?_⟩
      refine ex_cons ?_
      have a1 := at_par h hi
      have st : exS Φ wn false (.asgN [3, 4] [true, false] (.cons (.lst .nil) (.cons (.idx (.var 0) (.var 2)) .nil))) [.im (.tup ds), .ow (.lst (upsR ds i)), .im (.int (i : Int)), s3, s4, s5] = some (.nx [.im (.tup ds), .ow (.lst (upsR ds i)), .im (.int (i : Int)), .ow (.lst []), .im (hereD (par ds i)), s5]) := by
        simp [ev, evA, evO, evC, evI, evF, exS, exB, Ms.seq, Mo.bnd, Mo.ret, Mo.lift, Mo.opd, RV.opd, Mo.set, RV.set, Mo.tst, Mo.imm, Mo.imms, Mo.nox, opds, OB.toD, atD, cmpD, binD, bltD, prepR, preps, storeR, storesR, nxOf, Mo.fl, isNon, tysD, tyD, intD, intsD, seqD, lstD, methD, isMut, mutD, callD, permL, bindT, slcD, startE, ioE, runD, setID, setOB, get1D, get2D, keyD, keyR, a1]
      rw [show f_law_ups.io = false from rfl, st]
      refine ex_cons (for_st (ds := (List.range ds.length).map fun (k : Nat) => D.int (0 + (k : Int))) (env1 := [.im (.tup ds), .ow (.lst (upsR ds i)), .im (.int (i : Int)), .ow (.lst []), .im (hereD (par ds i)), s5]) (by simp [ev, evA, evO, evC, evI, evF, exS, exB, Ms.seq, Mo.bnd, Mo.ret, Mo.lift, Mo.opd, RV.opd, Mo.set, RV.set, Mo.tst, Mo.imm, Mo.imms, Mo.nox, opds, OB.toD, atD, cmpD, binD, bltD, prepR, preps, storeR, storesR, nxOf, Mo.fl, isNon, tysD, tyD, intD, intsD, seqD, lstD, methD, isMut, mutD, callD, permL, bindT, slcD, startE, ioE, runD, setID, setOB, get1D, get2D, keyD, keyR, hr]) ?_)
      refine for_go0 (fun j env => ∃ pre y s5, env = [.im (.tup ds), .ow (.lst (upsR ds i)), .im (.int (i : Int)), .ow (.lst (dI pre)), .im (hereD y), s5] ∧ j ≤ ds.length ∧ pre ++ upsF ds (ds.length - j) y = ups ds i ∧ ∀ z, y = some z → z < ds.length) ⟨[], par ds i, s5, rfl, Nat.zero_le _, rfl, fun z hz => par_lt h hz⟩ ?_ ?_
      · rintro j d env hdj ⟨pre, y, s5, rfl, hj, hp, hy⟩
        obtain ⟨hj2, rfl⟩ := rng_get hdj
        refine ⟨[.im (.tup ds), .ow (.lst (upsR ds i)), .im (.int (i : Int)), .ow (.lst (dI pre)), .im (hereD y), .im (.int (j : Int))], by simp [bindT], ?_⟩
        rw [show ds.length - j = ds.length - (j + 1) + 1 by omega] at hp
        cases y with
        | none =>
          refine ex_cons (if_go (b := false) (env1 := [.im (.tup ds), .ow (.lst (upsR ds i)), .im (.int (i : Int)), .ow (.lst (dI pre)), .im .non, .im (.int (j : Int))]) (by simp [ev, evA, evO, evC, evI, evF, exS, exB, Ms.seq, Mo.bnd, Mo.ret, Mo.lift, Mo.opd, RV.opd, Mo.set, RV.set, Mo.tst, Mo.imm, Mo.imms, Mo.nox, opds, OB.toD, atD, cmpD, binD, bltD, prepR, preps, storeR, storesR, nxOf, Mo.fl, isNon, tysD, tyD, intD, intsD, seqD, lstD, methD, isMut, mutD, callD, permL, bindT, slcD, startE, ioE, runD, setID, setOB, get1D, get2D, keyD, keyR, hereD]) ?_)
          rw [if_neg Bool.false_ne_true]
          exact ex_nil (ex_nil ⟨pre, none, _, rfl, by omega, by rw [← hp]; cases ds.length - (j + 1) <;> rfl, fun z hz => nomatch hz⟩)
        | some y =>
          have hy' := hy y rfl
          have a2 := at_par h hy'
          have hp : pre ++ y :: upsF ds (ds.length - (j + 1)) (par ds y) = ups ds i := hp
          have hll : pre.length < LIM := by
            have h1 := ups_len (ds := ds) (x := i)
            rw [← hp, List.length_append] at h1
            unfold LIM
            omega
          refine ex_cons (if_go (b := true) (env1 := [.im (.tup ds), .ow (.lst (upsR ds i)), .im (.int (i : Int)), .ow (.lst (dI pre)), .im (hereD (some y)), .im (.int (j : Int))]) (by simp [ev, evA, evO, evC, evI, evF, exS, exB, Ms.seq, Mo.bnd, Mo.ret, Mo.lift, Mo.opd, RV.opd, Mo.set, RV.set, Mo.tst, Mo.imm, Mo.imms, Mo.nox, opds, OB.toD, atD, cmpD, binD, bltD, prepR, preps, storeR, storesR, nxOf, Mo.fl, isNon, tysD, tyD, intD, intsD, seqD, lstD, methD, isMut, mutD, callD, permL, bindT, slcD, startE, ioE, runD, setID, setOB, get1D, get2D, keyD, keyR, hereD]) ?_)
          rw [if_pos rfl]
          refine ex_cons (expr_go (r := .val .non) (env1 := [.im (.tup ds), .ow (.lst (upsR ds i)), .im (.int (i : Int)), .ow (.lst (dI (pre ++ [y]))), .im (hereD (some y)), .im (.int (j : Int))]) (by simp [ev, evA, evO, evC, evI, evF, exS, exB, Ms.seq, Mo.bnd, Mo.ret, Mo.lift, Mo.opd, RV.opd, Mo.set, RV.set, Mo.tst, Mo.imm, Mo.imms, Mo.nox, opds, OB.toD, atD, cmpD, binD, bltD, prepR, preps, storeR, storesR, nxOf, Mo.fl, isNon, tysD, tyD, intD, intsD, seqD, lstD, methD, isMut, mutD, callD, permL, bindT, slcD, startE, ioE, runD, setID, setOB, get1D, get2D, keyD, keyR, hereD, hll, dI]) ?_)
          refine ex_cons (asg_val (d := hereD (par ds y)) (env1 := [.im (.tup ds), .ow (.lst (upsR ds i)), .im (.int (i : Int)), .ow (.lst (dI (pre ++ [y]))), .im (hereD (some y)), .im (.int (j : Int))]) (by simp [ev, evA, evO, evC, evI, evF, exS, exB, Ms.seq, Mo.bnd, Mo.ret, Mo.lift, Mo.opd, RV.opd, Mo.set, RV.set, Mo.tst, Mo.imm, Mo.imms, Mo.nox, opds, OB.toD, atD, cmpD, binD, bltD, prepR, preps, storeR, storesR, nxOf, Mo.fl, isNon, tysD, tyD, intD, intsD, seqD, lstD, methD, isMut, mutD, callD, permL, bindT, slcD, startE, ioE, runD, setID, setOB, get1D, get2D, keyD, keyR, hereD, a2]) ⟨rfl, by simp⟩ ?_)
          exact ex_nil (ex_nil ⟨pre ++ [y], par ds y, _, rfl, by omega, by rw [← hp]; simp, fun z hz => par_lt h hz⟩)
      · rintro env ⟨pre, y, s5, rfl, hj, hp, hy⟩
        simp only [List.length_map, List.length_range, Nat.sub_self] at hp
        have hp : pre ++ [] = ups ds i := hp
        rw [List.append_nil] at hp
        subst hp
        have hll : (upsR ds i).length < LIM := by simp [upsR, LIM]; omega
        refine ex_cons (expr_go (r := .val .non) (env1 := [.im (.tup ds), .ow (.lst (upsR ds (i + 1))), .im (.int (i : Int)), .im (.lst (dI (ups ds i))), .im (hereD y), s5]) (by simp [ev, evA, evO, evC, evI, evF, exS, exB, Ms.seq, Mo.bnd, Mo.ret, Mo.lift, Mo.opd, RV.opd, Mo.set, RV.set, Mo.tst, Mo.imm, Mo.imms, Mo.nox, opds, OB.toD, atD, cmpD, binD, bltD, prepR, preps, storeR, storesR, nxOf, Mo.fl, isNon, tysD, tyD, intD, intsD, seqD, lstD, methD, isMut, mutD, callD, permL, bindT, slcD, startE, ioE, runD, setID, setOB, get1D, get2D, keyD, keyR, hll, upsR_succ]) ?_)
        exact ex_nil ⟨_, _, _, _, rfl⟩
    · rintro env ⟨s2, s3, s4, s5, rfl⟩
      simp only [List.length_map, List.length_range]
      simp [ev, evA, evO, evC, evI, evF, exS, exB, Ms.seq, Mo.bnd, Mo.ret, Mo.lift, Mo.opd, RV.opd, Mo.set, RV.set, Mo.tst, Mo.imm, Mo.imms, Mo.nox, opds, OB.toD, atD, cmpD, binD, bltD, prepR, preps, storeR, storesR, nxOf, Mo.fl, isNon, tysD, tyD, intD, intsD, seqD, lstD, methD, isMut, mutD, callD, permL, bindT, slcD, startE, ioE, runD, setID, setOB, get1D, get2D, keyD, keyR, GoX, f_law_ups])
  rw [e, k1, k2]
end HB

set_option Elab.async false
set_option linter.all false
set_option maxRecDepth 100000
set_option maxHeartbeats 4000000
/-! HBLib11: two forests, one behind the other, or below a thing. -/
namespace HB
open PySem PySem.Spec PyProof.Rows L2

def shD (n : Nat) (d : D) : D := match d with
  | .int i => .int (i + (n : Int))
  | d => d
def moveD (n : Nat) (es : List D) : List D := es.map (shD n)
def cp_moved : IE := .comp [2] [2] (.seq (.var 0)) .no (.ite (.cmp .is (.var 2) (.cst .non)) (.cst .non) (.bin .add (.var 2) (.var 1)))
def f_moved : Df := ⟨2, 3, false, [.ret (.blt .tuple (.cons cp_moved .nil))]⟩
theorem moved_ok {Φ : Fn} {wn n : Nat} {es : List D} (h : Fine es) (hl : es.length ≤ 1000) : runD Φ wn f_moved none [.tup es, .int (n : Int)] = some (.ok (.val (.tup (moveD n es))) none) := by
  have cp : ev Φ cp_moved [.im (.tup es), .im (.int (n : Int)), .un] = some (.ok (.fr (.lst (moveD n es))) [.im (.tup es), .im (.int (n : Int)), .un]) := by
    unfold moveD
    rw [← fm_map]
    refine comp_is es _ (by simp [ev, evA, evO, evC, evI, evF, exS, exB, Ms.seq, Mo.bnd, Mo.ret, Mo.lift, Mo.opd, RV.opd, Mo.set, RV.set, Mo.tst, Mo.imm, Mo.imms, Mo.nox, opds, OB.toD, atD, cmpD, binD, bltD, prepR, preps, storeR, storesR, nxOf, Mo.fl, isNon, tysD, tyD, intD, intsD, seqD, lstD, methD, isMut, mutD, callD, permL, bindT, slcD, startE, ioE, runD, setID, setOB, get1D, get2D, keyD, keyR]) (by unfold LIM; omega) (by simp [unown, back]) fun d hd => ⟨[.im (.tup es), .im (.int (n : Int)), .im d], by simp [unown, bindT], by simp [unown], .inr ⟨_, rfl, by simp [ev, evA, evO, evC, evI, evF, exS, exB, Ms.seq, Mo.bnd, Mo.ret, Mo.lift, Mo.opd, RV.opd, Mo.set, RV.set, Mo.tst, Mo.imm, Mo.imms, Mo.nox, opds, OB.toD, atD, cmpD, binD, bltD, prepR, preps, storeR, storesR, nxOf, Mo.fl, isNon, tysD, tyD, intD, intsD, seqD, lstD, methD, isMut, mutD, callD, permL, bindT, slcD, startE, ioE, runD, setID, setOB, get1D, get2D, keyD, keyR], ?_⟩⟩
    rcases h d hd with z | ⟨i, z, _⟩ <;> subst z <;> simp [ev, evA, evO, evC, evI, evF, exS, exB, Ms.seq, Mo.bnd, Mo.ret, Mo.lift, Mo.opd, RV.opd, Mo.set, RV.set, Mo.tst, Mo.imm, Mo.imms, Mo.nox, opds, OB.toD, atD, cmpD, binD, bltD, prepR, preps, storeR, storesR, nxOf, Mo.fl, isNon, tysD, tyD, intD, intsD, seqD, lstD, methD, isMut, mutD, callD, permL, bindT, slcD, startE, ioE, runD, setID, setOB, get1D, get2D, keyD, keyR, shD]
  simp [ev, evA, evO, evC, evI, evF, exS, exB, Ms.seq, Mo.bnd, Mo.ret, Mo.lift, Mo.opd, RV.opd, Mo.set, RV.set, Mo.tst, Mo.imm, Mo.imms, Mo.nox, opds, OB.toD, atD, cmpD, binD, bltD, prepR, preps, storeR, storesR, nxOf, Mo.fl, isNon, tysD, tyD, intD, intsD, seqD, lstD, methD, isMut, mutD, callD, permL, bindT, slcD, startE, ioE, runD, setID, setOB, get1D, get2D, keyD, keyR, f_moved, cp]
/-! beside -/
def f_beside (ic im : Nat) : Df := ⟨2, 2, false, [.expr (.call ic false (.cons (.var 0) .nil)), .expr (.call ic false (.cons (.var 1) .nil)), .ret (.bin .add (.var 0) (.call im false (.cons (.var 1) (.cons (.blt .len (.cons (.var 0) .nil)) .nil))))]⟩
theorem move_len (n : Nat) (es : List D) : (moveD n es).length = es.length := by simp [moveD]
theorem beside_ok {Φ : Fn} {wn ic im : Nat} {ds es : List D} (h : Fst ds) (k : Fst es) (hc : ∀ ds, Fst ds → Φ ic none [.tup ds] = some (.ok (.val .non) none)) (hm : ∀ n es, Fine es → es.length ≤ 1000 → Φ im none [.tup es, .int ((n : Nat) : Int)] = some (.ok (.val (.tup (moveD n es))) none)) :
    runD Φ wn (f_beside ic im) none [.tup ds, .tup es] = some (.ok (.val (.tup (ds ++ moveD ds.length es))) none) := by
  have h1 := hc ds h
  have h2 := hc es k
  have h3 := hm ds.length es k.fine k.few
  have hl : ds.length + es.length ≤ 100000 := by have := h.few; have := k.few; omega
  simp [ev, evA, evO, evC, evI, evF, exS, exB, Ms.seq, Mo.bnd, Mo.ret, Mo.lift, Mo.opd, RV.opd, Mo.set, RV.set, Mo.tst, Mo.imm, Mo.imms, Mo.nox, opds, OB.toD, atD, cmpD, binD, bltD, prepR, preps, storeR, storesR, nxOf, Mo.fl, isNon, tysD, tyD, intD, intsD, seqD, lstD, methD, isMut, mutD, callD, permL, bindT, slcD, startE, ioE, runD, setID, setOB, get1D, get2D, keyD, keyR, f_beside, h1, h2, h3, LIM, move_len, hl]
/-! grafted -/
def graD (x : Nat) (d : D) : D := match d with
  | .non => .int (x : Int)
  | d => d
def graft (n x : Nat) (es : List D) : List D := (moveD n es).map (graD x)
def cp_graft (im : Nat) : IE := .comp [4] [4] (.seq (.call im false (.cons (.var 2) (.cons (.blt .len (.cons (.var 0) .nil)) .nil)))) .no (.ite (.cmp .is (.var 4) (.cst .non)) (.var 1) (.var 4))
def f_grafted (ic it im : Nat) : Df := ⟨3, 5, false, [.expr (.call ic false (.cons (.var 0) .nil)), .expr (.call it false (.cons (.var 0) (.cons (.var 1) .nil))), .expr (.call ic false (.cons (.var 2) .nil)), .asg 3 false (cp_graft im), .ret (.tup (.star (.var 0) (.star (.var 3) .nil)))]⟩
theorem opds_vals (env : Evn) : ∀ ds : List D, Mo.imms (ds.map RV.val) env = some (.ok ds env)
  | [] => rfl
  | d :: ds => by
    have := opds_vals env ds
    simp [Mo.imms, Mo.imm, Mo.bnd, Mo.ret, this]
theorem imms_vals (env : Evn) (ds es : List D) : Mo.imms (ds.map RV.val ++ es.map RV.val) env = some (.ok (ds ++ es) env) := by
  rw [← List.map_append]
  exact opds_vals env _
theorem grafted_ok {Φ : Fn} {wn ic it im x : Nat} {ds es : List D} (h : Fst ds) (k : Fst es) (hx : x < ds.length) (hc : ∀ ds, Fst ds → Φ ic none [.tup ds] = some (.ok (.val .non) none)) (ht : ∀ ds x, Fst ds → x < ds.length → Φ it none [.tup ds, .int ((x : Nat) : Int)] = some (.ok (.val .non) none))
    (hm : ∀ n es, Fine es → es.length ≤ 1000 → Φ im none [.tup es, .int ((n : Nat) : Int)] = some (.ok (.val (.tup (moveD n es))) none)) :
    runD Φ wn (f_grafted ic it im) none [.tup ds, .int (x : Int), .tup es] = some (.ok (.val (.tup (ds ++ graft ds.length x es))) none) := by
  have h1 := hc ds h
  have h2 := hc es k
  have h3 := hm ds.length es k.fine k.few
  have h4 := ht ds x h hx
  have hl : ds.length + es.length ≤ 100000 := by have := h.few; have := k.few; omega
  have cp : ev Φ (cp_graft im) [.im (.tup ds), .im (.int (x : Int)), .im (.tup es), .un, .un] = some (.ok (.fr (.lst (graft ds.length x es))) [.im (.tup ds), .im (.int (x : Int)), .im (.tup es), .un, .un]) := by
    unfold graft
    rw [← fm_map]
    refine comp_is (moveD ds.length es) _ (by simp [ev, evA, evO, evC, evI, evF, exS, exB, Ms.seq, Mo.bnd, Mo.ret, Mo.lift, Mo.opd, RV.opd, Mo.set, RV.set, Mo.tst, Mo.imm, Mo.imms, Mo.nox, opds, OB.toD, atD, cmpD, binD, bltD, prepR, preps, storeR, storesR, nxOf, Mo.fl, isNon, tysD, tyD, intD, intsD, seqD, lstD, methD, isMut, mutD, callD, permL, bindT, slcD, startE, ioE, runD, setID, setOB, get1D, get2D, keyD, keyR, h3]) (by rw [move_len]; have := k.few; unfold LIM; omega) (by simp [unown, back]) fun d hd => ⟨[.im (.tup ds), .im (.int (x : Int)), .im (.tup es), .un, .im d], by simp [unown, bindT], by simp [unown], .inr ⟨_, rfl, by simp [ev, evA, evO, evC, evI, evF, exS, exB, Ms.seq, Mo.bnd, Mo.ret, Mo.lift, Mo.opd, RV.opd, Mo.set, RV.set, Mo.tst, Mo.imm, Mo.imms, Mo.nox, opds, OB.toD, atD, cmpD, binD, bltD, prepR, preps, storeR, storesR, nxOf, Mo.fl, isNon, tysD, tyD, intD, intsD, seqD, lstD, methD, isMut, mutD, callD, permL, bindT, slcD, startE, ioE, runD, setID, setOB, get1D, get2D, keyD, keyR], ?_⟩⟩
    obtain ⟨e, he, rfl⟩ := List.mem_map.mp hd
    rcases k.fine e he with z | ⟨i, z, _⟩ <;> subst z <;> simp [ev, evA, evO, evC, evI, evF, exS, exB, Ms.seq, Mo.bnd, Mo.ret, Mo.lift, Mo.opd, RV.opd, Mo.set, RV.set, Mo.tst, Mo.imm, Mo.imms, Mo.nox, opds, OB.toD, atD, cmpD, binD, bltD, prepR, preps, storeR, storesR, nxOf, Mo.fl, isNon, tysD, tyD, intD, intsD, seqD, lstD, methD, isMut, mutD, callD, permL, bindT, slcD, startE, ioE, runD, setID, setOB, get1D, get2D, keyD, keyR, shD, graD]
  have hg : (graft ds.length x es).length = es.length := by simp [graft, move_len]
  have im2 := fun env => imms_vals env ds (graft ds.length x es)
  simp [ev, evA, evO, evC, evI, evF, exS, exB, Ms.seq, Mo.bnd, Mo.ret, Mo.lift, Mo.opd, RV.opd, Mo.set, RV.set, Mo.tst, Mo.imm, Mo.imms, Mo.nox, opds, OB.toD, atD, cmpD, binD, bltD, prepR, preps, storeR, storesR, nxOf, Mo.fl, isNon, tysD, tyD, intD, intsD, seqD, lstD, methD, isMut, mutD, callD, permL, bindT, slcD, startE, ioE, runD, setID, setOB, get1D, get2D, keyD, keyR, f_grafted, h1, h2, h4, cp, LIM, hg, hl] at im2 ⊢
  simp [im2, hg, hl, Mo.ret]
/-! ### the paths in them -/
theorem par_l {ds gs : List D} {x : Nat} (hx : x < ds.length) : par (ds ++ gs) x = par ds x := by
  unfold par
  rw [List.getElem?_append_left hx]
theorem par_r {ds gs : List D} {x : Nat} : par (ds ++ gs) (ds.length + x) = par gs x := by
  unfold par
  rw [List.getElem?_append_right (by omega), Nat.add_sub_cancel_left]
theorem par_gra {es : List D} (h : Fine es) {n p x : Nat} : par (graft n p es) x = if x < es.length then some (match par es x with
    | some y => n + y
    | none => p) else none := by
  unfold par graft moveD
  rw [List.map_map, List.getElem?_map]
  by_cases hx : x < es.length
  · rw [if_pos hx, List.getElem?_eq_getElem hx]
    rcases h es[x] (List.getElem_mem hx) with z | ⟨i, z, _⟩ <;> rw [z]
    · simp [shD, graD, parD]
    · show some (((i : Int) + (n : Int)).toNat) = some (n + (i : Int).toNat)
      congr 1
      omega
  · rw [if_neg hx, List.getElem?_eq_none (by omega)]
    rfl
theorem par_mov {es : List D} (h : Fine es) {n x : Nat} : par (moveD n es) x = (par es x).map (n + ·) := by
  unfold par moveD
  rw [List.getElem?_map]
  by_cases hx : x < es.length
  · rw [List.getElem?_eq_getElem hx]
    rcases h es[x] (List.getElem_mem hx) with z | ⟨i, z, _⟩ <;> rw [z]
    · simp [shD, parD]
    · simp [shD, parD]; omega
  · rw [List.getElem?_eq_none (by omega)]
    rfl
theorem upsF_l {ds gs : List D} (h : Fine ds) : ∀ m y, (∀ z, y = some z → z < ds.length) → upsF (ds ++ gs) m y = upsF ds m y
  | 0, _, _ => rfl
  | _ + 1, none, _ => rfl
  | m + 1, some y, hy => by
    show y :: upsF (ds ++ gs) m (par (ds ++ gs) y) = y :: upsF ds m (par ds y)
    rw [par_l (hy y rfl), upsF_l h m _ fun z hz => par_lt h hz]
theorem upsF_mov {ds es : List D} (k : Fine es) : ∀ m y, upsF (ds ++ moveD ds.length es) m (y.map (ds.length + ·)) = (upsF es m y).map (ds.length + ·)
  | 0, _ => rfl
  | _ + 1, none => rfl
  | m + 1, some y => by
    show (ds.length + y) :: upsF (ds ++ moveD ds.length es) m (par (ds ++ moveD ds.length es) (ds.length + y)) = (ds.length + y) :: (upsF es m (par es y)).map (ds.length + ·)
    rw [par_r, par_mov k, upsF_mov k m]
theorem ups_l {ds gs : List D} (h : Fst ds) {x : Nat} (hx : x < ds.length) : ups (ds ++ gs) x = ups ds x := by
  unfold ups upsO
  rw [par_l hx, upsF_l h.fine _ _ fun z hz => par_lt h.fine hz]
  exact upsF_more _ _ _ (h.end hx) (by simp)
theorem ups_mov {ds es : List D} (k : Fst es) {x : Nat} (hx : x < es.length) : ups (ds ++ moveD ds.length es) (ds.length + x) = (ups es x).map (ds.length + ·) := by
  unfold ups upsO
  rw [par_r, par_mov k.fine, upsF_mov k.fine, upsF_more _ _ _ (k.end hx) (by simp [move_len])]
/-- below p: the path of p behind -/
theorem upsF_gra {ds es : List D} (h : Fst ds) (k : Fine es) {p : Nat} (hp : p < ds.length) : ∀ m y, upE es m y = none → (∀ z, y = some z → z < es.length) → ∀ j, upsF (ds ++ graft ds.length p es) (m + (ds.length + 1) + j) (some (match y with
    | some y => ds.length + y
    | none => p)) = (upsF es m y).map (ds.length + ·) ++ p :: ups ds p
  | m, none, _, _, j => by
    have e : upsF es m none = [] := by cases m <;> rfl
    rw [e]
    show upsF (ds ++ graft ds.length p es) (m + (ds.length + 1) + j) (some p) = p :: ups ds p
    rw [show m + (ds.length + 1) + j = (m + ds.length + j) + 1 by omega]
    show p :: upsF (ds ++ graft ds.length p es) (m + ds.length + j) (par (ds ++ graft ds.length p es) p) = p :: ups ds p
    rw [par_l hp, upsF_l h.fine _ _ fun z hz => par_lt h.fine hz, upsF_more ds.length _ _ (h.end hp) (by omega)]
    rfl
  | 0, some y, hu, _, _ => nomatch hu
  | m + 1, some y, hu, hy, j => by
    rw [upE_succ] at hu
    have hy' := hy y rfl
    rw [show m + 1 + (ds.length + 1) + j = (m + (ds.length + 1) + j) + 1 by omega]
    show (ds.length + y) :: upsF (ds ++ graft ds.length p es) (m + (ds.length + 1) + j) (par (ds ++ graft ds.length p es) (ds.length + y)) = (ds.length + y) :: ((upsF es m (par es y)).map (ds.length + ·) ++ p :: ups ds p)
    rw [par_r, par_gra k, if_pos hy']
    exact congrArg _ (upsF_gra h k hp m _ hu (fun z hz => par_lt k hz) j)
end HB

set_option Elab.async false
set_option linter.all false
set_option maxRecDepth 100000
set_option maxHeartbeats 4000000
/-! HBLib12: dict comprehensions by their rows; forests with other names. -/
namespace HB
open PySem PySem.Spec PyProof.Rows L2

theorem hasK_not {ks : List Key} {k : Key} (h : k ∉ ks) : hasK ks k = false := by
  unfold hasK
  rw [List.any_eq_false]
  intro q hq z
  exact h (by have := of_decide_eq_true z; rwa [← this])
theorem dcGo_is {step : D → Mo (Option (Key × D))} (P : Evn → Prop) (f : D → Key × D) : ∀ (ds : List D) (ks : List Key) (ys : List D) (env : Evn), P env → (ks ++ ds.map fun d => (f d).1).Nodup → ks.length + ds.length ≤ LIM →
    (∀ d ∈ ds, ∀ env, P env → ∃ e1, step d env = some (.ok (some (f d)) e1) ∧ P e1) → ∃ e1, P e1 ∧ dcGo step ds ks ys env = some (.ok (ks ++ ds.map (fun d => (f d).1), ys ++ ds.map fun d => (f d).2) e1)
  | [], ks, ys, env, hp, _, _, _ => ⟨env, hp, by simp [dcGo, Mo.ret]⟩
  | d :: ds, ks, ys, env, hp, hn, hl, hs => by
    obtain ⟨e1, h1, h2⟩ := hs d List.mem_cons_self env hp
    rw [List.map_cons] at hn
    have hk : (f d).1 ∉ ks := fun z => by
      rw [List.nodup_append] at hn
      exact hn.2.2 _ z _ List.mem_cons_self rfl
    have e : ks ++ (f d).1 :: ds.map (fun d => (f d).1) = (ks ++ [(f d).1]) ++ ds.map fun d => (f d).1 := by simp
    rw [e] at hn
    obtain ⟨e2, p2, h3⟩ := dcGo_is P f ds (ks ++ [(f d).1]) (ys ++ [(f d).2]) e1 h2 hn (by simp at hl ⊢; omega) fun d hd => hs d (List.mem_cons_of_mem _ hd)
    refine ⟨e2, p2, ?_⟩
    unfold dcGo Mo.bnd
    rw [h1]
    have hll : ks.length < LIM := by simp at hl; omega
    simp only [if_pos hll]
    have q1 : putKs ks (f d).1 = ks ++ [(f d).1] := by unfold putKs; rw [hasK_not hk]; rfl
    have q2 : putX ks ys (f d).1 (f d).2 = ys ++ [(f d).2] := by unfold putX; rw [hasK_not hk]; rfl
    rw [q1, q2, h3]
    simp
theorem dcomp_is {Φ : Fn} {own t : List Nat} {it : II} {c : IO} {k e : IE} {env : Evn} (ds : List D) (f : D → Key × D) (hi : evI Φ it env = some (.ok ds env)) (hl : ds.length ≤ LIM) (hn : (ds.map fun d => (f d).1).Nodup) (hb : back env own (unown own env) = env)
    (h : ∀ d ∈ ds, ∃ e1 q, bindT t d (unown own env) = some e1 ∧ unown own e1 = unown own env ∧ evC Φ c e1 = some (.ok true e1) ∧ (ev Φ k).set e1 = some (.ok (.val q) e1) ∧ keyD q = some (f d).1 ∧ (ev Φ e).set e1 = some (.ok (.val (f d).2) e1)) :
    ev Φ (.dcomp own t it c k e) env = some (.ok (.fr (.dK (ds.map fun d => (f d).1) (ds.map fun d => (f d).2))) env) := by
  obtain ⟨e1, p1, z⟩ := dcGo_is (step := dStep own t (evC Φ c) (ev Φ k).set (ev Φ e).set) (fun e1 => unown own e1 = unown own env) f ds [] [] env rfl (by simpa using hn) (by simpa using hl) fun d hd env' he => by
    obtain ⟨e1, q, h1, h2, h3, h4, h5, h6⟩ := h d hd
    refine ⟨e1, ?_, h2⟩
    unfold dStep
    rw [he]
    simp only [h1]
    simp [Mo.bnd, h3, h4, h6, Mo.imm, Mo.ret, keyR, h5]
  rw [ev]
  unfold Mo.bnd
  rw [hi]
  show (match dcGo (dStep own t (evC Φ c) (ev Φ k).set (ev Φ e).set) ds [] [] env with
    | some (Out.ok (ks, ys) env') => some (Out.ok (RV.fr (.dK ks ys)) (back env own (unown own env')))
    | some (Out.ex _ _) => none
    | none => none) = _
  rw [z]
  simp only [List.nil_append]
  rw [p1, hb]
/-! ### places in a row -/
def idxO (L : List Nat) (y : Nat) : Option Nat := L.findIdx? fun z => decide (z = y)
theorem idxO_get {L : List Nat} {y j : Nat} (h : idxO L y = some j) : L[j]? = some y := by
  unfold idxO at h
  rw [List.findIdx?_eq_some_iff_getElem] at h
  obtain ⟨hl, h1, _⟩ := h
  rw [List.getElem?_eq_getElem hl, of_decide_eq_true h1]
theorem idxO_none {L : List Nat} {y : Nat} : idxO L y = none ↔ y ∉ L := by
  unfold idxO
  rw [List.findIdx?_eq_none_iff]
  constructor
  · intro h hy
    simpa using h y hy
  · intro h z hz
    simp
    rintro rfl
    exact h hz
theorem idxO_mem {L : List Nat} {y : Nat} (h : y ∈ L) : ∃ j, idxO L y = some j ∧ j < L.length := by
  cases e : idxO L y with
  | none => exact (idxO_none.mp e h).elim
  | some j => exact ⟨j, rfl, lt_of_get (idxO_get e)⟩
theorem idxO_at {L : List Nat} (hn : L.Nodup) {j : Nat} (hj : j < L.length) : idxO L L[j] = some j := by
  unfold idxO
  rw [List.findIdx?_eq_some_iff_getElem]
  refine ⟨hj, by simp, fun i hi => ?_⟩
  have := List.pairwise_iff_getElem.mp hn i j (by omega) hj hi
  simpa using this
theorem at_idx (L : List Nat) (y : Nat) : ∀ (s : Nat), atK (L.map fun (t : Nat) => (.inl (t : Int) : Key)) ((List.range' s L.length).map fun (k : Nat) => D.int (k : Int)) (.inl (y : Int)) = (idxO L y).map fun j => D.int ((s + j : Nat) : Int) := by
  induction L with
  | nil => intro s; rfl
  | cons x L ih =>
    intro s
    rw [List.length_cons, List.range'_succ, List.map_cons, List.map_cons, atK_cons, ih (s + 1)]
    unfold idxO
    rw [List.findIdx?_cons]
    by_cases h : x = y
    · subst h; simp
    · have h' : ¬ ((.inl (x : Int) : Key) = .inl (y : Int)) := fun z => h (by injection z with z; omega)
      rw [if_neg h']
      simp [h]
      cases L.findIdx? fun z => decide (z = y) with
      | none => rfl
      | some j => simp; omega
end HB

set_option Elab.async false
set_option linter.all false
set_option maxRecDepth 100000
set_option maxHeartbeats 4000000
/-! HBLib13: a forest's part with new numbers. -/
namespace HB
open PySem PySem.Spec PyProof.Rows L2

def itK : D → Key × D
  | .tup [a, .int i] => (.inl i, a)
  | _ => (.inl 0, .non)
def enR (s : Nat) (L : List Nat) : List D := ((List.range' s L.length).zip (dI L)).map fun p => D.tup [.int (p.1 : Int), p.2]
theorem enR_cons (s x : Nat) (L : List Nat) : enR s (x :: L) = .tup [.int (s : Int), .int (x : Int)] :: enR (s + 1) L := by
  unfold enR
  rw [List.length_cons, List.range'_succ]
  rfl
theorem enR_fst : ∀ (L : List Nat) (s : Nat), (enR s L).map (fun d => (itK d).1) = L.map fun (t : Nat) => (.inl (t : Int) : Key)
  | [], _ => rfl
  | x :: L, s => by rw [enR_cons, List.map_cons, List.map_cons, enR_fst L (s + 1)]; rfl
theorem enR_snd : ∀ (L : List Nat) (s : Nat), (enR s L).map (fun d => (itK d).2) = (List.range' s L.length).map fun (k : Nat) => D.int (k : Int)
  | [], _ => rfl
  | x :: L, s => by rw [enR_cons, List.map_cons, List.length_cons, List.range'_succ, List.map_cons, enR_snd L (s + 1)]; rfl
theorem enR_mem : ∀ {L : List Nat} {s : Nat} {d : D}, d ∈ enR s L → ∃ i x : Nat, d = .tup [.int (i : Int), .int (x : Int)]
  | [], _, _, h => nomatch h
  | x :: L, s, d, h => by
    rw [enR_cons] at h
    rcases List.mem_cons.mp h with e | h
    · exact ⟨s, x, e⟩
    · exact enR_mem h
theorem inl_nodup {L : List Nat} (h : L.Nodup) : (L.map fun (t : Nat) => (.inl (t : Int) : Key)).Nodup := by
  unfold List.Nodup at *
  rw [List.pairwise_map]
  exact h.imp fun {a b} hab z => hab (by injection z with z; omega)
/-- the rows of numbers to things -/
def numD (L : List Nat) : OB := .dK (L.map fun (t : Nat) => (.inl (t : Int) : Key)) ((List.range' 0 L.length).map fun (k : Nat) => D.int (k : Int))
def dc_ren : IE := .dcomp [3, 4] [3, 4] (.enum (.var 1)) .no (.var 4) (.var 3)
def cp_ren : IE := .comp [4] [4] (.seq (.var 1)) .no (.get1 (.var 2) (.idx (.var 0) (.var 4)))
def f_renamed : Df := ⟨2, 5, false, [.asg 2 false dc_ren, .ret (.blt .tuple (.cons cp_ren .nil))]⟩
def ren (ls : List D) (L : List Nat) : List D := L.map fun t => hereD ((par ls t).bind (idxO L))
theorem dc_ren_is {Φ : Fn} {d s2 s3 s4 : D ⊕ Unit} {L : List Nat} (hl : L.length ≤ 1000) (hn : L.Nodup) (dd : D) : ev Φ dc_ren [.im dd, .im (.lst (dI L)), .un, .un, .un] = some (.ok (.fr (numD L)) [.im dd, .im (.lst (dI L)), .un, .un, .un]) := by
  have z := dcomp_is (Φ := Φ) (own := [3, 4]) (t := [3, 4]) (it := .enum (.var 1)) (c := .no) (k := .var 4) (e := .var 3) (env := [.im dd, .im (.lst (dI L)), .un, .un, .un]) (enR 0 L) itK
    (by simp [ev, evA, evO, evC, evI, evF, exS, exB, Ms.seq, Mo.bnd, Mo.ret, Mo.lift, Mo.opd, RV.opd, Mo.set, RV.set, Mo.tst, Mo.imm, Mo.imms, Mo.nox, opds, OB.toD, atD, cmpD, binD, bltD, prepR, preps, storeR, storesR, nxOf, Mo.fl, isNon, tysD, tyD, intD, intsD, seqD, lstD, methD, isMut, mutD, callD, permL, bindT, slcD, startE, ioE, runD, setID, setOB, get1D, get2D, keyD, keyR, enR, List.range_eq_range', dI_len]) (by simp [enR, dI_len, LIM]; omega) (by rw [enR_fst]; exact inl_nodup hn) (by simp [unown, back]) fun d hd => by
      obtain ⟨i, x, rfl⟩ := enR_mem hd
      exact ⟨[.im dd, .im (.lst (dI L)), .un, .im (.int (i : Int)), .im (.int (x : Int))], .int (x : Int), by simp [unown, bindT], by simp [unown], by simp [ev, evA, evO, evC, evI, evF, exS, exB, Ms.seq, Mo.bnd, Mo.ret, Mo.lift, Mo.opd, RV.opd, Mo.set, RV.set, Mo.tst, Mo.imm, Mo.imms, Mo.nox, opds, OB.toD, atD, cmpD, binD, bltD, prepR, preps, storeR, storesR, nxOf, Mo.fl, isNon, tysD, tyD, intD, intsD, seqD, lstD, methD, isMut, mutD, callD, permL, bindT, slcD, startE, ioE, runD, setID, setOB, get1D, get2D, keyD, keyR], by simp [ev, evA, evO, evC, evI, evF, exS, exB, Ms.seq, Mo.bnd, Mo.ret, Mo.lift, Mo.opd, RV.opd, Mo.set, RV.set, Mo.tst, Mo.imm, Mo.imms, Mo.nox, opds, OB.toD, atD, cmpD, binD, bltD, prepR, preps, storeR, storesR, nxOf, Mo.fl, isNon, tysD, tyD, intD, intsD, seqD, lstD, methD, isMut, mutD, callD, permL, bindT, slcD, startE, ioE, runD, setID, setOB, get1D, get2D, keyD, keyR], rfl, by simp [ev, evA, evO, evC, evI, evF, exS, exB, Ms.seq, Mo.bnd, Mo.ret, Mo.lift, Mo.opd, RV.opd, Mo.set, RV.set, Mo.tst, Mo.imm, Mo.imms, Mo.nox, opds, OB.toD, atD, cmpD, binD, bltD, prepR, preps, storeR, storesR, nxOf, Mo.fl, isNon, tysD, tyD, intD, intsD, seqD, lstD, methD, isMut, mutD, callD, permL, bindT, slcD, startE, ioE, runD, setID, setOB, get1D, get2D, keyD, keyR, itK]⟩
  rw [enR_fst, enR_snd] at z
  exact z
theorem get_num (L : List Nat) (y : Option Nat) : get1D (numD L).toD (hereD y) = some (hereD (y.bind (idxO L))) := by
  cases y with
  | none => rfl
  | some y =>
    have q := at_idx L y 0
    simp only [Nat.zero_add] at q
    show some ((atK _ _ (.inl (y : Int))).getD D.non) = _
    rw [q]
    show some (((idxO L y).map fun (j : Nat) => D.int (j : Int)).getD D.non) = some (hereD (idxO L y))
    cases idxO L y <;> rfl
theorem renamed_ok {Φ : Fn} {wn : Nat} {ls : List D} {d : D} {L : List Nat} (hd : IsRow ls d) (h : Fine ls) (hl : L.length ≤ 1000) (hn : L.Nodup) (hb : ∀ t ∈ L, t < ls.length) : runD Φ wn f_renamed none [d, .lst (dI L)] = some (.ok (.val (.tup (ren ls L))) none) := by
  have at_ : ∀ {y : Nat}, y < ls.length → atD d (.int (y : Int)) = some (hereD (par ls y)) := fun {y} hy => by
    rcases hd with rfl | rfl <;> exact at_par h hy
  have e1 := dc_ren_is (Φ := Φ) (d := .inr ()) (s2 := .inr ()) (s3 := .inr ()) (s4 := .inr ()) hl hn d
  have cp : ev Φ cp_ren [.im d, .im (.lst (dI L)), .im (numD L).toD, .un, .un] = some (.ok (.fr (.lst (ren ls L))) [.im d, .im (.lst (dI L)), .im (numD L).toD, .un, .un]) := by
    have z := comp_is (Φ := Φ) (own := [4]) (t := [4]) (it := .seq (.var 1)) (c := .no) (e := .get1 (.var 2) (.idx (.var 0) (.var 4))) (env := [.im d, .im (.lst (dI L)), .im (numD L).toD, .un, .un]) (dI L) (fun e => some (hereD ((par ls (natOf e)).bind (idxO L)))) (by simp [ev, evA, evO, evC, evI, evF, exS, exB, Ms.seq, Mo.bnd, Mo.ret, Mo.lift, Mo.opd, RV.opd, Mo.set, RV.set, Mo.tst, Mo.imm, Mo.imms, Mo.nox, opds, OB.toD, atD, cmpD, binD, bltD, prepR, preps, storeR, storesR, nxOf, Mo.fl, isNon, tysD, tyD, intD, intsD, seqD, lstD, methD, isMut, mutD, callD, permL, bindT, slcD, startE, ioE, runD, setID, setOB, get1D, get2D, keyD, keyR]) (by rw [dI_len]; unfold LIM; omega) (by simp [unown, back]) fun e he => by
      obtain ⟨x, hx, rfl⟩ := List.mem_map.mp he
      refine ⟨[.im d, .im (.lst (dI L)), .im (numD L).toD, .un, .im (.int (x : Int))], by simp [unown, bindT], by simp [unown], .inr ⟨_, rfl, by simp [ev, evA, evO, evC, evI, evF, exS, exB, Ms.seq, Mo.bnd, Mo.ret, Mo.lift, Mo.opd, RV.opd, Mo.set, RV.set, Mo.tst, Mo.imm, Mo.imms, Mo.nox, opds, OB.toD, atD, cmpD, binD, bltD, prepR, preps, storeR, storesR, nxOf, Mo.fl, isNon, tysD, tyD, intD, intsD, seqD, lstD, methD, isMut, mutD, callD, permL, bindT, slcD, startE, ioE, runD, setID, setOB, get1D, get2D, keyD, keyR], ?_⟩⟩
      have a := at_ (hb x hx)
      have g := get_num L (par ls x)
      have q : natOf (.int (x : Int)) = x := by simp [natOf]
      rw [q]
      generalize hX : (numD L).toD = M at g ⊢
      have hM : ∃ ks ys, M = .dK ks ys := ⟨_, _, hX.symm⟩
      obtain ⟨ks, ys, rfl⟩ := hM
      simp only [ev, Mo.set, Mo.bnd, Mo.ret]
      simp [RV.set, Mo.opd, RV.opd, Mo.lift, a, g, Mo.ret, Mo.bnd]
    rw [fm_map] at z
    have e : (dI L).map (fun e => hereD ((par ls (natOf e)).bind (idxO L))) = ren ls L := by
      unfold dI ren
      rw [List.map_map]
      apply List.map_congr_left
      intro t _
      simp [natOf]
    rw [e] at z
    exact z
  obtain ⟨r, o, e, k1, k2⟩ := run_go (Φ := Φ) (wn := wn) (d := f_renamed) (io := none) (ds := [d, .lst (dI L)]) (env := [.im d, .im (.lst (dI L)), .un, .un, .un]) (Q := fun r o => r = .val (.tup (ren ls L)) ∧ o = none) rfl (by
    refine ex_cons (asg_fi e1 ⟨rfl, by simp⟩ ?_)
    refine ex_cons (ret_val (d := .tup (ren ls L)) (env1 := [.im d, .im (.lst (dI L)), .im (numD L).toD, .un, .un]) (by
      have cp' := cp
      generalize (numD L).toD = M at cp' ⊢
      simp only [ev, evA, Mo.set, Mo.bnd, Mo.ret]
      simp [List.set, cp', RV.set, OB.toD, opds, RV.opd, bltD, Mo.lift]) ⟨none, rfl, rfl, rfl⟩))
  rw [e, k1, k2]
end HB

set_option Elab.async false
set_option linter.all false
set_option maxRecDepth 100000
set_option maxHeartbeats 4000000
/-! HBLib14: the paths of a part with new numbers; a thing lifted out. -/
namespace HB
open PySem PySem.Spec PyProof.Rows L2

theorem par_ren {ls : List D} {L : List Nat} {k : Nat} (hk : k < L.length) : par (ren ls L) k = (par ls L[k]).bind (idxO L) := by
  unfold ren
  show ((L.map fun t => hereD ((par ls t).bind (idxO L)))[k]?).bind parD = _
  rw [List.getElem?_map, List.getElem?_eq_getElem hk]
  show parD (hereD ((par ls L[k]).bind (idxO L))) = _
  cases (par ls L[k]).bind (idxO L) with
  | none => rfl
  | some j => simp [hereD, parD]
theorem ren_len (ls : List D) (L : List Nat) : (ren ls L).length = L.length := by simp [ren]
theorem ren_fine (ls : List D) (L : List Nat) : Fine (ren ls L) := by
  intro d hd
  obtain ⟨t, _, rfl⟩ := List.mem_map.mp hd
  rw [ren_len]
  cases e : (par ls t).bind (idxO L) with
  | none => exact .inl rfl
  | some j =>
    obtain ⟨y, _, e2⟩ := Option.bind_eq_some_iff.mp e
    exact .inr ⟨j, rfl, lt_of_get (idxO_get e2)⟩
theorem upsF_ren {ls : List D} {L : List Nat} : ∀ m y, upsF (ren ls L) m (y.bind (idxO L)) = ((upsF ls m y).takeWhile fun z => decide (z ∈ L)).map fun z => (idxO L z).getD 0
  | 0, _ => rfl
  | _ + 1, none => rfl
  | m + 1, some y => by
    by_cases hy : y ∈ L
    · obtain ⟨j, hj, hl⟩ := idxO_mem hy
      have e : (some y).bind (idxO L) = some j := hj
      rw [e]
      show j :: upsF (ren ls L) m (par (ren ls L) j) = ((y :: upsF ls m (par ls y)).takeWhile fun z => decide (z ∈ L)).map fun z => (idxO L z).getD 0
      have g : L[j] = y := by
        have := idxO_get hj
        rw [List.getElem?_eq_getElem hl] at this
        exact Option.some.inj this
      rw [par_ren hl, g, upsF_ren m, List.takeWhile_cons_of_pos (by simpa using hy), List.map_cons, hj]
      rfl
    · have e : (some y).bind (idxO L) = none := idxO_none.mpr hy
      rw [e]
      show [] = ((y :: upsF ls m (par ls y)).takeWhile fun z => decide (z ∈ L)).map fun z => (idxO L z).getD 0
      rw [List.takeWhile_cons_of_neg (by simpa using hy)]
      rfl
theorem upE_ren {ls : List D} {L : List Nat} : ∀ m y j, upE (ren ls L) m (y.bind (idxO L)) = some j → ∃ z, upE ls m y = some z ∧ idxO L z = some j
  | 0, y, j, h => by
    obtain ⟨z, h1, h2⟩ := Option.bind_eq_some_iff.mp (show y.bind (idxO L) = some j from h)
    exact ⟨z, h1, h2⟩
  | m + 1, y, j, h => by
    obtain ⟨i, h1, h2⟩ := Option.bind_eq_some_iff.mp (show (upE (ren ls L) m (y.bind (idxO L))).bind (par (ren ls L)) = some j from h)
    obtain ⟨z, h3, h4⟩ := upE_ren m y i h1
    have hl := lt_of_get (idxO_get h4)
    have g : L[i] = z := by
      have := idxO_get h4
      rw [List.getElem?_eq_getElem hl] at this
      exact Option.some.inj this
    rw [par_ren hl, g] at h2
    obtain ⟨w, h5, h6⟩ := Option.bind_eq_some_iff.mp h2
    exact ⟨w, by show (upE ls m y).bind (par ls) = some w; rw [h3]; exact h5, h6⟩
theorem ren_fst {ls : List D} {L : List Nat} (h : Fst ls) (hn : L.Nodup) (hb : ∀ t ∈ L, t < ls.length) (ne : L ≠ []) (hl : L.length ≤ 1000) : Fst (ren ls L) := by
  refine ⟨ren_fine ls L, by cases L <;> simp_all [ren], by rw [ren_len]; exact hl, ?_⟩
  rw [rooted_same (ren_fine ls L)]
  unfold rooted2
  rw [List.all_eq_true]
  intro k hk
  have hk : k < L.length := by simpa [ren_len] using hk
  cases e : upE (ren ls L) (ren ls L).length (some k) with
  | none => rfl
  | some v =>
    exfalso
    have := long_path (ren_fine ls L) (by rw [ren_len]; exact hk) e ls.length
    apply this
    cases e2 : upE (ren ls L) ls.length (some k) with
    | none => rfl
    | some w =>
      exfalso
      have q : (some L[k]).bind (idxO L) = some k := idxO_at hn hk
      rw [← q] at e2
      obtain ⟨z, h1, _⟩ := upE_ren _ _ _ e2
      rw [h.end1 (hb _ (List.getElem_mem hk))] at h1
      cases h1
theorem ups_ren {ls : List D} {L : List Nat} (h : Fst ls) (hn : L.Nodup) (hb : ∀ t ∈ L, t < ls.length) (hl : L.length ≤ 1000) {k : Nat} (hk : k < L.length) : ups (ren ls L) k = ((ups ls L[k]).takeWhile fun z => decide (z ∈ L)).map fun z => (idxO L z).getD 0 := by
  have ne : L ≠ [] := by rintro rfl; simp at hk
  have F := ren_fst h hn hb ne hl
  have e1 : upsF (ren ls L) (ls.length + L.length) (par (ren ls L) k) = ups (ren ls L) k := upsF_more _ _ _ (F.end (by rw [ren_len]; exact hk)) (by rw [ren_len]; omega)
  have e2 : upsF ls (ls.length + L.length) (par ls L[k]) = ups ls L[k] := upsF_more _ _ _ (h.end (hb _ (List.getElem_mem hk))) (by omega)
  rw [← e1, par_ren hk, upsF_ren, e2]
/-! ### ranks -/
theorem ups_lt {ds : List D} (h : Fst ds) {x : Nat} (hx : x < ds.length) : (ups ds x).length < ds.length := by
  have e := h.end1 hx
  cases hn : ds.length with
  | zero => omega
  | succ n =>
    rw [hn, upE_succ] at e
    unfold ups upsO
    rw [hn, upsF_more n (n + 1) _ e (by omega)]
    have := upsF_len ds n (par ds x)
    omega
theorem ups_mem {ds : List D} (h : Fst ds) : ∀ (n x : Nat), (ups ds x).length ≤ n → x < ds.length → ∀ y ∈ ups ds x, y < ds.length ∧ (ups ds y).length < (ups ds x).length ∧ ∀ z ∈ ups ds y, z ∈ ups ds x
  | n, x, hn, hx, y, hy => by
    rw [ups_eq h hx] at hn hy ⊢
    cases e : par ds x with
    | none => rw [e] at hy; simp at hy
    | some w =>
      rw [e] at hn hy
      simp only at hn hy ⊢
      have hw := par_lt h.fine e
      rcases List.mem_cons.mp hy with rfl | hy
      · exact ⟨hw, by simp, fun z hz => List.mem_cons_of_mem _ hz⟩
      · cases n with
        | zero => simp at hn
        | succ n =>
          obtain ⟨h1, h2, h3⟩ := ups_mem h n w (by simpa using hn) hw y hy
          exact ⟨h1, by simp; omega, fun z hz => List.mem_cons_of_mem _ (h3 z hz)⟩
theorem ups_not {ds : List D} (h : Fst ds) {x : Nat} (hx : x < ds.length) : x ∉ ups ds x := fun z => by
  have := (ups_mem h _ x (Nat.le_refl _) hx x z).2.1
  omega
end HB

set_option Elab.async false
set_option linter.all false
set_option maxRecDepth 100000
set_option maxHeartbeats 4000000
/-! HBLib15: a thing lifted out of a forest; part, without. -/
namespace HB
open PySem PySem.Spec PyProof.Rows L2

/-- what x held hangs where x hung -/
def liftO (ds : List D) (x : Nat) (y : Option Nat) : Option Nat := if y = some x then par ds x else y
def lift (ds : List D) (x : Nat) : List D := (List.range ds.length).map fun k => hereD (liftO ds x (par ds k))
theorem lift_len (ds : List D) (x : Nat) : (lift ds x).length = ds.length := by simp [lift]
theorem par_lift {ds : List D} {x k : Nat} (hk : k < ds.length) : par (lift ds x) k = liftO ds x (par ds k) := by
  unfold lift
  show (((List.range ds.length).map fun k => hereD (liftO ds x (par ds k)))[k]?).bind parD = _
  rw [List.getElem?_map, List.getElem?_range hk]
  show parD (hereD (liftO ds x (par ds k))) = _
  cases liftO ds x (par ds k) with
  | none => rfl
  | some j => simp [hereD, parD]
theorem lift_lt {ds : List D} (h : Fine ds) {x y : Nat} {o : Option Nat} (ho : ∀ z, o = some z → z < ds.length) (e : liftO ds x o = some y) : y < ds.length := by
  unfold liftO at e
  split at e
  · exact par_lt h e
  · exact ho y e
theorem lift_fine {ds : List D} (h : Fine ds) (x : Nat) : Fine (lift ds x) := by
  intro d hd
  obtain ⟨k, _, rfl⟩ := List.mem_map.mp hd
  rw [lift_len]
  cases e : liftO ds x (par ds k) with
  | none => exact .inl rfl
  | some j => exact .inr ⟨j, rfl, lift_lt h (fun z hz => par_lt h hz) e⟩
theorem ups_par {ds : List D} (h : Fst ds) {x y : Nat} (hx : x < ds.length) (e : par ds x = some y) : y ∈ ups ds x := by
  rw [ups_eq h hx, e]
  exact List.mem_cons_self
theorem lift_fst {ds : List D} (h : Fst ds) {x : Nat} (hx : x < ds.length) : Fst (lift ds x) := by
  refine Fst.of (lift_fine h.fine x) (by rw [lift_len]; exact h.few) (rank_forest (lift_fine h.fine x) (by intro z; have := lift_len ds x; rw [z] at this; simp at this; omega) (fun k => (ups ds k).length) (fun k hk => ?_) fun k y hk e => ?_)
  · rw [lift_len] at hk ⊢
    exact ups_lt h hk
  · rw [lift_len] at hk
    rw [par_lift hk] at e
    unfold liftO at e
    split at e
    · rename_i q
      have m1 := (ups_mem h _ k (Nat.le_refl _) hk x (ups_par h hk q)).2.1
      have m2 := (ups_mem h _ x (Nat.le_refl _) hx y (ups_par h hx e)).2.1
      show (ups ds y).length < (ups ds k).length
      omega
    · exact (ups_mem h _ k (Nat.le_refl _) hk y (ups_par h hk e)).2.1
theorem ups_lift {ds : List D} (h : Fst ds) {x : Nat} (hx : x < ds.length) : ∀ n k, (ups ds k).length ≤ n → k < ds.length → ups (lift ds x) k = (ups ds k).filter fun z => decide (z ≠ x)
  | n, k, hn, hk => by
    have F := lift_fst h hx
    have nx := ups_not h hx
    have keep : (ups ds x).filter (fun z => decide (z ≠ x)) = ups ds x := by
      rw [List.filter_eq_self]
      intro z hz
      simp
      rintro rfl
      exact nx hz
    rw [ups_eq F (by rw [lift_len]; exact hk), ups_eq h hk, par_lift hk]
    cases e : par ds k with
    | none => simp [liftO]
    | some y =>
      have hy := par_lt h.fine e
      have lt1 := (ups_mem h _ k (Nat.le_refl _) hk y (ups_par h hk e)).2.1
      cases n with
      | zero => omega
      | succ n =>
        by_cases hyx : y = x
        · subst hyx
          have e1 : liftO ds y (some y) = par ds y := by simp [liftO]
          rw [e1]
          show _ = (y :: ups ds y).filter _
          rw [List.filter_cons_of_neg (by simp), keep, ups_eq h hy]
          cases e2 : par ds y with
          | none => rfl
          | some w =>
            have hw := par_lt h.fine e2
            have lt2 := (ups_mem h _ y (Nat.le_refl _) hy w (ups_par h hy e2)).2.1
            show w :: ups (lift ds y) w = w :: ups ds w
            rw [ups_lift h hx n w (by omega) hw, List.filter_eq_self.mpr]
            intro z hz
            simp
            rintro rfl
            exact nx ((ups_mem h _ z (Nat.le_refl _) hy w (ups_par h hy e2)).2.2 z hz)
        · have e1 : liftO ds x (some y) = some y := by simp [liftO, hyx]
          rw [e1]
          show y :: ups (lift ds x) y = (y :: ups ds y).filter _
          rw [List.filter_cons_of_pos (by simpa using hyx), ups_lift h hx n y (by omega) hy]
end HB

set_option Elab.async false
set_option linter.all false
set_option maxRecDepth 100000
set_option maxHeartbeats 4000000
/-! HBLib16: part, without. -/
namespace HB
open PySem PySem.Spec PyProof.Rows L2

theorem eq_non_int (i : Int) : eqD .non (.int i) = some false := rfl
def AboveOk (φ : Option OB → List D → Option FOut) : Prop := ∀ (ds : List D) (d : D) (x : Nat), IsRow ds d → Fst ds → x < ds.length → φ none [d, .int (x : Int)] = some (.ok (.fr (.lst (dI (ups ds x)))) none)
def CkF (φ : Option OB → List D → Option FOut) : Prop := ∀ ds, Fst ds → φ none [.tup ds] = some (.ok (.val .non) none)
def CkT (φ : Option OB → List D → Option FOut) : Prop := ∀ ds (x : Nat), Fst ds → x < ds.length → φ none [.tup ds, .int (x : Int)] = some (.ok (.val .non) none)
def RenOk (φ : Option OB → List D → Option FOut) : Prop := ∀ (ls : List D) (d : D) (L : List Nat), IsRow ls d → Fine ls → L.length ≤ 1000 → L.Nodup → (∀ t ∈ L, t < ls.length) → φ none [d, .lst (dI L)] = some (.ok (.val (.tup (ren ls L))) none)
def partL (ds : List D) (x : Nat) : List Nat := (List.range ds.length).filter fun k => decide (k = x) || decide (x ∈ ups ds k)
def withL (ds : List D) (x : Nat) : List Nat := (List.range ds.length).filter fun k => !decide (k = x)
theorem filter_len {n : Nat} (p : Nat → Bool) : ((List.range n).filter p).length ≤ n := by
  have := List.length_filter_le p (List.range n)
  simpa using this
theorem filter_nd {n : Nat} (p : Nat → Bool) : ((List.range n).filter p).Nodup := List.Pairwise.filter p List.nodup_range
theorem filter_lt {n : Nat} {p : Nat → Bool} {t : Nat} (h : t ∈ (List.range n).filter p) : t < n := by simpa using (List.mem_filter.mp h).1
theorem rng_dI (n : Nat) : ((List.range n).map fun (k : Nat) => D.int (0 + (k : Int))) = dI (List.range n) := by simp [dI]
def cp_part (ia : Nat) : IE := .comp [3] [3] (.rng1 (.blt .len (.cons (.var 0) .nil))) (.yes (.or (.cmp .eq (.var 3) (.var 1)) (.cmp .mem (.var 1) (.call ia false (.cons (.var 0) (.cons (.var 3) .nil)))))) (.var 3)
theorem part_row {Φ : Fn} {ia : Nat} {ds : List D} {x : Nat} (h : Fst ds) (ha : AboveOk (Φ ia)) {s2 s3 : Sl} {rest : Evn} : ev Φ (cp_part ia) (.im (.tup ds) :: .im (.int (x : Int)) :: s2 :: s3 :: rest) = some (.ok (.fr (.lst (dI (partL ds x)))) (.im (.tup ds) :: .im (.int (x : Int)) :: s2 :: s3 :: rest)) := by
  have hl := h.few
  have hr : -100000 ≤ (ds.length : Int) ∧ (ds.length : Int) ≤ 100000 := by omega
  unfold partL
  rw [dI_filter]
  refine comp_is (dI (List.range ds.length)) _ (by simp [ev, evA, evO, evC, evI, evF, exS, exB, Ms.seq, Mo.bnd, Mo.ret, Mo.lift, Mo.opd, RV.opd, Mo.set, RV.set, Mo.tst, Mo.imm, Mo.imms, Mo.nox, opds, OB.toD, atD, cmpD, binD, bltD, prepR, preps, storeR, storesR, nxOf, Mo.fl, isNon, tysD, tyD, intD, intsD, seqD, lstD, methD, isMut, mutD, callD, permL, bindT, slcD, startE, ioE, runD, setID, setOB, get1D, get2D, keyD, keyR, hr, dI]) (by unfold LIM; rw [dI_len]; simp; omega) (by simp [unown, back]) fun d hd => ?_
  obtain ⟨k, hk, rfl⟩ := List.mem_map.mp hd
  have hk' : k < ds.length := by simpa using hk
  refine ⟨.im (.tup ds) :: .im (.int (x : Int)) :: s2 :: .im (.int (k : Int)) :: rest, by simp [unown, bindT], by simp [unown], ?_⟩
  have a := ha ds (.tup ds) k (.inl rfl) h hk'
  have m := mem_dI x (ups ds k)
  have q : natOf (.int (k : Int)) = k := by simp [natOf]
  rw [q]
  by_cases e : k = x
  · subst e
    refine .inr ⟨.int (k : Int), by simp, ?_, by simp [ev, evA, evO, evC, evI, evF, exS, exB, Ms.seq, Mo.bnd, Mo.ret, Mo.lift, Mo.opd, RV.opd, Mo.set, RV.set, Mo.tst, Mo.imm, Mo.imms, Mo.nox, opds, OB.toD, atD, cmpD, binD, bltD, prepR, preps, storeR, storesR, nxOf, Mo.fl, isNon, tysD, tyD, intD, intsD, seqD, lstD, methD, isMut, mutD, callD, permL, bindT, slcD, startE, ioE, runD, setID, setOB, get1D, get2D, keyD, keyR]⟩
    simp [ev, evA, evO, evC, evI, evF, exS, exB, Ms.seq, Mo.bnd, Mo.ret, Mo.lift, Mo.opd, RV.opd, Mo.set, RV.set, Mo.tst, Mo.imm, Mo.imms, Mo.nox, opds, OB.toD, atD, cmpD, binD, bltD, prepR, preps, storeR, storesR, nxOf, Mo.fl, isNon, tysD, tyD, intD, intsD, seqD, lstD, methD, isMut, mutD, callD, permL, bindT, slcD, startE, ioE, runD, setID, setOB, get1D, get2D, keyD, keyR, eq_int]
  · have e' : ¬ ((k : Int) = (x : Int)) := by omega
    by_cases hm : x ∈ ups ds k
    · refine .inr ⟨.int (k : Int), by simp [hm], ?_, by simp [ev, evA, evO, evC, evI, evF, exS, exB, Ms.seq, Mo.bnd, Mo.ret, Mo.lift, Mo.opd, RV.opd, Mo.set, RV.set, Mo.tst, Mo.imm, Mo.imms, Mo.nox, opds, OB.toD, atD, cmpD, binD, bltD, prepR, preps, storeR, storesR, nxOf, Mo.fl, isNon, tysD, tyD, intD, intsD, seqD, lstD, methD, isMut, mutD, callD, permL, bindT, slcD, startE, ioE, runD, setID, setOB, get1D, get2D, keyD, keyR]⟩
      simp [ev, evA, evO, evC, evI, evF, exS, exB, Ms.seq, Mo.bnd, Mo.ret, Mo.lift, Mo.opd, RV.opd, Mo.set, RV.set, Mo.tst, Mo.imm, Mo.imms, Mo.nox, opds, OB.toD, atD, cmpD, binD, bltD, prepR, preps, storeR, storesR, nxOf, Mo.fl, isNon, tysD, tyD, intD, intsD, seqD, lstD, methD, isMut, mutD, callD, permL, bindT, slcD, startE, ioE, runD, setID, setOB, get1D, get2D, keyD, keyR, eq_int, e, e', a, m, hm]
    · refine .inl ⟨by simp [hm, e], ?_⟩
      simp [ev, evA, evO, evC, evI, evF, exS, exB, Ms.seq, Mo.bnd, Mo.ret, Mo.lift, Mo.opd, RV.opd, Mo.set, RV.set, Mo.tst, Mo.imm, Mo.imms, Mo.nox, opds, OB.toD, atD, cmpD, binD, bltD, prepR, preps, storeR, storesR, nxOf, Mo.fl, isNon, tysD, tyD, intD, intsD, seqD, lstD, methD, isMut, mutD, callD, permL, bindT, slcD, startE, ioE, runD, setID, setOB, get1D, get2D, keyD, keyR, eq_int, e, e', a, m, hm]
def f_part (ic it ia ir : Nat) : Df := ⟨2, 4, false, [.expr (.call ic false (.cons (.var 0) .nil)), .expr (.call it false (.cons (.var 0) (.cons (.var 1) .nil))), .asg 2 false (cp_part ia), .ret (.call ir false (.cons (.var 0) (.cons (.var 2) .nil)))]⟩
theorem part_ok {Φ : Fn} {wn ic it ia ir x : Nat} {ds : List D} (h : Fst ds) (hx : x < ds.length) (hc : CkF (Φ ic)) (ht : CkT (Φ it)) (ha : AboveOk (Φ ia)) (hr : RenOk (Φ ir)) : runD Φ wn (f_part ic it ia ir) none [.tup ds, .int (x : Int)] = some (.ok (.val (.tup (ren ds (partL ds x)))) none) := by
  have h1 := hc ds h
  have h2 := ht ds x h hx
  have h3 := part_row (Φ := Φ) (ia := ia) (x := x) (s2 := .un) (s3 := .un) (rest := []) h ha
  have h4 := hr ds (.tup ds) (partL ds x) (.inl rfl) h.fine (by have := filter_len (n := ds.length) (fun k => decide (k = x) || decide (x ∈ ups ds k)); have := h.few; unfold partL; omega) (filter_nd _) fun t ht => filter_lt ht
  simp [ev, evA, evO, evC, evI, evF, exS, exB, Ms.seq, Mo.bnd, Mo.ret, Mo.lift, Mo.opd, RV.opd, Mo.set, RV.set, Mo.tst, Mo.imm, Mo.imms, Mo.nox, opds, OB.toD, atD, cmpD, binD, bltD, prepR, preps, storeR, storesR, nxOf, Mo.fl, isNon, tysD, tyD, intD, intsD, seqD, lstD, methD, isMut, mutD, callD, permL, bindT, slcD, startE, ioE, runD, setID, setOB, get1D, get2D, keyD, keyR, f_part, h1, h2, h3, h4]
def liftD (ds : List D) (x : Nat) (d : D) : D := match d with
  | .int i => if i = (x : Int) then hereD (par ds x) else .int i
  | d => d
theorem lift_map {ds : List D} (h : Fine ds) (x : Nat) : ds.map (liftD ds x) = lift ds x := by
  apply List.ext_getElem
  · simp [lift]
  · intro k h1 h2
    have hk : k < ds.length := by simpa using h1
    have g := get_par h hk
    rw [List.getElem?_eq_getElem hk] at g
    have g := Option.some.inj g
    simp only [lift, List.getElem_map, List.getElem_range, g]
    unfold liftO
    cases e : par ds k with
    | none => simp [hereD, liftD]
    | some y =>
      by_cases hy : y = x
      · subst hy; simp [hereD, liftD]
      · have : ¬ ((y : Int) = (x : Int)) := by omega
        simp [hereD, liftD, hy, this]
def cp_lift : IE := .comp [3] [3] (.seq (.var 0)) .no (.ite (.cmp .eq (.var 3) (.var 1)) (.idx (.var 0) (.var 1)) (.var 3))
def cp_with (sl : Nat) : IE := .comp [sl] [sl] (.rng1 (.blt .len (.cons (.var 0) .nil))) (.yes (.cmp .ne (.var sl) (.var 1))) (.var sl)
theorem lift_row {Φ : Fn} {ds : List D} {x : Nat} (h : Fst ds) (hx : x < ds.length) {s2 s3 : Sl} {rest : Evn} : ev Φ cp_lift (.im (.tup ds) :: .im (.int (x : Int)) :: s2 :: s3 :: rest) = some (.ok (.fr (.lst (lift ds x))) (.im (.tup ds) :: .im (.int (x : Int)) :: s2 :: s3 :: rest)) := by
  rw [← lift_map h.fine, ← fm_map]
  refine comp_is ds _ (by simp [ev, evA, evO, evC, evI, evF, exS, exB, Ms.seq, Mo.bnd, Mo.ret, Mo.lift, Mo.opd, RV.opd, Mo.set, RV.set, Mo.tst, Mo.imm, Mo.imms, Mo.nox, opds, OB.toD, atD, cmpD, binD, bltD, prepR, preps, storeR, storesR, nxOf, Mo.fl, isNon, tysD, tyD, intD, intsD, seqD, lstD, methD, isMut, mutD, callD, permL, bindT, slcD, startE, ioE, runD, setID, setOB, get1D, get2D, keyD, keyR]) (by unfold LIM; have := h.few; omega) (by simp [unown, back]) fun d hd => ⟨.im (.tup ds) :: .im (.int (x : Int)) :: s2 :: .im d :: rest, by simp [unown, bindT], by simp [unown], .inr ⟨_, rfl, by simp [ev, evA, evO, evC, evI, evF, exS, exB, Ms.seq, Mo.bnd, Mo.ret, Mo.lift, Mo.opd, RV.opd, Mo.set, RV.set, Mo.tst, Mo.imm, Mo.imms, Mo.nox, opds, OB.toD, atD, cmpD, binD, bltD, prepR, preps, storeR, storesR, nxOf, Mo.fl, isNon, tysD, tyD, intD, intsD, seqD, lstD, methD, isMut, mutD, callD, permL, bindT, slcD, startE, ioE, runD, setID, setOB, get1D, get2D, keyD, keyR], ?_⟩⟩
  have a := at_par h.fine hx
  rcases h.fine d hd with rfl | ⟨i, rfl, hi⟩
  · simp [ev, evA, evO, evC, evI, evF, exS, exB, Ms.seq, Mo.bnd, Mo.ret, Mo.lift, Mo.opd, RV.opd, Mo.set, RV.set, Mo.tst, Mo.imm, Mo.imms, Mo.nox, opds, OB.toD, atD, cmpD, binD, bltD, prepR, preps, storeR, storesR, nxOf, Mo.fl, isNon, tysD, tyD, intD, intsD, seqD, lstD, methD, isMut, mutD, callD, permL, bindT, slcD, startE, ioE, runD, setID, setOB, get1D, get2D, keyD, keyR, eq_non_int, liftD]
  · by_cases e : i = x
    · subst e; simp [ev, evA, evO, evC, evI, evF, exS, exB, Ms.seq, Mo.bnd, Mo.ret, Mo.lift, Mo.opd, RV.opd, Mo.set, RV.set, Mo.tst, Mo.imm, Mo.imms, Mo.nox, opds, OB.toD, atD, cmpD, binD, bltD, prepR, preps, storeR, storesR, nxOf, Mo.fl, isNon, tysD, tyD, intD, intsD, seqD, lstD, methD, isMut, mutD, callD, permL, bindT, slcD, startE, ioE, runD, setID, setOB, get1D, get2D, keyD, keyR, eq_int, liftD, a]
    · have : ¬ ((i : Int) = (x : Int)) := by omega
      simp [ev, evA, evO, evC, evI, evF, exS, exB, Ms.seq, Mo.bnd, Mo.ret, Mo.lift, Mo.opd, RV.opd, Mo.set, RV.set, Mo.tst, Mo.imm, Mo.imms, Mo.nox, opds, OB.toD, atD, cmpD, binD, bltD, prepR, preps, storeR, storesR, nxOf, Mo.fl, isNon, tysD, tyD, intD, intsD, seqD, lstD, methD, isMut, mutD, callD, permL, bindT, slcD, startE, ioE, runD, setID, setOB, get1D, get2D, keyD, keyR, eq_int, liftD, e, this]
theorem with_row3 {Φ : Fn} {ds : List D} {x : Nat} (h : Fst ds) {s2 s3 : Sl} {rest : Evn} : ev Φ (cp_with 3) (.im (.tup ds) :: .im (.int (x : Int)) :: s2 :: s3 :: rest) = some (.ok (.fr (.lst (dI (withL ds x)))) (.im (.tup ds) :: .im (.int (x : Int)) :: s2 :: s3 :: rest)) := by
  have hl := h.few
  have hr : -100000 ≤ (ds.length : Int) ∧ (ds.length : Int) ≤ 100000 := by omega
  unfold withL
  rw [dI_filter]
  refine comp_is (dI (List.range ds.length)) _ (by simp [ev, evA, evO, evC, evI, evF, exS, exB, Ms.seq, Mo.bnd, Mo.ret, Mo.lift, Mo.opd, RV.opd, Mo.set, RV.set, Mo.tst, Mo.imm, Mo.imms, Mo.nox, opds, OB.toD, atD, cmpD, binD, bltD, prepR, preps, storeR, storesR, nxOf, Mo.fl, isNon, tysD, tyD, intD, intsD, seqD, lstD, methD, isMut, mutD, callD, permL, bindT, slcD, startE, ioE, runD, setID, setOB, get1D, get2D, keyD, keyR, hr, dI]) (by unfold LIM; rw [dI_len]; simp; omega) (by simp [unown, back]) fun d hd => ?_
  obtain ⟨k, hk, rfl⟩ := List.mem_map.mp hd
  refine ⟨.im (.tup ds) :: .im (.int (x : Int)) :: s2 :: .im (.int (k : Int)) :: rest, by simp [unown, bindT], by simp [unown], ?_⟩
  have q : natOf (.int (k : Int)) = k := by simp [natOf]
  rw [q]
  by_cases e : k = x
  · subst e
    exact .inl ⟨by simp, by simp [ev, evA, evO, evC, evI, evF, exS, exB, Ms.seq, Mo.bnd, Mo.ret, Mo.lift, Mo.opd, RV.opd, Mo.set, RV.set, Mo.tst, Mo.imm, Mo.imms, Mo.nox, opds, OB.toD, atD, cmpD, binD, bltD, prepR, preps, storeR, storesR, nxOf, Mo.fl, isNon, tysD, tyD, intD, intsD, seqD, lstD, methD, isMut, mutD, callD, permL, bindT, slcD, startE, ioE, runD, setID, setOB, get1D, get2D, keyD, keyR, eq_int]⟩
  · have e' : ¬ ((k : Int) = (x : Int)) := by omega
    exact .inr ⟨.int (k : Int), by simp [e], by simp [ev, evA, evO, evC, evI, evF, exS, exB, Ms.seq, Mo.bnd, Mo.ret, Mo.lift, Mo.opd, RV.opd, Mo.set, RV.set, Mo.tst, Mo.imm, Mo.imms, Mo.nox, opds, OB.toD, atD, cmpD, binD, bltD, prepR, preps, storeR, storesR, nxOf, Mo.fl, isNon, tysD, tyD, intD, intsD, seqD, lstD, methD, isMut, mutD, callD, permL, bindT, slcD, startE, ioE, runD, setID, setOB, get1D, get2D, keyD, keyR, eq_int, e, e'], by simp [ev, evA, evO, evC, evI, evF, exS, exB, Ms.seq, Mo.bnd, Mo.ret, Mo.lift, Mo.opd, RV.opd, Mo.set, RV.set, Mo.tst, Mo.imm, Mo.imms, Mo.nox, opds, OB.toD, atD, cmpD, binD, bltD, prepR, preps, storeR, storesR, nxOf, Mo.fl, isNon, tysD, tyD, intD, intsD, seqD, lstD, methD, isMut, mutD, callD, permL, bindT, slcD, startE, ioE, runD, setID, setOB, get1D, get2D, keyD, keyR]⟩
theorem with_row4 {Φ : Fn} {ds : List D} {x : Nat} (h : Fst ds) {s2 s3 s4 : Sl} {rest : Evn} : ev Φ (cp_with 4) (.im (.tup ds) :: .im (.int (x : Int)) :: s2 :: s3 :: s4 :: rest) = some (.ok (.fr (.lst (dI (withL ds x)))) (.im (.tup ds) :: .im (.int (x : Int)) :: s2 :: s3 :: s4 :: rest)) := by
  have hl := h.few
  have hr : -100000 ≤ (ds.length : Int) ∧ (ds.length : Int) ≤ 100000 := by omega
  unfold withL
  rw [dI_filter]
  refine comp_is (dI (List.range ds.length)) _ (by simp [ev, evA, evO, evC, evI, evF, exS, exB, Ms.seq, Mo.bnd, Mo.ret, Mo.lift, Mo.opd, RV.opd, Mo.set, RV.set, Mo.tst, Mo.imm, Mo.imms, Mo.nox, opds, OB.toD, atD, cmpD, binD, bltD, prepR, preps, storeR, storesR, nxOf, Mo.fl, isNon, tysD, tyD, intD, intsD, seqD, lstD, methD, isMut, mutD, callD, permL, bindT, slcD, startE, ioE, runD, setID, setOB, get1D, get2D, keyD, keyR, hr, dI]) (by unfold LIM; rw [dI_len]; simp; omega) (by simp [unown, back]) fun d hd => ?_
  obtain ⟨k, hk, rfl⟩ := List.mem_map.mp hd
  refine ⟨.im (.tup ds) :: .im (.int (x : Int)) :: s2 :: s3 :: .im (.int (k : Int)) :: rest, by simp [unown, bindT], by simp [unown], ?_⟩
  have q : natOf (.int (k : Int)) = k := by simp [natOf]
  rw [q]
  by_cases e : k = x
  · subst e
    exact .inl ⟨by simp, by simp [ev, evA, evO, evC, evI, evF, exS, exB, Ms.seq, Mo.bnd, Mo.ret, Mo.lift, Mo.opd, RV.opd, Mo.set, RV.set, Mo.tst, Mo.imm, Mo.imms, Mo.nox, opds, OB.toD, atD, cmpD, binD, bltD, prepR, preps, storeR, storesR, nxOf, Mo.fl, isNon, tysD, tyD, intD, intsD, seqD, lstD, methD, isMut, mutD, callD, permL, bindT, slcD, startE, ioE, runD, setID, setOB, get1D, get2D, keyD, keyR, eq_int]⟩
  · have e' : ¬ ((k : Int) = (x : Int)) := by omega
    exact .inr ⟨.int (k : Int), by simp [e], by simp [ev, evA, evO, evC, evI, evF, exS, exB, Ms.seq, Mo.bnd, Mo.ret, Mo.lift, Mo.opd, RV.opd, Mo.set, RV.set, Mo.tst, Mo.imm, Mo.imms, Mo.nox, opds, OB.toD, atD, cmpD, binD, bltD, prepR, preps, storeR, storesR, nxOf, Mo.fl, isNon, tysD, tyD, intD, intsD, seqD, lstD, methD, isMut, mutD, callD, permL, bindT, slcD, startE, ioE, runD, setID, setOB, get1D, get2D, keyD, keyR, eq_int, e, e'], by simp [ev, evA, evO, evC, evI, evF, exS, exB, Ms.seq, Mo.bnd, Mo.ret, Mo.lift, Mo.opd, RV.opd, Mo.set, RV.set, Mo.tst, Mo.imm, Mo.imms, Mo.nox, opds, OB.toD, atD, cmpD, binD, bltD, prepR, preps, storeR, storesR, nxOf, Mo.fl, isNon, tysD, tyD, intD, intsD, seqD, lstD, methD, isMut, mutD, callD, permL, bindT, slcD, startE, ioE, runD, setID, setOB, get1D, get2D, keyD, keyR]⟩
def f_without (ic it ir : Nat) : Df := ⟨2, 5, false, [.expr (.call ic false (.cons (.var 0) .nil)), .expr (.call it false (.cons (.var 0) (.cons (.var 1) .nil))), .if_ (.cmp .eq (.blt .len (.cons (.var 0) .nil)) (.cst (.int 1))) [.stuck] [], .asg 2 false cp_lift, .ret (.call ir false (.cons (.var 2) (.cons (cp_with 4) .nil)))]⟩
theorem without_ok {Φ : Fn} {wn ic it ir x : Nat} {ds : List D} (h : Fst ds) (hx : x < ds.length) (h1 : 1 < ds.length) (hc : CkF (Φ ic)) (ht : CkT (Φ it)) (hr : RenOk (Φ ir)) : runD Φ wn (f_without ic it ir) none [.tup ds, .int (x : Int)] = some (.ok (.val (.tup (ren (lift ds x) (withL ds x)))) none) := by
  have g1 := hc ds h
  have g2 := ht ds x h hx
  have g3 := lift_row (Φ := Φ) (x := x) (s2 := .un) (s3 := .un) (rest := [.un]) h hx
  have g4 := with_row4 (Φ := Φ) (x := x) (s2 := .im (.lst (lift ds x))) (s3 := .un) (s4 := .un) (rest := []) h
  have g5 := hr (lift ds x) (.lst (lift ds x)) (withL ds x) (.inr rfl) (lift_fine h.fine x) (by have := filter_len (n := ds.length) (fun k => !decide (k = x)); have := h.few; unfold withL; omega) (filter_nd _) fun t ht => by rw [lift_len]; exact filter_lt ht
  have ne : ¬ ((ds.length : Int) = 1) := by omega
  have ne' : ¬ (ds.length = 1) := by omega
  simp [ev, evA, evO, evC, evI, evF, exS, exB, Ms.seq, Mo.bnd, Mo.ret, Mo.lift, Mo.opd, RV.opd, Mo.set, RV.set, Mo.tst, Mo.imm, Mo.imms, Mo.nox, opds, OB.toD, atD, cmpD, binD, bltD, prepR, preps, storeR, storesR, nxOf, Mo.fl, isNon, tysD, tyD, intD, intsD, seqD, lstD, methD, isMut, mutD, callD, permL, bindT, slcD, startE, ioE, runD, setID, setOB, get1D, get2D, keyD, keyR, f_without, g1, g2, g3, g4, g5, eq_int, ne, ne']
end HB

set_option Elab.async false
set_option linter.all false
set_option maxRecDepth 100000
set_option maxHeartbeats 4000000
/-! HBLib17: the rows of paths in forests that are put together and cut. -/
namespace HB
open PySem PySem.Spec PyProof.Rows L2

def laterD (n : Nat) : D → D
  | .lst l => .lst (l.map (shD n))
  | d => d
theorem sh_dI (n : Nat) (l : List Nat) : (dI l).map (shD n) = dI (l.map (n + ·)) := by
  unfold dI
  rw [List.map_map, List.map_map]
  apply List.map_congr_left
  intro i _
  simp [shD]
  omega
theorem upsR_mem {ds : List D} {n : Nat} {d : D} (h : d ∈ upsR ds n) : ∃ k, k < n ∧ d = .lst (dI (ups ds k)) := by
  obtain ⟨k, hk, rfl⟩ := List.mem_map.mp h
  exact ⟨k, by simpa using hk, rfl⟩
theorem upsR_len (ds : List D) (n : Nat) : (upsR ds n).length = n := by simp [upsR]
theorem upsR_app {ds : List D} {n m : Nat} : upsR ds (n + m) = upsR ds n ++ (List.range m).map fun k => D.lst (dI (ups ds (n + k))) := by
  unfold upsR
  rw [List.range_add, List.map_append, List.map_map]
  rfl
theorem upsR_beside {ds es : List D} (h : Fst ds) (k : Fst es) : upsR (ds ++ moveD ds.length es) (ds ++ moveD ds.length es).length = upsR ds ds.length ++ (upsR es es.length).map (laterD ds.length) := by
  rw [List.length_append, move_len, upsR_app]
  congr 1
  · unfold upsR
    apply List.map_congr_left
    intro x hx
    rw [ups_l h (by simpa using hx)]
  · unfold upsR
    rw [List.map_map]
    apply List.map_congr_left
    intro x hx
    rw [ups_mov k (by simpa using hx)]
    show D.lst (dI ((ups es x).map (ds.length + ·))) = laterD ds.length (.lst (dI (ups es x)))
    simp only [laterD, sh_dI]
def behD (ds : List D) (x : Nat) : List D := .int (x : Int) :: dI (ups ds x)
def laterB (ds : List D) (x : Nat) (d : D) : D := match laterD ds.length d with
  | .lst l => .lst (l ++ behD ds x)
  | d => d
theorem ups_gra {ds es : List D} (h : Fst ds) (k : Fst es) {p x : Nat} (hp : p < ds.length) (hx : x < es.length) : ups (ds ++ graft ds.length p es) (ds.length + x) = (ups es x).map (ds.length + ·) ++ p :: ups ds p := by
  have e := k.end1 hx
  cases hm : es.length with
  | zero => omega
  | succ m =>
    rw [hm, upE_succ] at e
    have z := upsF_gra h k.fine hp m (par es x) e (fun z hz => par_lt k.fine hz) 0
    have q : upsF es m (par es x) = ups es x := by
      unfold ups upsO
      rw [hm, upsF_more m (m + 1) _ e (by omega)]
    rw [q] at z
    unfold ups upsO
    rw [par_r, par_gra k.fine, if_pos hx, List.length_append]
    have hg : (graft ds.length p es).length = m + 1 := by simp [graft, move_len, hm]
    rw [hg, show ds.length + (m + 1) = m + (ds.length + 1) + 0 by omega, z]
    rfl
theorem upsR_graft {ds es : List D} (h : Fst ds) (k : Fst es) {p : Nat} (hp : p < ds.length) : upsR (ds ++ graft ds.length p es) (ds ++ graft ds.length p es).length = upsR ds ds.length ++ (upsR es es.length).map (laterB ds p) := by
  have hg : (graft ds.length p es).length = es.length := by simp [graft, move_len]
  rw [List.length_append, hg, upsR_app]
  congr 1
  · unfold upsR
    apply List.map_congr_left
    intro x hx
    rw [ups_l h (by simpa using hx)]
  · unfold upsR
    rw [List.map_map]
    apply List.map_congr_left
    intro x hx
    rw [ups_gra h k hp (by simpa using hx)]
    show D.lst (dI ((ups es x).map (ds.length + ·) ++ p :: ups ds p)) = laterB ds p (.lst (dI (ups es x)))
    simp only [laterB, laterD, sh_dI, behD, dI_app]
    rfl
/-! cut -/
def idxD (L : List Nat) (d : D) : D := .int (((idxO L (natOf d)).getD 0 : Nat) : Int)
theorem tw_part {ds : List D} (h : Fst ds) {x : Nat} (hx : x < ds.length) : ∀ n t, (ups ds t).length ≤ n → t < ds.length → ((ups ds t).takeWhile fun z => decide (z ∈ partL ds x)) = (ups ds t).filter fun z => decide (z ∈ partL ds x)
  | n, t, hn, ht => by
    rw [ups_eq h ht] at hn ⊢
    cases e : par ds t with
    | none => rfl
    | some y =>
      rw [e] at hn
      have hy := par_lt h.fine e
      show ((y :: ups ds y).takeWhile _) = (y :: ups ds y).filter _
      by_cases m : y ∈ partL ds x
      · rw [List.takeWhile_cons_of_pos (by simpa using m), List.filter_cons_of_pos (by simpa using m)]
        cases n with
        | zero => simp at hn
        | succ n => rw [tw_part h hx n y (by simpa using hn) hy]
      · rw [List.takeWhile_cons_of_neg (by simpa using m), List.filter_cons_of_neg (by simpa using m)]
        symm
        rw [List.filter_eq_nil_iff]
        intro z hz hzm
        apply m
        obtain ⟨q1, q2, q3⟩ := ups_mem h _ y (Nat.le_refl _) hy z hz
        have hzm : z ∈ partL ds x := by simpa using hzm
        unfold partL at hzm ⊢
        rw [List.mem_filter] at hzm ⊢
        refine ⟨by simpa using hy, ?_⟩
        have := hzm.2
        simp only [Bool.or_eq_true, decide_eq_true_eq] at this ⊢
        rcases this with rfl | this
        · exact .inr hz
        · exact .inr (q3 _ this)
theorem tw_all {p : Nat → Bool} : ∀ {l : List Nat}, (∀ z ∈ l, p z = true) → l.takeWhile p = l
  | [], _ => rfl
  | x :: l, h => by rw [List.takeWhile_cons_of_pos (h x List.mem_cons_self), tw_all fun z hz => h z (List.mem_cons_of_mem _ hz)]
/-- the law's row of one thing's path, renumbered -/
def rowN (L : List Nat) (p : Nat → Bool) (l : List Nat) : List D := ((dI l).filterMap fun d => if p (natOf d) = true then some (idxD L d) else none)
theorem rowN_is (L : List Nat) (p : Nat → Bool) : ∀ l : List Nat, rowN L p l = dI ((l.filter p).map fun z => (idxO L z).getD 0)
  | [] => rfl
  | x :: l => by
    have ih := rowN_is L p l
    unfold rowN at ih ⊢
    have e : dI (x :: l) = .int (x : Int) :: dI l := rfl
    have n : natOf (.int (x : Int)) = x := by simp [natOf]
    rw [e, List.filterMap_cons, n]
    by_cases h : p x = true
    · rw [if_pos h, List.filter_cons_of_pos h]
      simp only [ih, List.map_cons]
      show idxD L (.int (x : Int)) :: _ = D.int _ :: _
      unfold idxD
      rw [n]
      rfl
    · rw [if_neg h, List.filter_cons_of_neg h]
      exact ih
theorem range_map {α : Type} (L : List Nat) (f : Nat → α) : L.map f = (List.range L.length).map fun k => f (L[k]?.getD 0) := by
  apply List.ext_getElem
  · simp
  · intro k h1 h2
    have : k < L.length := by simpa using h1
    simp [this]
theorem part_nd (ds : List D) (x : Nat) : (partL ds x).Nodup := filter_nd _
theorem with_nd (ds : List D) (x : Nat) : (withL ds x).Nodup := filter_nd _
theorem upsR_part {ds : List D} (h : Fst ds) {x : Nat} (hx : x < ds.length) : upsR (ren ds (partL ds x)) (ren ds (partL ds x)).length = (partL ds x).map fun t => D.lst (rowN (partL ds x) (fun z => decide (z ∈ partL ds x)) (ups ds t)) := by
  have hl : (partL ds x).length ≤ 1000 := by have := filter_len (n := ds.length) (fun k => decide (k = x) || decide (x ∈ ups ds k)); have := h.few; unfold partL; omega
  have hb : ∀ t ∈ partL ds x, t < ds.length := fun t ht => filter_lt ht
  rw [range_map, ren_len]
  unfold upsR
  apply List.map_congr_left
  intro k hk
  have hk : k < (partL ds x).length := by simpa using hk
  have e : (partL ds x)[k]?.getD 0 = (partL ds x)[k] := by simp [hk]
  rw [ups_ren h (part_nd ds x) hb hl hk, e, rowN_is, tw_part h hx _ _ (Nat.le_refl _) (hb _ (List.getElem_mem hk))]
theorem upsR_with {ds : List D} (h : Fst ds) {x : Nat} (hx : x < ds.length) : upsR (ren (lift ds x) (withL ds x)) (ren (lift ds x) (withL ds x)).length = (withL ds x).map fun t => D.lst (rowN (withL ds x) (fun z => !decide (z = x)) (ups ds t)) := by
  have hl : (withL ds x).length ≤ 1000 := by have := filter_len (n := ds.length) (fun k => !decide (k = x)); have := h.few; unfold withL; omega
  have hb : ∀ t ∈ withL ds x, t < ds.length := fun t ht => filter_lt ht
  rw [range_map, ren_len]
  unfold upsR
  apply List.map_congr_left
  intro k hk
  have hk : k < (withL ds x).length := by simpa using hk
  have e : (withL ds x)[k]?.getD 0 = (withL ds x)[k] := by simp [hk]
  have hbk := hb _ (List.getElem_mem hk)
  rw [ups_ren (lift_fst h hx) (with_nd ds x) (fun t ht => by rw [lift_len]; exact hb t ht) hl hk, e, rowN_is, ups_lift h hx _ _ (Nat.le_refl _) hbk, tw_all]
  · congr 3
    apply List.filter_congr
    intro z _
    simp
  · intro z hz
    have hz := List.mem_filter.mp hz
    have q := (ups_mem h _ _ (Nat.le_refl _) hbk z hz.1).1
    have q2 := hz.2
    simp only [decide_eq_true_eq] at q2 ⊢
    unfold withL
    rw [List.mem_filter]
    exact ⟨by simpa using q, by simpa using q2⟩
end HB

set_option Elab.async false
set_option linter.all false
set_option maxRecDepth 100000
set_option maxHeartbeats 4000000
/-! HBLib18: k33's own checks. -/
namespace HB
open PySem PySem.Spec PyProof.Rows L2

def cp_later : IE := .comp [2] [2] (.seq (.var 0)) .no (.bin .add (.var 2) (.var 1))
def f_later : Df := ⟨2, 3, false, [.ret cp_later]⟩
def Ints (l : List D) : Prop := ∀ d ∈ l, ∃ i : Int, d = .int i
theorem ints_dI (l : List Nat) : Ints (dI l) := fun d hd => by
  obtain ⟨k, _, rfl⟩ := List.mem_map.mp hd
  exact ⟨_, rfl⟩
def LatOk (φ : Option OB → List D → Option FOut) : Prop := ∀ (l : List D) (n : Nat), Ints l → l.length ≤ 1000 → φ none [.lst l, .int (n : Int)] = some (.ok (.fr (.lst (l.map (shD n)))) none)
theorem later_ok {Φ : Fn} {wn : Nat} : LatOk (runD Φ wn f_later) := by
  intro l n h hl
  have cp : ev Φ cp_later [.im (.lst l), .im (.int (n : Int)), .un] = some (.ok (.fr (.lst (l.map (shD n)))) [.im (.lst l), .im (.int (n : Int)), .un]) := by
    rw [← fm_map]
    refine comp_is l _ (by simp [ev, evA, evO, evC, evI, evF, exS, exB, Ms.seq, Mo.bnd, Mo.ret, Mo.lift, Mo.opd, RV.opd, Mo.set, RV.set, Mo.tst, Mo.imm, Mo.imms, Mo.nox, opds, OB.toD, atD, cmpD, binD, bltD, prepR, preps, storeR, storesR, nxOf, Mo.fl, isNon, tysD, tyD, intD, intsD, seqD, lstD, methD, isMut, mutD, callD, permL, bindT, slcD, startE, ioE, runD, setID, setOB, get1D, get2D, keyD, keyR]) (by unfold LIM; omega) (by simp [unown, back]) fun d hd => ⟨[.im (.lst l), .im (.int (n : Int)), .im d], by simp [unown, bindT], by simp [unown], .inr ⟨_, rfl, by simp [ev, evA, evO, evC, evI, evF, exS, exB, Ms.seq, Mo.bnd, Mo.ret, Mo.lift, Mo.opd, RV.opd, Mo.set, RV.set, Mo.tst, Mo.imm, Mo.imms, Mo.nox, opds, OB.toD, atD, cmpD, binD, bltD, prepR, preps, storeR, storesR, nxOf, Mo.fl, isNon, tysD, tyD, intD, intsD, seqD, lstD, methD, isMut, mutD, callD, permL, bindT, slcD, startE, ioE, runD, setID, setOB, get1D, get2D, keyD, keyR], ?_⟩⟩
    obtain ⟨i, rfl⟩ := h d hd
    simp [ev, evA, evO, evC, evI, evF, exS, exB, Ms.seq, Mo.bnd, Mo.ret, Mo.lift, Mo.opd, RV.opd, Mo.set, RV.set, Mo.tst, Mo.imm, Mo.imms, Mo.nox, opds, OB.toD, atD, cmpD, binD, bltD, prepR, preps, storeR, storesR, nxOf, Mo.fl, isNon, tysD, tyD, intD, intsD, seqD, lstD, methD, isMut, mutD, callD, permL, bindT, slcD, startE, ioE, runD, setID, setOB, get1D, get2D, keyD, keyR, shD]
  simp [ev, evA, evO, evC, evI, evF, exS, exB, Ms.seq, Mo.bnd, Mo.ret, Mo.lift, Mo.opd, RV.opd, Mo.set, RV.set, Mo.tst, Mo.imm, Mo.imms, Mo.nox, opds, OB.toD, atD, cmpD, binD, bltD, prepR, preps, storeR, storesR, nxOf, Mo.fl, isNon, tysD, tyD, intD, intsD, seqD, lstD, methD, isMut, mutD, callD, permL, bindT, slcD, startE, ioE, runD, setID, setOB, get1D, get2D, keyD, keyR, f_later, cp]
def UpsOk (φ : Option OB → List D → Option FOut) : Prop := ∀ ds, Fine ds → ds.length ≤ 1000 → φ none [.tup ds] = some (.ok (.fr (.lst (upsR ds ds.length))) none)
def UpOk (φ : Option OB → List D → Option FOut) : Prop := AboveOk φ
def BesOk (φ : Option OB → List D → Option FOut) : Prop := ∀ ds es, Fst ds → Fst es → φ none [.tup ds, .tup es] = some (.ok (.val (.tup (ds ++ moveD ds.length es))) none)
def GraOk (φ : Option OB → List D → Option FOut) : Prop := ∀ ds es (x : Nat), Fst ds → Fst es → x < ds.length → φ none [.tup ds, .int (x : Int), .tup es] = some (.ok (.val (.tup (ds ++ graft ds.length x es))) none)
def ParOk (φ : Option OB → List D → Option FOut) : Prop := ∀ ds (x : Nat), Fst ds → x < ds.length → φ none [.tup ds, .int (x : Int)] = some (.ok (.val (.tup (ren ds (partL ds x)))) none)
def WitOk (φ : Option OB → List D → Option FOut) : Prop := ∀ ds (x : Nat), Fst ds → x < ds.length → 1 < ds.length → φ none [.tup ds, .int (x : Int)] = some (.ok (.val (.tup (ren (lift ds x) (withL ds x)))) none)
theorem fine_plain {ds : List D} (h : Fine ds) (n : Nat) : ∀ d ∈ ds, plainD n d = true := fun d hd => by
  rcases h d hd with z | ⟨i, z, _⟩ <;> subst z <;> cases n <;> rfl
theorem dI_plain (l : List Nat) (n : Nat) : ∀ d ∈ dI l, plainD n d = true := fun d hd => by
  obtain ⟨k, _, rfl⟩ := List.mem_map.mp hd
  cases n <;> rfl
theorem upsR_plain {ds : List D} (hl : ds.length ≤ 2000) {n : Nat} : ∀ d ∈ upsR ds n, plainD 1 d = true := fun d hd => by
  obtain ⟨k, _, rfl⟩ := upsR_mem hd
  exact plain_lst (by rw [dI_len]; have := ups_len (ds := ds) (x := k); omega) (dI_plain _ 0)
theorem same_rows {φ : Option OB → List D → Option FOut} (hs : SameOk φ 3) {ds : List D} (hl : ds.length ≤ 2000) : φ none [.lst (upsR ds ds.length), .lst (upsR ds ds.length)] = some (.ok (.val (.bl true)) none) :=
  hs _ (plain_lst (n := 2) (by rw [upsR_len]; omega) fun d hd => by
    obtain ⟨k, _, rfl⟩ := upsR_mem hd
    exact plain_lst (n := 1) (by rw [dI_len]; have := ups_len (ds := ds) (x := k); omega) (dI_plain _ 1))
theorem same_tup {φ : Option OB → List D → Option FOut} (hs : SameOk φ 3) {ds : List D} (h : Fine ds) (hl : ds.length ≤ 2000) : φ none [.tup ds, .tup ds] = some (.ok (.val (.bl true)) none) :=
  hs _ (plain_tup (n := 2) (by omega) (fine_plain h 2))
/-- the judging rows at the end: found in slot sf, due in slot sd -/
def judge (is iu sf sd : Nat) : List IS := [.if_ (.or (.not (.isi (.idx (.var sf) (.cst (.int 0))) [.tuple])) (.not (.call is false (.cons (.idx (.var sf) (.cst (.int 0))) (.cons (.idx (.var sf) (.cst (.int 1))) .nil))))) [.ret (.cst (.bl false))] [], .ret (.and (.cmp .eq (.blt .len (.cons (.idx (.var sf) (.cst (.int 0))) .nil)) (.blt .len (.cons (.var sd) .nil))) (.call is false (.cons (.call iu false (.cons (.idx (.var sf) (.cst (.int 0))) .nil)) (.cons (.var sd) .nil))))]
/-! beside -/
def cp_due1 (iu il : Nat) : IE := .comp [3] [3] (.seq (.call iu false (.cons (.var 1) .nil))) .no (.call il false (.cons (.var 3) (.cons (.blt .len (.cons (.var 0) .nil)) .nil)))
def f_beside_right (is iu il ib : Nat) : Df := ⟨2, 5, false, .asg 2 false (.bin .add (.call iu false (.cons (.var 0) .nil)) (cp_due1 iu il)) :: .asg 4 false (.lst (.cons (.call ib false (.cons (.var 0) (.cons (.var 1) .nil))) (.cons (.callK ib [1, 0] (.cons (.var 1) (.cons (.var 0) .nil))) .nil))) :: judge is iu 4 2⟩
theorem due1_is {Φ : Fn} {iu il : Nat} {ds es : List D} (h : Fst ds) (k : Fst es) (hu : UpsOk (Φ iu)) (hl : LatOk (Φ il)) {s2 s3 s4 : Sl} : ev Φ (cp_due1 iu il) [.im (.tup ds), .im (.tup es), s2, s3, s4] = some (.ok (.fr (.lst ((upsR es es.length).map (laterD ds.length)))) [.im (.tup ds), .im (.tup es), s2, s3, s4]) := by
  have h1 := hu es k.fine k.few
  rw [← fm_map]
  refine comp_is (upsR es es.length) _ (by simp [ev, evA, evO, evC, evI, evF, exS, exB, Ms.seq, Mo.bnd, Mo.ret, Mo.lift, Mo.opd, RV.opd, Mo.set, RV.set, Mo.tst, Mo.imm, Mo.imms, Mo.nox, opds, OB.toD, atD, cmpD, binD, bltD, prepR, preps, storeR, storesR, nxOf, Mo.fl, isNon, tysD, tyD, intD, intsD, seqD, lstD, methD, isMut, mutD, callD, permL, bindT, slcD, startE, ioE, runD, setID, setOB, get1D, get2D, keyD, keyR, h1]) (by rw [upsR_len]; have := k.few; unfold LIM; omega) (by simp [unown, back]) fun d hd => ?_
  obtain ⟨x, hx, rfl⟩ := upsR_mem hd
  have h2 := hl (dI (ups es x)) ds.length (ints_dI _) (by rw [dI_len]; have := ups_len (ds := es) (x := x); have := k.few; omega)
  exact ⟨[.im (.tup ds), .im (.tup es), s2, .im (.lst (dI (ups es x))), s4], by simp [unown, bindT], by simp [unown], .inr ⟨_, rfl, by simp [ev, evA, evO, evC, evI, evF, exS, exB, Ms.seq, Mo.bnd, Mo.ret, Mo.lift, Mo.opd, RV.opd, Mo.set, RV.set, Mo.tst, Mo.imm, Mo.imms, Mo.nox, opds, OB.toD, atD, cmpD, binD, bltD, prepR, preps, storeR, storesR, nxOf, Mo.fl, isNon, tysD, tyD, intD, intsD, seqD, lstD, methD, isMut, mutD, callD, permL, bindT, slcD, startE, ioE, runD, setID, setOB, get1D, get2D, keyD, keyR], by simp [ev, evA, evO, evC, evI, evF, exS, exB, Ms.seq, Mo.bnd, Mo.ret, Mo.lift, Mo.opd, RV.opd, Mo.set, RV.set, Mo.tst, Mo.imm, Mo.imms, Mo.nox, opds, OB.toD, atD, cmpD, binD, bltD, prepR, preps, storeR, storesR, nxOf, Mo.fl, isNon, tysD, tyD, intD, intsD, seqD, lstD, methD, isMut, mutD, callD, permL, bindT, slcD, startE, ioE, runD, setID, setOB, get1D, get2D, keyD, keyR, h2, laterD]⟩⟩
theorem fst_app {ds gs : List D} (h : Fine ds) (k : ∀ d ∈ gs, d = .non ∨ ∃ i : Nat, d = .int (i : Int) ∧ i < ds.length + gs.length) : Fine (ds ++ gs) := by
  intro d hd
  rw [List.length_append]
  rcases List.mem_append.mp hd with hd | hd
  · rcases h d hd with z | ⟨i, z, hi⟩
    · exact .inl z
    · exact .inr ⟨i, z, by omega⟩
  · exact k d hd
theorem fine_beside {ds es : List D} (h : Fine ds) (k : Fine es) : Fine (ds ++ moveD ds.length es) := by
  refine fst_app h fun d hd => ?_
  rw [move_len]
  obtain ⟨e, he, rfl⟩ := List.mem_map.mp hd
  rcases k e he with z | ⟨i, z, hi⟩ <;> subst z
  · exact .inl rfl
  · exact .inr ⟨i + ds.length, by simp [shD], by omega⟩
theorem fine_graft {ds es : List D} (h : Fine ds) (k : Fine es) {p : Nat} (hp : p < ds.length) : Fine (ds ++ graft ds.length p es) := by
  refine fst_app h fun d hd => ?_
  have hg : (graft ds.length p es).length = es.length := by simp [graft, move_len]
  rw [hg]
  obtain ⟨e1, h1, rfl⟩ := List.mem_map.mp hd
  obtain ⟨e, h2, rfl⟩ := List.mem_map.mp h1
  rcases k e h2 with z | ⟨i, z, hi⟩ <;> subst z
  · exact .inr ⟨p, by simp [shD, graD], by omega⟩
  · exact .inr ⟨i + ds.length, by simp [shD, graD], by omega⟩
section
variable {Φ : Fn} {wn is iu : Nat}
/-- the judging ends with yes -/
theorem judge_ok {env : Evn} {sf sd : Nat} {F : List D} {R : RV → Evn → Prop} {N C Bk : Evn → Prop} (hs : SameOk (Φ is) 3) (hu : UpsOk (Φ iu)) (hF : Fine F) (hl : F.length ≤ 1000) (h1 : env[sf]? = some (.im (.lst [.tup F, .tup F]))) (h2 : env[sd]? = some (.im (.lst (upsR F F.length))))
    (q : R (.val (.bl true)) env) : GoX N C Bk R (exB Φ wn false (judge is iu sf sd) env) := by
  have e1 := same_tup hs hF (by omega)
  have e2 := hu F hF hl
  have e3 := same_rows hs (ds := F) (by omega)
  have e4 := upsR_len F F.length
  unfold judge
  generalize upsR F F.length = U at *
  refine ex_cons (if_go (b := false) (env1 := env) (by simp [ev, evA, evO, evC, evI, evF, exS, exB, Ms.seq, Mo.bnd, Mo.ret, Mo.lift, Mo.opd, RV.opd, Mo.set, RV.set, Mo.tst, Mo.imm, Mo.imms, Mo.nox, opds, OB.toD, atD, cmpD, binD, bltD, prepR, preps, storeR, storesR, nxOf, Mo.fl, isNon, tysD, tyD, intD, intsD, seqD, lstD, methD, isMut, mutD, callD, permL, bindT, slcD, startE, ioE, runD, setID, setOB, get1D, get2D, keyD, keyR, h1, e1]) ?_)
  rw [if_neg Bool.false_ne_true]
  refine ex_nil (ex_cons (ret_val (d := .bl true) (env1 := env) (by simp [ev, evA, evO, evC, evI, evF, exS, exB, Ms.seq, Mo.bnd, Mo.ret, Mo.lift, Mo.opd, RV.opd, Mo.set, RV.set, Mo.tst, Mo.imm, Mo.imms, Mo.nox, opds, OB.toD, atD, cmpD, binD, bltD, prepR, preps, storeR, storesR, nxOf, Mo.fl, isNon, tysD, tyD, intD, intsD, seqD, lstD, methD, isMut, mutD, callD, permL, bindT, slcD, startE, ioE, runD, setID, setOB, get1D, get2D, keyD, keyR, h1, h2, e2, e3, e4, eq_int]) q))
theorem beside_right_ok {il ib : Nat} {ds es : List D} (h : Fst ds) (k : Fst es) (hl : ds.length + es.length ≤ 1000) (hs : SameOk (Φ is) 3) (hu : UpsOk (Φ iu)) (ht : LatOk (Φ il)) (hb : BesOk (Φ ib)) :
    runD Φ wn (f_beside_right is iu il ib) none [.tup ds, .tup es] = some (.ok (.val (.bl true)) none) := by
  have e1 := hu ds h.fine h.few
  have e2 := hb ds es h k
  have e3 := due1_is (s2 := .un) (s3 := .un) (s4 := .un) h k hu ht
  have e4 := upsR_beside h k
  have fF := fine_beside h.fine k.fine
  have lF : (ds ++ moveD ds.length es).length ≤ 1000 := by rw [List.length_append, move_len]; exact hl
  have l1 := upsR_len ds ds.length
  have l2 : ((upsR es es.length).map (laterD ds.length)).length = es.length := by simp [upsR_len]
  have l3 := h.few
  have l4 := k.few
  generalize hF : ds ++ moveD ds.length es = F at *
  obtain ⟨r, o, e, k1, k2⟩ := run_go (Φ := Φ) (wn := wn) (d := f_beside_right is iu il ib) (io := none) (ds := [.tup ds, .tup es]) (env := [.im (.tup ds), .im (.tup es), .un, .un, .un]) (Q := fun r o => r = .val (.bl true) ∧ o = none) rfl (by
    refine ex_cons (asg_fi (o := .lst (upsR F F.length)) (env1 := [.im (.tup ds), .im (.tup es), .un, .un, .un]) (by
      rw [e4]
      generalize upsR ds ds.length = A at *
      generalize (upsR es es.length).map (laterD ds.length) = B at *
      have hll : A.length + B.length ≤ LIM := by unfold LIM; omega
      simp [ev, evA, evO, evC, evI, evF, exS, exB, Ms.seq, Mo.bnd, Mo.ret, Mo.lift, Mo.opd, RV.opd, Mo.set, RV.set, Mo.tst, Mo.imm, Mo.imms, Mo.nox, opds, OB.toD, atD, cmpD, binD, bltD, prepR, preps, storeR, storesR, nxOf, Mo.fl, isNon, tysD, tyD, intD, intsD, seqD, lstD, methD, isMut, mutD, callD, permL, bindT, slcD, startE, ioE, runD, setID, setOB, get1D, get2D, keyD, keyR, e1, e3, hll]) ⟨rfl, by simp⟩ ?_)
    refine ex_cons (asg_fi (o := .lst [.tup F, .tup F]) (env1 := [.im (.tup ds), .im (.tup es), .im (.lst (upsR F F.length)), .un, .un]) (by
      generalize upsR F F.length = U at *
      simp [ev, evA, evO, evC, evI, evF, exS, exB, Ms.seq, Mo.bnd, Mo.ret, Mo.lift, Mo.opd, RV.opd, Mo.set, RV.set, Mo.tst, Mo.imm, Mo.imms, Mo.nox, opds, OB.toD, atD, cmpD, binD, bltD, prepR, preps, storeR, storesR, nxOf, Mo.fl, isNon, tysD, tyD, intD, intsD, seqD, lstD, methD, isMut, mutD, callD, permL, bindT, slcD, startE, ioE, runD, setID, setOB, get1D, get2D, keyD, keyR, e2, permL, List.mapM_cons, LIM, OB.toD]) ⟨rfl, by simp⟩ ?_)
    exact judge_ok (sf := 4) (sd := 2) hs hu fF lF rfl rfl ⟨none, rfl, rfl, rfl⟩)
  rw [e, k1, k2]
end
end HB

set_option Elab.async false
set_option linter.all false
set_option maxRecDepth 100000
set_option maxHeartbeats 4000000
/-! HBLib19: k33's own checks, continued. -/
namespace HB
open PySem PySem.Spec PyProof.Rows L2

section
variable {Φ : Fn} {wn is iu : Nat}
/-! grafted -/
def cp_due2 (iu il : Nat) : IE := .comp [5] [5] (.seq (.call iu false (.cons (.var 2) .nil))) .no (.bin .add (.call il false (.cons (.var 5) (.cons (.blt .len (.cons (.var 0) .nil)) .nil))) (.var 3))
def f_grafted_right (is iu il iup ig : Nat) : Df := ⟨3, 7, false, .asg 3 false (.bin .add (.lst (.cons (.var 1) .nil)) (.call iup false (.cons (.var 0) (.cons (.var 1) .nil)))) :: .asg 4 false (.bin .add (.call iu false (.cons (.var 0) .nil)) (cp_due2 iu il)) :: .asg 6 false (.lst (.cons (.call ig false (.cons (.var 0) (.cons (.var 1) (.cons (.var 2) .nil)))) (.cons (.callK ig [2, 1, 0] (.cons (.var 2) (.cons (.var 1) (.cons (.var 0) .nil)))) .nil))) :: judge is iu 6 4⟩
theorem due2_is {il : Nat} {ds es : List D} {x : Nat} (h : Fst ds) (k : Fst es) (hx : x < ds.length) (hu : UpsOk (Φ iu)) (hl : LatOk (Φ il)) {s4 s5 s6 : Sl} : ev Φ (cp_due2 iu il) [.im (.tup ds), .im (.int (x : Int)), .im (.tup es), .im (.lst (behD ds x)), s4, s5, s6] = some (.ok (.fr (.lst ((upsR es es.length).map (laterB ds x)))) [.im (.tup ds), .im (.int (x : Int)), .im (.tup es), .im (.lst (behD ds x)), s4, s5, s6]) := by
  have h1 := hu es k.fine k.few
  rw [← fm_map]
  refine comp_is (upsR es es.length) _ (by simp [ev, evA, evO, evC, evI, evF, exS, exB, Ms.seq, Mo.bnd, Mo.ret, Mo.lift, Mo.opd, RV.opd, Mo.set, RV.set, Mo.tst, Mo.imm, Mo.imms, Mo.nox, opds, OB.toD, atD, cmpD, binD, bltD, prepR, preps, storeR, storesR, nxOf, Mo.fl, isNon, tysD, tyD, intD, intsD, seqD, lstD, methD, isMut, mutD, callD, permL, bindT, slcD, startE, ioE, runD, setID, setOB, get1D, get2D, keyD, keyR, h1]) (by rw [upsR_len]; have := k.few; unfold LIM; omega) (by simp [unown, back]) fun d hd => ?_
  obtain ⟨z, hz, rfl⟩ := upsR_mem hd
  have h2 := hl (dI (ups es z)) ds.length (ints_dI _) (by rw [dI_len]; have := ups_len (ds := es) (x := z); have := k.few; omega)
  have l1 : (dI (ups es z)).length ≤ 1000 := by rw [dI_len]; have := ups_len (ds := es) (x := z); have := k.few; omega
  have l2 : (behD ds x).length ≤ 1001 := by
    show (dI (ups ds x)).length + 1 ≤ 1001
    rw [dI_len]; have := ups_len (ds := ds) (x := x); have := h.few; omega
  refine ⟨[.im (.tup ds), .im (.int (x : Int)), .im (.tup es), .im (.lst (behD ds x)), s4, .im (.lst (dI (ups es z))), s6], by simp [unown, bindT], by simp [unown], .inr ⟨_, rfl, by simp [ev, evA, evO, evC, evI, evF, exS, exB, Ms.seq, Mo.bnd, Mo.ret, Mo.lift, Mo.opd, RV.opd, Mo.set, RV.set, Mo.tst, Mo.imm, Mo.imms, Mo.nox, opds, OB.toD, atD, cmpD, binD, bltD, prepR, preps, storeR, storesR, nxOf, Mo.fl, isNon, tysD, tyD, intD, intsD, seqD, lstD, methD, isMut, mutD, callD, permL, bindT, slcD, startE, ioE, runD, setID, setOB, get1D, get2D, keyD, keyR], ?_⟩⟩
  have eB : laterB ds x (.lst (dI (ups es z))) = .lst ((dI (ups es z)).map (shD ds.length) ++ behD ds x) := rfl
  rw [eB]
  generalize behD ds x = B at *
  generalize dI (ups es z) = A at *
  have hll : A.length + B.length ≤ LIM := by unfold LIM; omega
  simp [ev, evA, evO, evC, evI, evF, exS, exB, Ms.seq, Mo.bnd, Mo.ret, Mo.lift, Mo.opd, RV.opd, Mo.set, RV.set, Mo.tst, Mo.imm, Mo.imms, Mo.nox, opds, OB.toD, atD, cmpD, binD, bltD, prepR, preps, storeR, storesR, nxOf, Mo.fl, isNon, tysD, tyD, intD, intsD, seqD, lstD, methD, isMut, mutD, callD, permL, bindT, slcD, startE, ioE, runD, setID, setOB, get1D, get2D, keyD, keyR, h2, hll]
theorem grafted_right_ok {il iup ig x : Nat} {ds es : List D} (h : Fst ds) (k : Fst es) (hx : x < ds.length) (hl : ds.length + es.length ≤ 1000) (hs : SameOk (Φ is) 3) (hu : UpsOk (Φ iu)) (ht : LatOk (Φ il)) (hp : UpOk (Φ iup)) (hg : GraOk (Φ ig)) :
    runD Φ wn (f_grafted_right is iu il iup ig) none [.tup ds, .int (x : Int), .tup es] = some (.ok (.val (.bl true)) none) := by
  have e0 := hp ds (.tup ds) x (.inl rfl) h hx
  have e1 := hu ds h.fine h.few
  have e2 := hg ds es x h k hx
  have e3 := due2_is (s4 := .un) (s5 := .un) (s6 := .un) h k hx hu ht
  have e4 := upsR_graft h k hx
  have fF := fine_graft h.fine k.fine hx
  have lF : (ds ++ graft ds.length x es).length ≤ 1000 := by rw [List.length_append]; simp [graft, move_len]; exact hl
  have l1 := upsR_len ds ds.length
  have l2 : ((upsR es es.length).map (laterB ds x)).length = es.length := by simp [upsR_len]
  have l3 := h.few
  have l4 := k.few
  have l5 : (ups ds x).length ≤ 1000 := by have := ups_len (ds := ds) (x := x); omega
  generalize hF : ds ++ graft ds.length x es = F at *
  obtain ⟨r, o, e, k1, k2⟩ := run_go (Φ := Φ) (wn := wn) (d := f_grafted_right is iu il iup ig) (io := none) (ds := [.tup ds, .int (x : Int), .tup es]) (env := [.im (.tup ds), .im (.int (x : Int)), .im (.tup es), .un, .un, .un, .un]) (Q := fun r o => r = .val (.bl true) ∧ o = none) rfl (by
    refine ex_cons (asg_fi (o := .lst (behD ds x)) (env1 := [.im (.tup ds), .im (.int (x : Int)), .im (.tup es), .un, .un, .un, .un]) (by
      have hll : (dI (ups ds x)).length + 1 ≤ LIM := by rw [dI_len]; unfold LIM; omega
      unfold behD
      generalize dI (ups ds x) = A at *
      have hll' : 1 + A.length ≤ LIM := by omega
      simp [ev, evA, evO, evC, evI, evF, exS, exB, Ms.seq, Mo.bnd, Mo.ret, Mo.lift, Mo.opd, RV.opd, Mo.set, RV.set, Mo.tst, Mo.imm, Mo.imms, Mo.nox, opds, OB.toD, atD, cmpD, binD, bltD, prepR, preps, storeR, storesR, nxOf, Mo.fl, isNon, tysD, tyD, intD, intsD, seqD, lstD, methD, isMut, mutD, callD, permL, bindT, slcD, startE, ioE, runD, setID, setOB, get1D, get2D, keyD, keyR, e0, hll', show (1 : Nat) ≤ LIM by decide]) ⟨rfl, by simp⟩ ?_)
    refine ex_cons (asg_fi (o := .lst (upsR F F.length)) (env1 := [.im (.tup ds), .im (.int (x : Int)), .im (.tup es), .im (.lst (behD ds x)), .un, .un, .un]) (by
      rw [e4]
      generalize upsR ds ds.length = A at *
      generalize (upsR es es.length).map (laterB ds x) = B at *
      generalize behD ds x = C at *
      have hll : A.length + B.length ≤ LIM := by unfold LIM; omega
      simp [ev, evA, evO, evC, evI, evF, exS, exB, Ms.seq, Mo.bnd, Mo.ret, Mo.lift, Mo.opd, RV.opd, Mo.set, RV.set, Mo.tst, Mo.imm, Mo.imms, Mo.nox, opds, OB.toD, atD, cmpD, binD, bltD, prepR, preps, storeR, storesR, nxOf, Mo.fl, isNon, tysD, tyD, intD, intsD, seqD, lstD, methD, isMut, mutD, callD, permL, bindT, slcD, startE, ioE, runD, setID, setOB, get1D, get2D, keyD, keyR, e1, e3, hll]) ⟨rfl, by simp⟩ ?_)
    refine ex_cons (asg_fi (o := .lst [.tup F, .tup F]) (env1 := [.im (.tup ds), .im (.int (x : Int)), .im (.tup es), .im (.lst (behD ds x)), .im (.lst (upsR F F.length)), .un, .un]) (by
      generalize upsR F F.length = U at *
      generalize behD ds x = C at *
      simp [ev, evA, evO, evC, evI, evF, exS, exB, Ms.seq, Mo.bnd, Mo.ret, Mo.lift, Mo.opd, RV.opd, Mo.set, RV.set, Mo.tst, Mo.imm, Mo.imms, Mo.nox, opds, OB.toD, atD, cmpD, binD, bltD, prepR, preps, storeR, storesR, nxOf, Mo.fl, isNon, tysD, tyD, intD, intsD, seqD, lstD, methD, isMut, mutD, callD, permL, bindT, slcD, startE, ioE, runD, setID, setOB, get1D, get2D, keyD, keyR, e2, permL, List.mapM_cons, LIM, OB.toD]) ⟨rfl, by simp⟩ ?_)
    exact judge_ok (sf := 6) (sd := 4) hs hu fF lF rfl rfl ⟨none, rfl, rfl, rfl⟩)
  rw [e, k1, k2]
/-! cut -/
theorem idx_mth (L : List Nat) (z : Nat) : mthD .index (.lst (dI L)) [.int (z : Int)] = (idxO L z).map fun (j : Nat) => D.int (j : Int) := by
  show (match flatD (.int (z : Int)), flatDs (dI L) with
    | some v, some vs => (vs.findIdx? (eqV · v)).map fun (j : Nat) => D.int (j : Int)
    | _, _ => none) = _
  rw [flat_dI]
  show ((L.map fun (k : Nat) => V.int (k : Int)).findIdx? (eqV · (.int (z : Int)))).map _ = _
  congr 1
  unfold idxO
  induction L with
  | nil => rfl
  | cons y L ih =>
    rw [List.map_cons, List.findIdx?_cons, List.findIdx?_cons, ih]
    have e : eqV (.int (y : Int)) (.int (z : Int)) = decide (y = z) := by
      show ((y : Int) == (z : Int)) = _
      by_cases h : y = z
      · subst h; simp
      · have : ¬ ((y : Int) = (z : Int)) := by omega
        simp [h, this]
    rw [e]
/-- the judging ends with yes, what is due being owned -/
theorem judge_ow {env : Evn} {sf sd : Nat} {F : List D} {R : RV → Evn → Prop} {N C Bk : Evn → Prop} (hs : SameOk (Φ is) 3) (hu : UpsOk (Φ iu)) (hF : Fine F) (hl : F.length ≤ 1000) (h1 : env[sf]? = some (.im (.lst [.tup F, .tup F]))) (h2 : env[sd]? = some (.ow (.lst (upsR F F.length))))
    (q : ∀ e, R (.val (.bl true)) e) : GoX N C Bk R (exB Φ wn false (judge is iu sf sd) env) := by
  have e1 := same_tup hs hF (by omega)
  have e2 := hu F hF hl
  have e3 := same_rows hs (ds := F) (by omega)
  have e4 := upsR_len F F.length
  unfold judge
  generalize upsR F F.length = U at *
  refine ex_cons (if_go (b := false) (env1 := env) (by simp [ev, evA, evO, evC, evI, evF, exS, exB, Ms.seq, Mo.bnd, Mo.ret, Mo.lift, Mo.opd, RV.opd, Mo.set, RV.set, Mo.tst, Mo.imm, Mo.imms, Mo.nox, opds, OB.toD, atD, cmpD, binD, bltD, prepR, preps, storeR, storesR, nxOf, Mo.fl, isNon, tysD, tyD, intD, intsD, seqD, lstD, methD, isMut, mutD, callD, permL, bindT, slcD, startE, ioE, runD, setID, setOB, get1D, get2D, keyD, keyR, h1, e1]) ?_)
  rw [if_neg Bool.false_ne_true]
  refine ex_nil (ex_cons (ret_val (d := .bl true) (env1 := env.set sd (.im (.lst U))) (by simp [ev, evA, evO, evC, evI, evF, exS, exB, Ms.seq, Mo.bnd, Mo.ret, Mo.lift, Mo.opd, RV.opd, Mo.set, RV.set, Mo.tst, Mo.imm, Mo.imms, Mo.nox, opds, OB.toD, atD, cmpD, binD, bltD, prepR, preps, storeR, storesR, nxOf, Mo.fl, isNon, tysD, tyD, intD, intsD, seqD, lstD, methD, isMut, mutD, callD, permL, bindT, slcD, startE, ioE, runD, setID, setOB, get1D, get2D, keyD, keyR, h1, h2, e2, e3, e4, eq_int]) (q _)))
end
end HB

set_option Elab.async false
set_option linter.all false
set_option maxRecDepth 100000
set_option maxHeartbeats 4000000
/-! HBLib20: k33's own checks: part, without. -/
namespace HB
open PySem PySem.Spec PyProof.Rows L2

section
variable {Φ : Fn} {wn is iu : Nat}
def cp_row (iup : Nat) (c : IE) : IE := .comp [5] [5] (.seq (.call iup false (.cons (.var 0) (.cons (.var 3) .nil)))) (.yes c) (.meth .index (.var 2) (.cons (.var 5) .nil))
def cut_loop (iup : Nat) (c : IE) : IS := .for_ [3] [] (.seq (.var 2)) [.expr (.meth .append (.var 4) (.cons (cp_row iup c) .nil))]
def f_cut_right (is iu iup ic : Nat) (nm c : IE) : Df := ⟨2, 7, false, .asg 2 false nm :: .asg 4 true (.lst .nil) :: cut_loop iup c :: .asg 6 false (.lst (.cons (.call ic false (.cons (.var 0) (.cons (.var 1) .nil))) (.cons (.callK ic [1, 0] (.cons (.var 1) (.cons (.var 0) .nil))) .nil))) :: judge is iu 6 4⟩
def c_part : IE := .cmp .mem (.var 5) (.var 2)
def c_with : IE := .cmp .ne (.var 5) (.var 1)
/-- a test that is p of the thing in slot 5 -/
def TestIs (Φ : Fn) (ds : List D) (x : Nat) (L : List Nat) (c : IE) (p : Nat → Bool) : Prop := ∀ (t z : Nat) (s4 s6 : Sl), (ev Φ c).tst [.im (.tup ds), .im (.int (x : Int)), .im (.lst (dI L)), .im (.int (t : Int)), s4, .im (.int (z : Int)), s6] = some (.ok (p z) [.im (.tup ds), .im (.int (x : Int)), .im (.lst (dI L)), .im (.int (t : Int)), s4, .im (.int (z : Int)), s6])
theorem test_part {ds : List D} {x : Nat} {L : List Nat} : TestIs Φ ds x L c_part fun z => decide (z ∈ L) := fun t z s4 s6 => by
  have m := mem_dI z L
  simp [ev, evA, evO, evC, evI, evF, exS, exB, Ms.seq, Mo.bnd, Mo.ret, Mo.lift, Mo.opd, RV.opd, Mo.set, RV.set, Mo.tst, Mo.imm, Mo.imms, Mo.nox, opds, OB.toD, atD, cmpD, binD, bltD, prepR, preps, storeR, storesR, nxOf, Mo.fl, isNon, tysD, tyD, intD, intsD, seqD, lstD, methD, isMut, mutD, callD, permL, bindT, slcD, startE, ioE, runD, setID, setOB, get1D, get2D, keyD, keyR, c_part, m]
theorem test_with {ds : List D} {x : Nat} {L : List Nat} : TestIs Φ ds x L c_with fun z => !decide (z = x) := fun t z s4 s6 => by
  have e : decide ((z : Int) = (x : Int)) = decide (z = x) := by
    by_cases h : z = x
    · subst h; simp
    · have : ¬ ((z : Int) = (x : Int)) := by omega
      simp [h, this]
  simp [ev, evA, evO, evC, evI, evF, exS, exB, Ms.seq, Mo.bnd, Mo.ret, Mo.lift, Mo.opd, RV.opd, Mo.set, RV.set, Mo.tst, Mo.imm, Mo.imms, Mo.nox, opds, OB.toD, atD, cmpD, binD, bltD, prepR, preps, storeR, storesR, nxOf, Mo.fl, isNon, tysD, tyD, intD, intsD, seqD, lstD, methD, isMut, mutD, callD, permL, bindT, slcD, startE, ioE, runD, setID, setOB, get1D, get2D, keyD, keyR, c_with, eq_int]
  by_cases h : z = x
  · subst h; simp
  · have : ¬ ((z : Int) = (x : Int)) := by omega
    simp [h, this]
theorem row_is {iup : Nat} {c : IE} {ds : List D} {x t : Nat} {L : List Nat} {p : Nat → Bool} (h : Fst ds) (ht : t < ds.length) (ha : AboveOk (Φ iup)) (hp : ∀ z ∈ ups ds t, p z = true → z ∈ L) (hc : TestIs Φ ds x L c p) {s4 s5 s6 : Sl} :
    ev Φ (cp_row iup c) [.im (.tup ds), .im (.int (x : Int)), .im (.lst (dI L)), .im (.int (t : Int)), s4, s5, s6] = some (.ok (.fr (.lst (rowN L p (ups ds t)))) [.im (.tup ds), .im (.int (x : Int)), .im (.lst (dI L)), .im (.int (t : Int)), s4, s5, s6]) := by
  have a := ha ds (.tup ds) t (.inl rfl) h ht
  unfold rowN
  refine comp_is (dI (ups ds t)) _ (by simp [ev, evA, evO, evC, evI, evF, exS, exB, Ms.seq, Mo.bnd, Mo.ret, Mo.lift, Mo.opd, RV.opd, Mo.set, RV.set, Mo.tst, Mo.imm, Mo.imms, Mo.nox, opds, OB.toD, atD, cmpD, binD, bltD, prepR, preps, storeR, storesR, nxOf, Mo.fl, isNon, tysD, tyD, intD, intsD, seqD, lstD, methD, isMut, mutD, callD, permL, bindT, slcD, startE, ioE, runD, setID, setOB, get1D, get2D, keyD, keyR, a]) (by unfold LIM; rw [dI_len]; have := ups_len (ds := ds) (x := t); have := h.few; omega) (by simp [unown, back]) fun d hd => ?_
  obtain ⟨z, hz, rfl⟩ := List.mem_map.mp hd
  refine ⟨[.im (.tup ds), .im (.int (x : Int)), .im (.lst (dI L)), .im (.int (t : Int)), s4, .im (.int (z : Int)), s6], by simp [unown, bindT], by simp [unown], ?_⟩
  have q : natOf (.int (z : Int)) = z := by simp [natOf]
  rw [q]
  have hcz := hc t z s4 s6
  by_cases e : p z = true
  · rw [e] at hcz
    have m := idx_mth L z
    have hzL := hp z hz e
    obtain ⟨j, hj⟩ : ∃ j, idxO L z = some j := by
      cases ej : idxO L z with
      | some j => exact ⟨j, rfl⟩
      | none =>
        unfold idxO at ej
        rw [List.findIdx?_eq_none_iff] at ej
        have := ej z hzL
        simp at this
    rw [hj] at m
    refine .inr ⟨idxD L (.int (z : Int)), by simp [e], by rw [evC]; exact hcz, ?_⟩
    have n : idxD L (.int (z : Int)) = .int (j : Int) := by unfold idxD; rw [q, hj]; rfl
    rw [n]
    simp [ev, evA, evO, evC, evI, evF, exS, exB, Ms.seq, Mo.bnd, Mo.ret, Mo.lift, Mo.opd, RV.opd, Mo.set, RV.set, Mo.tst, Mo.imm, Mo.imms, Mo.nox, opds, OB.toD, atD, cmpD, binD, bltD, prepR, preps, storeR, storesR, nxOf, Mo.fl, isNon, tysD, tyD, intD, intsD, seqD, lstD, methD, isMut, mutD, callD, permL, bindT, slcD, startE, ioE, runD, setID, setOB, get1D, get2D, keyD, keyR, m]
  · rw [Bool.not_eq_true] at e
    rw [e] at hcz
    exact .inl ⟨by simp [e], by rw [evC]; exact hcz⟩
theorem cut_ok {iup ic : Nat} {nm c : IE} {ds F : List D} {x : Nat} {L : List Nat} {p : Nat → Bool} (h : Fst ds) (hx : x < ds.length) (hs : SameOk (Φ is) 3) (hu : UpsOk (Φ iu)) (ha : AboveOk (Φ iup))
    (hL : L.length ≤ 1000) (hb : ∀ t ∈ L, t < ds.length) (hp : ∀ t ∈ L, ∀ z ∈ ups ds t, p z = true → z ∈ L) (hc : TestIs Φ ds x L c p) (hF : Fine F) (lF : F.length ≤ 1000) (eF : upsR F F.length = L.map fun t => D.lst (rowN L p (ups ds t)))
    (hn : ev Φ nm [.im (.tup ds), .im (.int (x : Int)), .un, .un, .un, .un, .un] = some (.ok (.fr (.lst (dI L))) [.im (.tup ds), .im (.int (x : Int)), .un, .un, .un, .un, .un]))
    (hf : Φ ic none [.tup ds, .int (x : Int)] = some (.ok (.val (.tup F)) none)) : runD Φ wn (f_cut_right is iu iup ic nm c) none [.tup ds, .int (x : Int)] = some (.ok (.val (.bl true)) none) := by
  obtain ⟨r, o, e, k1, k2⟩ := run_go (Φ := Φ) (wn := wn) (d := f_cut_right is iu iup ic nm c) (io := none) (ds := [.tup ds, .int (x : Int)]) (env := [.im (.tup ds), .im (.int (x : Int)), .un, .un, .un, .un, .un]) (Q := fun r o => r = .val (.bl true) ∧ o = none) rfl (by
    refine ex_cons (asg_fi (o := .lst (dI L)) hn ⟨rfl, by simp⟩ ?_)
    refine ex_cons (asg_fr (o := .lst []) (env1 := [.im (.tup ds), .im (.int (x : Int)), .im (.lst (dI L)), .un, .un, .un, .un]) (by simp [ev, evA, evO, evC, evI, evF, exS, exB, Ms.seq, Mo.bnd, Mo.ret, Mo.lift, Mo.opd, RV.opd, Mo.set, RV.set, Mo.tst, Mo.imm, Mo.imms, Mo.nox, opds, OB.toD, atD, cmpD, binD, bltD, prepR, preps, storeR, storesR, nxOf, Mo.fl, isNon, tysD, tyD, intD, intsD, seqD, lstD, methD, isMut, mutD, callD, permL, bindT, slcD, startE, ioE, runD, setID, setOB, get1D, get2D, keyD, keyR]) ⟨rfl, by simp⟩ ?_)
    refine ex_cons (for_st (ds := dI L) (env1 := [.im (.tup ds), .im (.int (x : Int)), .im (.lst (dI L)), .un, .ow (.lst []), .un, .un]) (by simp [ev, evA, evO, evC, evI, evF, exS, exB, Ms.seq, Mo.bnd, Mo.ret, Mo.lift, Mo.opd, RV.opd, Mo.set, RV.set, Mo.tst, Mo.imm, Mo.imms, Mo.nox, opds, OB.toD, atD, cmpD, binD, bltD, prepR, preps, storeR, storesR, nxOf, Mo.fl, isNon, tysD, tyD, intD, intsD, seqD, lstD, methD, isMut, mutD, callD, permL, bindT, slcD, startE, ioE, runD, setID, setOB, get1D, get2D, keyD, keyR]) ?_)
    refine for_go0 (fun n env => ∃ s3, env = [.im (.tup ds), .im (.int (x : Int)), .im (.lst (dI L)), s3, .ow (.lst ((L.take n).map fun t => D.lst (rowN L p (ups ds t)))), .un, .un]) ⟨.un, rfl⟩ ?_ ?_
    · rintro n d env hd ⟨s3, rfl⟩
      have hn' : n < L.length := by
        have := List.getElem?_eq_some_iff.mp hd
        obtain ⟨q, _⟩ := this
        rwa [dI_len] at q
      have ed : d = .int ((L[n] : Nat) : Int) := by
        unfold dI at hd
        rw [List.getElem?_map, List.getElem?_eq_getElem hn'] at hd
        exact (Option.some.inj hd).symm
      subst ed
      have tm := List.getElem_mem hn'
      have r := row_is (Φ := Φ) (iup := iup) (c := c) (x := x) (s4 := .ow (.lst ((L.take n).map fun t => D.lst (rowN L p (ups ds t))))) (s5 := .un) (s6 := .un) h (hb _ tm) ha (hp _ tm) hc
      refine ⟨[.im (.tup ds), .im (.int (x : Int)), .im (.lst (dI L)), .im (.int ((L[n] : Nat) : Int)), .ow (.lst ((L.take n).map fun t => D.lst (rowN L p (ups ds t)))), .un, .un], by simp [bindT], ?_⟩
      rw [List.take_succ_eq_append_getElem hn', List.map_append]
      have ll : ((L.take n).map fun t => D.lst (rowN L p (ups ds t))).length < LIM := by rw [List.length_map, List.length_take]; unfold LIM; omega
      generalize hM : ((L.take n).map fun t => D.lst (rowN L p (ups ds t))) = M at *
      refine ex_cons (expr_go (r := .val .non) (env1 := [.im (.tup ds), .im (.int (x : Int)), .im (.lst (dI L)), .im (.int ((L[n] : Nat) : Int)), .ow (.lst (M ++ [.lst (rowN L p (ups ds L[n]))])), .un, .un]) ?_ ?_)
      · simp [ev, evA, evO, evC, evI, evF, exS, exB, Ms.seq, Mo.bnd, Mo.ret, Mo.lift, Mo.opd, RV.opd, Mo.set, RV.set, Mo.tst, Mo.imm, Mo.imms, Mo.nox, opds, OB.toD, atD, cmpD, binD, bltD, prepR, preps, storeR, storesR, nxOf, Mo.fl, isNon, tysD, tyD, intD, intsD, seqD, lstD, methD, isMut, mutD, callD, permL, bindT, slcD, startE, ioE, runD, setID, setOB, get1D, get2D, keyD, keyR, r, ll]
      · exact ex_nil ⟨_, rfl⟩
    · rintro env ⟨s3, rfl⟩
      rw [dI_len, List.take_length, ← eF]
      refine ex_cons (asg_fi (o := .lst [.tup F, .tup F]) (env1 := [.im (.tup ds), .im (.int (x : Int)), .im (.lst (dI L)), s3, .ow (.lst (upsR F F.length)), .un, .un]) (by
        generalize upsR F F.length = U at *
        simp [ev, evA, evO, evC, evI, evF, exS, exB, Ms.seq, Mo.bnd, Mo.ret, Mo.lift, Mo.opd, RV.opd, Mo.set, RV.set, Mo.tst, Mo.imm, Mo.imms, Mo.nox, opds, OB.toD, atD, cmpD, binD, bltD, prepR, preps, storeR, storesR, nxOf, Mo.fl, isNon, tysD, tyD, intD, intsD, seqD, lstD, methD, isMut, mutD, callD, permL, bindT, slcD, startE, ioE, runD, setID, setOB, get1D, get2D, keyD, keyR, hf, permL, List.mapM_cons, LIM, OB.toD]) ⟨rfl, by simp⟩ ?_)
      exact judge_ow (sf := 6) (sd := 4) hs hu hF lF rfl rfl fun e => ⟨none, rfl, rfl, rfl⟩)
  rw [e, k1, k2]
theorem part_right_ok {iup ic x : Nat} {ds : List D} (h : Fst ds) (hx : x < ds.length) (hs : SameOk (Φ is) 3) (hu : UpsOk (Φ iu)) (ha : AboveOk (Φ iup)) (hp : ParOk (Φ ic)) :
    runD Φ wn (f_cut_right is iu iup ic (cp_part iup) c_part) none [.tup ds, .int (x : Int)] = some (.ok (.val (.bl true)) none) := by
  have hl : (partL ds x).length ≤ 1000 := by have := filter_len (n := ds.length) (fun k => decide (k = x) || decide (x ∈ ups ds k)); have := h.few; unfold partL; omega
  exact cut_ok (F := ren ds (partL ds x)) h hx hs hu ha hl (fun t ht => filter_lt ht) (fun t _ z _ hz => by simpa using hz) test_part (ren_fine _ _) (by rw [ren_len]; exact hl) (upsR_part h hx) (part_row h ha) (hp ds x h hx)
theorem without_right_ok {iup ic x : Nat} {ds : List D} (h : Fst ds) (hx : x < ds.length) (h1 : 1 < ds.length) (hs : SameOk (Φ is) 3) (hu : UpsOk (Φ iu)) (ha : AboveOk (Φ iup)) (hp : WitOk (Φ ic)) :
    runD Φ wn (f_cut_right is iu iup ic (cp_with 3) c_with) none [.tup ds, .int (x : Int)] = some (.ok (.val (.bl true)) none) := by
  have hl : (withL ds x).length ≤ 1000 := by have := filter_len (n := ds.length) (fun k => !decide (k = x)); have := h.few; unfold withL; omega
  refine cut_ok (F := ren (lift ds x) (withL ds x)) (p := fun z => !decide (z = x)) h hx hs hu ha hl (fun t ht => filter_lt ht) (fun t ht z hz hzx => ?_) test_with (ren_fine _ _) (by rw [ren_len]; exact hl) (upsR_with h hx) (with_row3 h) (hp ds x h hx h1)
  have hb : t < ds.length := filter_lt ht
  unfold withL
  rw [List.mem_filter]
  exact ⟨by simpa using (ups_mem h _ _ (Nat.le_refl _) hb z hz).1, hzx⟩
end
end HB

set_option Elab.async false
set_option linter.all false
set_option maxRecDepth 100000
set_option maxHeartbeats 4000000
/-! HBLib21: what can be shown; comprehensions that change what is owned; two targets. -/
namespace HB
open PySem PySem.Spec PyProof.Rows L2

/-- data that shows within these bounds -/
structure Shown (c b : Nat) (d : D) : Prop where
  ok : reprOk d = true
  sh : (toPy d).showable = true
  dp : (toPy d).depth ≤ c
  ln : (toPy d).shown.length ≤ b
theorem Shown.mono {c b c' b' : Nat} {d : D} (h : Shown c b d) (h1 : c ≤ c') (h2 : b ≤ b') : Shown c' b' d := ⟨h.ok, h.sh, Nat.le_trans h.dp h1, Nat.le_trans h.ln h2⟩
theorem Small.shown {d : D} (h : Small d) : Shown 2 60 d := ⟨h.2.1, h.2.2.1, h.2.2.2.1, h.2.2.2.2⟩
theorem shown_mem {c b : Nat} {ds : List D} (h : ∀ d ∈ ds, Shown c b d) : reprOks ds = true ∧ PyData.showableAll (toPys ds) = true ∧ PyData.depthAll (toPys ds) ≤ c ∧ (∀ t ∈ PyData.shownAll (toPys ds), t.length ≤ b) ∧ (PyData.shownAll (toPys ds)).length = ds.length := by
  induction ds with
  | nil => exact ⟨rfl, rfl, by simp [toPys, PyData.depthAll], (fun t ht => by simp [toPys, PyData.shownAll] at ht), rfl⟩
  | cons d ds ih =>
    obtain ⟨h1, h2, h3, h4, h5⟩ := ih fun x hx => h x (List.mem_cons_of_mem _ hx)
    obtain ⟨k2, k3, k4, k5⟩ := h d List.mem_cons_self
    refine ⟨by simp [reprOks, k2, h1], by simp [toPys, PyData.showableAll, k3, h2], by simp only [toPys, PyData.depthAll]; omega, fun t ht => ?_, by simp [toPys, PyData.shownAll, h5]⟩
    simp only [toPys, PyData.shownAll, List.mem_cons] at ht
    rcases ht with e | ht
    · subst e; exact k5
    · exact h4 t ht
theorem shown_tup {c b n : Nat} {ds : List D} (h : ∀ d ∈ ds, Shown c b d) (hl : ds.length ≤ n) : Shown (c + 1) ((b + 2) * n + 3) (.tup ds) := by
  obtain ⟨h1, h2, h3, h4, h5⟩ := shown_mem h
  have p := piled_le h4
  have l := tuple_len (PyData.shownAll (toPys ds))
  rw [h5] at p
  have q := Nat.mul_le_mul_left (b + 2) hl
  refine ⟨h1, h2, ?_, ?_⟩
  · show PyData.depthAll (toPys ds) + 1 ≤ _; omega
  · show (tupleText (PyData.shownAll (toPys ds))).length ≤ _; omega
theorem shown_lst {c b n : Nat} {ds : List D} (h : ∀ d ∈ ds, Shown c b d) (hl : ds.length ≤ n) : Shown (c + 1) ((b + 2) * n + 3) (.lst ds) := by
  obtain ⟨h1, h2, h3, h4, h5⟩ := shown_mem h
  have p := piled_le h4
  have l := list_len (PyData.shownAll (toPys ds))
  rw [h5] at p
  have q := Nat.mul_le_mul_left (b + 2) hl
  refine ⟨h1, h2, ?_, ?_⟩
  · show PyData.depthAll (toPys ds) + 1 ≤ _; omega
  · show (listText (PyData.shownAll (toPys ds))).length ≤ _; omega
theorem Shown.repr {c b : Nat} {d : D} (h : Shown c b d) (hc : c ≤ 64) (hb : b ≤ 100000) : ∃ t, reprD d = some t := by
  obtain ⟨k2, k3, k4, k5⟩ := h
  refine ⟨_, if_pos ?_⟩
  simp only [Bool.and_eq_true, decide_eq_true_eq]
  exact ⟨⟨⟨k2, k3⟩, by omega⟩, by unfold LIM; omega⟩
theorem fine_shown {ds : List D} (h : Fine ds) (hl : ds.length ≤ 1000) : Shown 3 62003 (.tup ds) := by
  have := shown_tup (c := 2) (b := 60) (n := 1000) (ds := ds) (fun d hd => by
    rcases h d hd with e | ⟨i, e, hi⟩ <;> subst e
    · exact small_non.shown
    · exact (small_int (by omega)).shown) hl
  exact this.mono (by decide) (by decide)
theorem fine_shown60 {ds : List D} (h : Fine ds) (hl : ds.length ≤ 60) : Shown 3 3723 (.tup ds) := by
  have := shown_tup (c := 2) (b := 60) (n := 60) (ds := ds) (fun d hd => by
    rcases h d hd with e | ⟨i, e, hi⟩ <;> subst e
    · exact small_non.shown
    · exact (small_int (by omega)).shown) hl
  exact this.mono (by decide) (by decide)
/-! comprehensions that change what is owned -/
theorem compGo_st {step : D → Mo (Option D)} (J : Nat → List D → Evn → Prop) : ∀ (ds : List D) (k : Nat) (acc : List D) (env : Evn), J k acc env → acc.length + ds.length ≤ LIM →
    (∀ (i : Nat) (d : D) (acc : List D) (env : Evn), ds[i]? = some d → J (k + i) acc env → ∃ o env', step d env = some (.ok o env') ∧ J (k + i + 1) (acc ++ o.toList) env') →
    ∃ ys env', compGo step ds acc env = some (.ok ys env') ∧ J (k + ds.length) ys env'
  | [], k, acc, env, h, _, _ => ⟨acc, env, rfl, h⟩
  | d :: ds, k, acc, env, h, hl, hs => by
    simp only [List.length_cons] at hl
    obtain ⟨o, e1, h1, h2⟩ := hs 0 d acc env rfl h
    have lo : o.toList.length ≤ 1 := by cases o <;> simp
    obtain ⟨ys, e2, h3, h4⟩ := compGo_st J ds (k + 1) (acc ++ o.toList) e1 h2 (by rw [List.length_append]; omega) fun i d acc env hd hj => by
      have z := hs (i + 1) d acc env (by simpa using hd) (by rw [show k + (i + 1) = k + 1 + i by omega]; exact hj)
      rw [show k + (i + 1) + 1 = k + 1 + i + 1 by omega] at z
      exact z
    refine ⟨ys, e2, ?_, by rw [List.length_cons, show k + (ds.length + 1) = k + 1 + ds.length by omega]; exact h4⟩
    unfold compGo Mo.bnd
    rw [h1]
    cases o with
    | none => simpa using h3
    | some y =>
      simp only
      rw [if_pos (by omega)]
      simpa using h3
theorem comp_st {Φ : Fn} {own t : List Nat} {it : II} {c : IO} {e : IE} {env env1 : Evn} (ds : List D) (J : Nat → List D → Evn → Prop) (hi : evI Φ it env = some (.ok ds env1)) (hl : ds.length ≤ LIM) (h0 : J 0 [] env1)
    (h : ∀ (i : Nat) (d : D) (acc : List D) (env : Evn), ds[i]? = some d → J i acc env → ∃ e1, bindT t d (unown own env) = some e1 ∧ ((∃ e2, evC Φ c e1 = some (.ok false e2) ∧ J (i + 1) acc e2) ∨ ∃ e2 e3 y, evC Φ c e1 = some (.ok true e2) ∧ ((ev Φ e).set.bnd fun r => Mo.imm r) e2 = some (.ok y e3) ∧ J (i + 1) (acc ++ [y]) e3)) :
    ∃ ys env', ev Φ (.comp own t it c e) env = some (.ok (.fr (.lst ys)) (back env1 own (unown own env'))) ∧ J ds.length ys env' := by
  obtain ⟨ys, e2, h1, h2⟩ := compGo_st (step := cStep own t (evC Φ c) (ev Φ e).set) J ds 0 [] env1 h0 (by simpa using hl) fun i d acc env hd hj => by
    rw [Nat.zero_add] at hj ⊢
    obtain ⟨e1, h1, h2⟩ := h i d acc env hd hj
    unfold cStep
    simp only [h1]
    rcases h2 with ⟨e2, h3, h4⟩ | ⟨e2, e3, y, h3, h4, h5⟩
    · refine ⟨none, e2, ?_, by simpa using h4⟩
      unfold Mo.bnd
      rw [h3]
      rfl
    · refine ⟨some y, e3, ?_, by simpa using h5⟩
      unfold Mo.bnd at h4 ⊢
      rw [h3]
      simp only [if_true]
      cases hq : (ev Φ e).set e2 with
      | none => rw [hq] at h4; cases h4
      | some q =>
        rw [hq] at h4
        cases q with
        | ok a en => simp only at h4 ⊢; rw [h4]; rfl
        | ex a en => cases h4
  refine ⟨ys, e2, ?_, by rw [Nat.zero_add] at h2; exact h2⟩
  rw [ev]
  unfold Mo.bnd
  rw [hi]
  show (match compGo (cStep own t (evC Φ c) (ev Φ e).set) ds [] env1 with
    | some (Out.ok ys env') => some (Out.ok (RV.fr (.lst ys)) (back env1 own (unown own env')))
    | some (.ex _ _) => none
    | none => none) = _
  rw [h1]
theorem same_ok0 {Φ : Fn} {wn i : Nat} : SameOk (runD Φ wn (f_same i)) 0 := by
  intro d hd
  cases d with
  | non => simp [ev, evA, evO, evC, evI, evF, exS, exB, Ms.seq, Mo.bnd, Mo.ret, Mo.lift, Mo.opd, RV.opd, Mo.set, RV.set, Mo.tst, Mo.imm, Mo.imms, Mo.nox, opds, OB.toD, atD, cmpD, binD, bltD, prepR, preps, storeR, storesR, nxOf, Mo.fl, isNon, tysD, tyD, intD, intsD, seqD, lstD, methD, isMut, mutD, callD, permL, bindT, slcD, startE, ioE, runD, setID, setOB, get1D, get2D, keyD, keyR, f_same, eqP_bl, eqP_non]
  | bl b => simp [ev, evA, evO, evC, evI, evF, exS, exB, Ms.seq, Mo.bnd, Mo.ret, Mo.lift, Mo.opd, RV.opd, Mo.set, RV.set, Mo.tst, Mo.imm, Mo.imms, Mo.nox, opds, OB.toD, atD, cmpD, binD, bltD, prepR, preps, storeR, storesR, nxOf, Mo.fl, isNon, tysD, tyD, intD, intsD, seqD, lstD, methD, isMut, mutD, callD, permL, bindT, slcD, startE, ioE, runD, setID, setOB, get1D, get2D, keyD, keyR, f_same, eqP_bl]
  | int v => simp [ev, evA, evO, evC, evI, evF, exS, exB, Ms.seq, Mo.bnd, Mo.ret, Mo.lift, Mo.opd, RV.opd, Mo.set, RV.set, Mo.tst, Mo.imm, Mo.imms, Mo.nox, opds, OB.toD, atD, cmpD, binD, bltD, prepR, preps, storeR, storesR, nxOf, Mo.fl, isNon, tysD, tyD, intD, intsD, seqD, lstD, methD, isMut, mutD, callD, permL, bindT, slcD, startE, ioE, runD, setID, setOB, get1D, get2D, keyD, keyR, f_same, eqP_bl, eq_int, eq_str]
  | str x => simp [ev, evA, evO, evC, evI, evF, exS, exB, Ms.seq, Mo.bnd, Mo.ret, Mo.lift, Mo.opd, RV.opd, Mo.set, RV.set, Mo.tst, Mo.imm, Mo.imms, Mo.nox, opds, OB.toD, atD, cmpD, binD, bltD, prepR, preps, storeR, storesR, nxOf, Mo.fl, isNon, tysD, tyD, intD, intsD, seqD, lstD, methD, isMut, mutD, callD, permL, bindT, slcD, startE, ioE, runD, setID, setOB, get1D, get2D, keyD, keyR, f_same, eqP_bl, eq_int, eq_str]
  | _ => simp [plainD] at hd
/-! two targets -/
theorem asgN2_val {Φ : Fn} {w : Nat} {io : Bool} {i j : Nat} {a b : IE} {d1 d2 : D} {env env1 env2 : Evn} {N C Bk : Evn → Prop} {R : RV → Evn → Prop} (h1 : ev Φ a env = some (.ok (.val d1) env1)) (h2 : ev Φ b env1 = some (.ok (.val d2) env2)) (hi : (i == 0 && io) = false ∧ i < env2.length) (hj : (j == 0 && io) = false ∧ j < env2.length)
    (k : N ((env2.set i (.im d1)).set j (.im d2))) : GoX N C Bk R (exS Φ w io (.asgN [i, j] [false, false] (.cons a (.cons b .nil))) env) := by
  rw [exS]
  refine fl_go (a := [.val d1, .val d2]) (e := env2) (by simp [evF, Mo.bnd, Mo.nox, h1, h2, Mo.ret, preps, prepR, RV.set, Mo.imm]) ?_
  have e : storesR io [i, j] [.val d1, .val d2] env2 = some ((env2.set i (.im d1)).set j (.im d2)) := by
    simp [storesR, storeR, hi.1, hi.2, hj.1, hj.2]
  show GoX N C Bk R (nxOf (storesR io [i, j] [.val d1, .val d2] env2))
  rw [e]
  exact k
end HB

set_option Elab.async false
set_option linter.all false
set_option maxRecDepth 100000
set_option maxHeartbeats 4000000
/-! HBPure2: loops that forget, dicts by numbers. -/
namespace HB
open PySem PySem.Spec PyProof.Rows L2

theorem fin_go {ks : List Nat} {x : Ms} {env : Evn} {N C Bk : Evn → Prop} {R : RV → Evn → Prop} (h : GoX (fun e => N (unown ks e)) (fun e => C (unown ks e)) (fun e => Bk (unown ks e)) R (x env)) : GoX N C Bk R (x.fin ks env) := by
  unfold Ms.fin
  cases hx : x env with
  | none => rw [hx] at h; exact h
  | some f => rw [hx] at h; cases f <;> exact h
section
variable {Φ : Fn} {w : Nat} {io : Bool} {env env1 : Evn} {N C Bk : Evn → Prop} {R : RV → Evn → Prop}
theorem for_stK {t ks : List Nat} {it : II} {body : List IS} {ds : List D} (h : evI Φ it env = some (.ok ds env1)) (k : GoX N C Bk R (forGo t ((exB Φ w io body).fin ks) ds env1)) : GoX N C Bk R (exS Φ w io (.for_ t ks it body) env) := by
  rw [exS]
  exact fl_go h k
/-- a loop with its states' shape -/
theorem for_in {t ks : List Nat} {it : II} {body : List IS} {ds : List D} (I : Nat → Evn → Prop) (h : evI Φ it env = some (.ok ds env1)) (h0 : I 0 env1)
    (hs : ∀ (i : Nat) (d : D) (env : Evn), ds[i]? = some d → I i env → ∃ env1, bindT t d env = some env1 ∧ GoX (fun e => I (i + 1) (unown ks e)) (fun e => I (i + 1) (unown ks e)) (fun e => N (unown ks e)) R (exB Φ w io body env1))
    (hN : ∀ env, I ds.length env → N env) : GoX N C Bk R (exS Φ w io (.for_ t ks it body) env) :=
  for_stK h (for_go0 I h0 (fun i d env hd hi => by
    obtain ⟨e1, h1, h2⟩ := hs i d env hd hi
    exact ⟨e1, h1, fin_go h2⟩) hN)
theorem while_in {ks : List Nat} {c : IE} {body : List IS} (I : Nat → Evn → Prop) (m : Nat) (hm : m < w) (h0 : I m env)
    (hs : ∀ m env, I m env → ∃ b e1, (ev Φ c).tst env = some (.ok b e1) ∧ ((b = false ∧ N e1) ∨ (b = true ∧ 0 < m ∧ GoX (fun e => I (m - 1) (unown ks e)) (fun e => I (m - 1) (unown ks e)) (fun e => N (unown ks e)) R (exB Φ w io body e1)))) : GoX N C Bk R (exS Φ w io (.while_ ks c body) env) := by
  rw [exS]
  refine while_go I (fun m env hi => ?_) w m env hm h0
  obtain ⟨b, e1, h1, h2⟩ := hs m env hi
  refine ⟨b, e1, h1, h2.imp id fun ⟨a, b, c⟩ => ⟨a, b, fin_go c⟩⟩
/-- a def's end with its value -/
theorem run_val {Φ : Fn} {wn : Nat} {d : Df} {ds : List D} {env : Evn} {v : RV} (hio : d.io = false) (hs : startE d none ds = some env)
    (h : GoX (fun _ => v = .val .non) (fun _ => False) (fun _ => False) (fun r _ => r = v) (exB Φ wn d.io d.body env)) : runD Φ wn d none ds = some (.ok v none) := by
  obtain ⟨r, o, e, h1, h2⟩ := run_go (Φ := Φ) (wn := wn) (d := d) (io := none) (ds := ds) (env := env) (Q := fun r o => r = v ∧ o = none) hs (h.imp (fun e he => ⟨none, by unfold ioE; rw [hio]; rfl, he.symm, rfl⟩) (fun _ q => q) (fun _ q => q) (fun r e he => ⟨none, by unfold ioE; rw [hio]; rfl, he, rfl⟩))
  rw [e, h1, h2]
end
/-! lists of different numbers below a bound -/
theorem ndN_len {L : List Nat} {n : Nat} (h : L.Nodup) (hb : ∀ x ∈ L, x < n) : L.length ≤ n := by
  by_cases hl : L.length ≤ n
  · exact hl
  · exfalso
    have hlt : ∀ i, i ≤ n → i < L.length := fun i hi => by omega
    obtain ⟨i, j, h1, h2, e⟩ := php n (fun i => L[i]?.getD 0) fun i hi => by
      have := hlt i hi
      simp only [List.getElem?_eq_getElem this, Option.getD_some]
      exact hb _ (List.getElem_mem this)
    have hi := hlt i (by omega)
    have hj := hlt j h2
    simp only [List.getElem?_eq_getElem hi, List.getElem?_eq_getElem hj, Option.getD_some] at e
    have := (List.getElem_inj h).mp e
    omega
/-! dicts -/
theorem atKn {α : Type} (ys : List α) (q : Key) : atK [] ys q = none := by cases ys <;> rfl
theorem atKc {α : Type} (k : Key) (ks : List Key) (y : α) (ys : List α) (q : Key) : atK (k :: ks) (y :: ys) q = if k = q then some y else atK ks ys q := by
  unfold atK
  rw [List.zip_cons_cons, List.find?_cons]
  by_cases h : k = q
  · simp [h]
  · simp [h]
theorem hasK_cons (k : Key) (ks : List Key) (q : Key) : hasK (k :: ks) q = (decide (k = q) || hasK ks q) := by simp [hasK]
theorem atK_map {α : Type} (k : Key) (d : α) (q : Key) : ∀ (ks : List Key) (ys : List α), ks.length = ys.length → atK ks ((ks.zip ys).map fun p => if p.1 = k then d else p.2) q = if q = k then (if hasK ks k = true then some d else none) else atK ks ys q
  | [], [], _ => by simp [atKn, hasK]
  | k0 :: ks, y :: ys, h => by
    have ih := atK_map k d q ks ys (by simpa using h)
    rw [List.zip_cons_cons, List.map_cons, atKc, ih, atKc, hasK_cons]
    by_cases hq : q = k
    · subst hq
      by_cases h0 : k0 = q
      · simp [h0]
      · simp [h0]
    · by_cases h0 : k0 = q
      · subst h0; simp [hq]
      · simp [hq, h0]
theorem atK_app {α : Type} (k : Key) (d : α) (q : Key) : ∀ (ks : List Key) (ys : List α), ks.length = ys.length → hasK ks k = false → atK (ks ++ [k]) (ys ++ [d]) q = if q = k then some d else atK ks ys q
  | [], [], _, _ => by
    rw [List.nil_append, List.nil_append, atKc]
    simp only [atKn]
    by_cases h : k = q
    · subst h; simp
    · simp [h, Ne.symm h]
  | k0 :: ks, y :: ys, h, hh => by
    rw [hasK_cons, Bool.or_eq_false_iff] at hh
    have ih := atK_app k d q ks ys (by simpa using h) hh.2
    have n0 : k0 ≠ k := by simpa using hh.1
    rw [List.cons_append, List.cons_append, atKc, ih, atKc]
    by_cases hq : q = k
    · subst hq; simp [n0]
    · by_cases h0 : k0 = q
      · subst h0; simp [hq]
      · simp [hq, h0]
theorem atK_put {α : Type} {ks : List Key} {ys : List α} (k : Key) (d : α) (q : Key) (h : ks.length = ys.length) : atK (putKs ks k) (putX ks ys k d) q = if q = k then some d else atK ks ys q := by
  unfold putKs putX
  by_cases hk : hasK ks k = true
  · rw [if_pos hk, if_pos hk, atK_map k d q ks ys h]
    simp [hk]
  · rw [if_neg hk, if_neg hk]
    exact atK_app k d q ks ys h (by simpa using hk)
theorem dput_len {α : Type} {ks : List Key} {ys : List α} (k : Key) (d : α) (h : ks.length = ys.length) : (putKs ks k).length = (putX ks ys k d).length := by
  unfold putKs putX
  by_cases hk : hasK ks k = true
  · simp [hk, h]
  · simp [hk, h]
def natKs (L : List Nat) : List Key := L.map fun (t : Nat) => (.inl (t : Int) : Key)
theorem natK_inj {a b : Nat} (h : (.inl (a : Int) : Key) = .inl (b : Int)) : a = b := by injection h with h; omega
theorem has_nat (L : List Nat) (i : Nat) : hasK (natKs L) (.inl (i : Int)) = decide (i ∈ L) := by
  induction L with
  | nil => simp [hasK, natKs]
  | cons a L ih =>
    unfold natKs at ih ⊢
    rw [List.map_cons, hasK_cons, ih]
    by_cases h : a = i
    · subst h; simp
    · have : ¬ ((.inl (a : Int) : Key) = .inl (i : Int)) := fun z => h (natK_inj z)
      simp [this, Ne.symm h]
/-- a dict of numbers below n, with what stands at each -/
structure DF (ks : List Key) (ys : List D) (n : Nat) (f : Nat → Option D) : Prop where
  L : ∃ L : List Nat, ks = natKs L ∧ L.Nodup ∧ ∀ x ∈ L, x < n
  len : ks.length = ys.length
  at_ : ∀ i : Nat, atK ks ys (.inl (i : Int)) = f i
theorem DF.nil (n : Nat) : DF [] [] n fun _ => none := ⟨⟨[], rfl, List.nodup_nil, fun x h => nomatch h⟩, rfl, fun i => atKn _ _⟩
theorem DF.le {ks : List Key} {ys : List D} {n : Nat} {f : Nat → Option D} (h : DF ks ys n f) : ks.length ≤ n := by
  obtain ⟨L, rfl, h1, h2⟩ := h.L
  have := ndN_len h1 h2
  simpa [natKs] using this
theorem DF.put {ks : List Key} {ys : List D} {n : Nat} {f : Nat → Option D} (h : DF ks ys n f) {i : Nat} (hi : i < n) (d : D) : DF (putKs ks (.inl (i : Int))) (putX ks ys (.inl (i : Int)) d) n fun j => if j = i then some d else f j := by
  obtain ⟨L, hL, h1, h2⟩ := h.L
  refine ⟨?_, dput_len _ _ h.len, fun j => ?_⟩
  · subst hL
    unfold putKs
    rw [has_nat]
    by_cases m : i ∈ L
    · exact ⟨L, by simp [m], h1, h2⟩
    · refine ⟨L ++ [i], by simp [m, natKs], ?_, fun x hx => ?_⟩
      · rw [List.nodup_append]
        exact ⟨h1, by simp, fun a ha b hb => by
          simp only [List.mem_cons, List.not_mem_nil, or_false] at hb
          subst hb
          exact fun z => m (z ▸ ha)⟩
      · rcases List.mem_append.mp hx with hx | hx
        · exact h2 x hx
        · simp only [List.mem_cons, List.not_mem_nil, or_false] at hx
          omega
  · rw [atK_put _ _ _ h.len, h.at_]
    by_cases e : j = i
    · subst e; simp
    · have : ¬ ((.inl (j : Int) : Key) = .inl (i : Int)) := fun z => e (natK_inj z)
      simp [e, this]
theorem DF.has {ks : List Key} {ys : List D} {n : Nat} {f : Nat → Option D} (h : DF ks ys n f) (i : Nat) : hasK ks (.inl (i : Int)) = (f i).isSome := by
  obtain ⟨L, e, _, _⟩ := h.L
  rw [← h.at_ i]
  have hl := h.len
  subst e
  have go : ∀ (L : List Nat) (ys : List D), (natKs L).length = ys.length → hasK (natKs L) (.inl (i : Int)) = (atK (natKs L) ys (.inl (i : Int))).isSome := by
    intro L
    induction L with
    | nil => intro ys _; simp [natKs, hasK, atKn]
    | cons a L ih =>
      intro ys hl
      cases ys with
      | nil => simp [natKs] at hl
      | cons y ys =>
        have ih := ih ys (by simpa [natKs] using hl)
        unfold natKs at ih ⊢
        rw [List.map_cons, hasK_cons, atKc, ih]
        by_cases e : ((.inl (a : Int) : Key) = .inl (i : Int))
        · simp [e]
        · simp [e]
  exact go L ys hl
end HB

set_option Elab.async false
set_option linter.all false
set_option maxRecDepth 100000
set_option maxHeartbeats 4000000
/-! HBProg1: the checks; sizes, things held, the walk. -/
namespace HB
open PySem PySem.Spec PyProof.Rows L2

abbrev FO := Option OB → List D → Option FOut
def Sp_is_integer (φ : FO) : Prop := ∀ d lo hi, noFrz d = true → φ none [d, .int lo, .int hi] = some (.ok (.val (.bl (isI d lo hi))) none)
def Sp_is_rooted (φ : FO) : Prop := ∀ ds, Fine ds → ds.length ≤ 100000 → φ none [.tup ds] = some (.ok (.val (.bl (rooted ds))) none)
def Sp_is_forest (φ : FO) : Prop := ∀ d, Ask d → φ none [d] = some (.ok (.val (.bl (isForest d))) none)
def Sp_check_forest (φ : FO) : Prop := ∀ d, Ask d → φ none [d] = some (if isForest d = true then .ok (.val .non) none else .ex 1)
def Sp_check_thing (φ : FO) : Prop := ∀ ds t, noFrz t = true → φ none [.tup ds, t] = some (if isI t 0 ((ds.length : Int) - 1) = true then .ok (.val .non) none else .ex 2)
def Sp_above_of (φ : FO) : Prop := AboveOk φ
/-! check_forest: number 10 -/
def g_check_forest : Df := ⟨1, 1, false, [.if_ (.not (.call 2 false (.cons (.var 0) .nil))) [.raise 1] []]⟩
/-! check_thing: number 11 -/
def g_check_thing : Df := ⟨2, 2, false, [.if_ (.not (.call 0 false (.cons (.var 1) (.cons (.cst (.int 0)) (.cons (.bin .sub (.blt .len (.cons (.var 0) .nil)) (.cst (.int 1))) .nil))))) [.raise 2] []]⟩
theorem ok_is_integer {Φ : Fn} {wn : Nat} : Sp_is_integer (runD Φ wn f_is_integer) := fun d lo hi h => int_ok h
theorem ok_is_rooted {Φ : Fn} {wn : Nat} : Sp_is_rooted (runD Φ wn f_is_rooted) := fun ds h l => rooted_ok h l
theorem ok_is_forest {Φ : Fn} {wn : Nat} (h0 : Sp_is_integer (Φ 0)) (h1 : Sp_is_rooted (Φ 1)) : Sp_is_forest (runD Φ wn (f_is_forest 0 1)) := fun d hd => forest_ok h0 h1 hd
theorem ok_check_forest {Φ : Fn} {wn : Nat} (h : Sp_is_forest (Φ 2)) : Sp_check_forest (runD Φ wn g_check_forest) := fun d hd => by
  have e := h d hd
  cases hb : isForest d <;> (rw [hb] at e; simp [ev, evA, evO, evC, evI, evF, exS, exB, Ms.seq, Mo.bnd, Mo.ret, Mo.lift, Mo.opd, RV.opd, Mo.set, RV.set, Mo.tst, Mo.imm, Mo.imms, Mo.nox, opds, OB.toD, atD, cmpD, binD, bltD, prepR, preps, storeR, storesR, nxOf, Mo.fl, isNon, tysD, tyD, intD, intsD, seqD, lstD, methD, isMut, mutD, callD, permL, bindT, slcD, startE, ioE, runD, setID, setOB, get1D, get2D, keyD, keyR, g_check_forest, e])
theorem ok_check_thing {Φ : Fn} {wn : Nat} (h : Sp_is_integer (Φ 0)) : Sp_check_thing (runD Φ wn g_check_thing) := fun ds t ht => by
  have e := h t 0 ((ds.length : Int) - 1) ht
  cases hb : isI t 0 ((ds.length : Int) - 1) <;> (rw [hb] at e; simp [ev, evA, evO, evC, evI, evF, exS, exB, Ms.seq, Mo.bnd, Mo.ret, Mo.lift, Mo.opd, RV.opd, Mo.set, RV.set, Mo.tst, Mo.imm, Mo.imms, Mo.nox, opds, OB.toD, atD, cmpD, binD, bltD, prepR, preps, storeR, storesR, nxOf, Mo.fl, isNon, tysD, tyD, intD, intsD, seqD, lstD, methD, isMut, mutD, callD, permL, bindT, slcD, startE, ioE, runD, setID, setOB, get1D, get2D, keyD, keyR, g_check_thing, e])
theorem ok_above_of {Φ : Fn} : Sp_above_of (runD Φ 4000 f_above_of) := fun ds d x hd h hx => above_ok hd h hx (by have := h.few; omega)
theorem Sp_check_forest.yes {φ : FO} (h : Sp_check_forest φ) {ds : List D} (k : Fst ds) : φ none [.tup ds] = some (.ok (.val .non) none) := by
  rw [h _ k.ask, if_pos k.is]
theorem Sp_check_thing.yes {φ : FO} (h : Sp_check_thing φ) {ds : List D} {x : Nat} (hx : x < ds.length) : φ none [.tup ds, .int (x : Int)] = some (.ok (.val .non) none) := by
  rw [h _ _ rfl, if_pos (by simp [isI]; omega)]
/-! ### sizes -/
def szL (ds : List D) (k : Nat) (x : Nat) : Nat := ((List.range k).filter fun t => decide (t = x) || decide (x ∈ ups ds t)).length
/-- how many things are a thing, or below it -/
def sz (ds : List D) (x : Nat) : Nat := (partL ds x).length
theorem szL_all (ds : List D) (x : Nat) : szL ds ds.length x = sz ds x := rfl
theorem szL_succ (ds : List D) (k x : Nat) : szL ds (k + 1) x = szL ds k x + if x ∈ k :: ups ds k then 1 else 0 := by
  unfold szL
  rw [List.range_succ, List.filter_append, List.length_append]
  congr 1
  by_cases h : k = x
  · subst h; simp
  · by_cases m : x ∈ ups ds k
    · simp [m]
    · simp [h, m, Ne.symm h]
theorem ups_nodup {ds : List D} (h : Fst ds) : ∀ (n x : Nat), (ups ds x).length ≤ n → x < ds.length → (x :: ups ds x).Nodup
  | n, x, hn, hx => by
    rw [List.nodup_cons]
    refine ⟨ups_not h hx, ?_⟩
    rw [ups_eq h hx] at hn ⊢
    cases e : par ds x with
    | none => exact List.nodup_nil
    | some y =>
      rw [e] at hn
      cases n with
      | zero => simp at hn
      | succ n => exact ups_nodup h n y (by simpa using hn) (par_lt h.fine e)
/-! sizes_of: number 13 -/
def g_sizes_of_b1 : List IS := [.setI (.var 1) (.var 3) (.bin .add (.get2 (.var 1) (.var 3) (.cst (.int 0))) (.cst (.int 1)))]
def g_sizes_of_b2 : List IS := [.for_ [3] [3] (.seq (.lst (.cons (.var 2) (.star (.call 12 false (.cons (.var 0) (.cons (.var 2) .nil))) .nil)))) g_sizes_of_b1]
def g_sizes_of_c1 : IE := .comp [2] [2] (.rng1 (.blt .len (.cons (.var 0) .nil))) .no (.idx (.var 1) (.var 2))
def g_sizes_of : Df := ⟨1, 4, false, [.asg 1 true .dct0, .for_ [2] [3] (.rng1 (.blt .len (.cons (.var 0) .nil))) g_sizes_of_b2, .ret g_sizes_of_c1]⟩
/-! held_of: number 14 -/
def g_held_of_c1 : IE := .comp [2, 3] [2, 3] (.enum (.var 0)) (.yes (.cmp .eq (.var 3) (.var 1))) (.var 2)
def g_held_of : Df := ⟨2, 4, false, [.ret g_held_of_c1]⟩
/-! walk_of: number 15 -/
def g_walk_of_b1 : List IS := [.asg 3 false (.meth .pop (.var 2) .nil), .expr (.meth .append (.var 1) (.cons (.var 3) .nil)), .expr (.meth .extend (.var 2) (.cons (.rev (.call 14 false (.cons (.var 0) (.cons (.var 3) .nil)))) .nil))]
def g_walk_of : Df := ⟨1, 4, false, [.asg 1 true (.lst .nil), .asg 2 true (.rev (.call 14 false (.cons (.var 0) (.cons (.cst .non) .nil)))), .while_ [3] (.cmp .ne (.var 2) (.lst .nil)) g_walk_of_b1, .ret (.var 1)]⟩
def Sp_sizes_of (φ : FO) : Prop := ∀ ds, Fst ds → φ none [.tup ds] = some (.ok (.fr (.lst (dI ((List.range ds.length).map (sz ds))))) none)
def numO (k : Nat) : Option D := if k = 0 then none else some (.int (k : Int))
theorem numO_get (k : Nat) : (numO k).getD (.int 0) = .int (k : Int) := by
  unfold numO
  by_cases h : k = 0
  · subst h; rfl
  · simp [h]
theorem numO_succ (k : Nat) : numO (k + 1) = some (.int ((k : Int) + 1)) := by
  unfold numO
  simp
theorem sz_pos {ds : List D} {x : Nat} (hx : x < ds.length) : sz ds x ≠ 0 := by
  have : x ∈ partL ds x := by
    unfold partL
    rw [List.mem_filter]
    exact ⟨by simpa using hx, by simp⟩
  unfold sz
  intro z
  rw [List.length_eq_zero_iff.mp z] at this
  cases this
theorem count_nd : ∀ {L : List Nat}, L.Nodup → ∀ i, L.count i = if i ∈ L then 1 else 0
  | [], _, i => by simp
  | a :: L, h, i => by
    rw [List.nodup_cons] at h
    have ih := count_nd h.2 i
    rw [List.count_cons, ih]
    by_cases e : a = i
    · subst e; simp [h.1]
    · simp [e, Ne.symm e]
section
variable {Φ : Fn} {wn : Nat}
theorem sz_inner {n : Nat} {F : D} {t : Nat} {cnt : Nat → Nat} {l : List Nat} (hl : ∀ x ∈ l, x < n) (hn : n ≤ 1000) {Bk : Evn → Prop} {R : RV → Evn → Prop} :
    ∀ (j : Nat) (d : D) (env : Evn), (dI l)[j]? = some d → (∃ ks ys s3, env = [.im F, .ow (.dK ks ys), .im (.int (t : Int)), s3] ∧ DF ks ys n fun i => numO (cnt i + (l.take j).count i)) → ∃ env1, bindT [3] d env = some env1 ∧
      GoX (fun e => ∃ ks ys s3, unown [3] e = [.im F, .ow (.dK ks ys), .im (.int (t : Int)), s3] ∧ DF ks ys n fun i => numO (cnt i + (l.take (j + 1)).count i)) (fun e => ∃ ks ys s3, unown [3] e = [.im F, .ow (.dK ks ys), .im (.int (t : Int)), s3] ∧ DF ks ys n fun i => numO (cnt i + (l.take (j + 1)).count i)) Bk R (exB Φ wn false g_sizes_of_b1 env1) := by
  rintro j d env hd ⟨ks, ys, s3, rfl, h⟩
  have hj : j < l.length := by have := lt_of_get hd; rwa [dI_len] at this
  have ed : d = .int ((l[j] : Nat) : Int) := by
    unfold dI at hd
    rw [List.getElem?_map, List.getElem?_eq_getElem hj] at hd
    exact (Option.some.inj hd).symm
  subst ed
  have hx := hl _ (List.getElem_mem hj)
  generalize hX : l[j] = x at hx
  have g := h.at_ x
  have g2 := numO_get (cnt x + (l.take j).count x)
  rw [← g] at g2
  have kl : ks.length < LIM := by have := h.le; unfold LIM; omega
  refine ⟨[.im F, .ow (.dK ks ys), .im (.int (t : Int)), .im (.int (x : Int))], by simp [bindT], ?_⟩
  have p := h.put hx (.int (((cnt x + (l.take j).count x : Nat) : Int) + 1))
  generalize hc : cnt x + (l.take j).count x = c at *
  unfold g_sizes_of_b1
  refine ex_cons (set_goD (j := 1) (kk := (x : Int)) (d := .int ((c : Int) + 1)) (ks := ks) (ds := ys) (env1 := [.im F, .ow (.dK ks ys), .im (.int (t : Int)), .im (.int (x : Int))]) (env2 := [.im F, .ow (.dK ks ys), .im (.int (t : Int)), .im (.int (x : Int))]) (env3 := [.im F, .ow (.dK ks ys), .im (.int (t : Int)), .im (.int (x : Int))]) ?_ (by simp [ev, evA, evO, evC, evI, evF, exS, exB, Ms.seq, Mo.bnd, Mo.ret, Mo.lift, Mo.opd, RV.opd, Mo.set, RV.set, Mo.tst, Mo.imm, Mo.imms, Mo.nox, opds, OB.toD, atD, cmpD, binD, bltD, prepR, preps, storeR, storesR, nxOf, Mo.fl, isNon, tysD, tyD, intD, intsD, seqD, lstD, methD, isMut, mutD, callD, permL, bindT, slcD, startE, ioE, runD, setID, setOB, get1D, get2D, keyD, keyR]) (by simp [ev, evA, evO, evC, evI, evF, exS, exB, Ms.seq, Mo.bnd, Mo.ret, Mo.lift, Mo.opd, RV.opd, Mo.set, RV.set, Mo.tst, Mo.imm, Mo.imms, Mo.nox, opds, OB.toD, atD, cmpD, binD, bltD, prepR, preps, storeR, storesR, nxOf, Mo.fl, isNon, tysD, tyD, intD, intsD, seqD, lstD, methD, isMut, mutD, callD, permL, bindT, slcD, startE, ioE, runD, setID, setOB, get1D, get2D, keyD, keyR]) rfl kl ?_)
  · simp only [ev, Mo.set, Mo.bnd, Mo.ret]
    simp [RV.set, Mo.opd, RV.opd, Mo.lift, Mo.imm, OB.toD, get2D, keyD, g2, binD, Mo.bnd, Mo.ret, Mo.set, ev]
  · refine ex_nil ⟨putKs ks (.inl (x : Int)), putX ks ys (.inl (x : Int)) (.int ((c : Int) + 1)), .un, by simp [unown], ?_⟩
    refine ⟨p.L, p.len, fun i => ?_⟩
    rw [p.at_ i, List.take_succ_eq_append_getElem hj, hX, List.count_append]
    by_cases e : i = x
    · subst e
      have : List.count i [i] = 1 := by simp
      rw [this, ← Nat.add_assoc, hc, numO_succ]
      simp
    · have : List.count i [x] = 0 := by simp [List.count_cons, Ne.symm e]
      simp [e, this]
theorem ok_sizes_of (ha : Sp_above_of (Φ 12)) : Sp_sizes_of (runD Φ wn g_sizes_of) := by
  intro ds h
  have hl := h.few
  have hr : -100000 ≤ (ds.length : Int) ∧ (ds.length : Int) ≤ 100000 := by omega
  refine run_val (env := [.im (.tup ds), .un, .un, .un]) rfl rfl ?_
  refine ex_cons (asg_fr (o := .dK [] []) (env1 := [.im (.tup ds), .un, .un, .un]) (by simp [ev, evA, evO, evC, evI, evF, exS, exB, Ms.seq, Mo.bnd, Mo.ret, Mo.lift, Mo.opd, RV.opd, Mo.set, RV.set, Mo.tst, Mo.imm, Mo.imms, Mo.nox, opds, OB.toD, atD, cmpD, binD, bltD, prepR, preps, storeR, storesR, nxOf, Mo.fl, isNon, tysD, tyD, intD, intsD, seqD, lstD, methD, isMut, mutD, callD, permL, bindT, slcD, startE, ioE, runD, setID, setOB, get1D, get2D, keyD, keyR]) ⟨rfl, by simp⟩ ?_)
  refine ex_cons (for_in (ds := (List.range ds.length).map fun (k : Nat) => D.int (0 + (k : Int))) (env1 := [.im (.tup ds), .ow (.dK [] []), .un, .un]) (fun k env => ∃ ks ys s2, env = [.im (.tup ds), .ow (.dK ks ys), s2, .un] ∧ DF ks ys ds.length fun i => numO (szL ds k i)) (by simp [ev, evA, evO, evC, evI, evF, exS, exB, Ms.seq, Mo.bnd, Mo.ret, Mo.lift, Mo.opd, RV.opd, Mo.set, RV.set, Mo.tst, Mo.imm, Mo.imms, Mo.nox, opds, OB.toD, atD, cmpD, binD, bltD, prepR, preps, storeR, storesR, nxOf, Mo.fl, isNon, tysD, tyD, intD, intsD, seqD, lstD, methD, isMut, mutD, callD, permL, bindT, slcD, startE, ioE, runD, setID, setOB, get1D, get2D, keyD, keyR, hr]) ⟨[], [], .un, rfl, DF.nil _⟩ ?_ ?_)
  · rintro k d env hd ⟨ks, ys, s2, rfl, hD⟩
    obtain ⟨hk, rfl⟩ := rng_get hd
    have a := ha ds (.tup ds) k (.inl rfl) h hk
    have lu : (ups ds k).length ≤ 1000 := by have := ups_len (ds := ds) (x := k); omega
    have nd := ups_nodup h _ k (Nat.le_refl _) hk
    have lt : ∀ x ∈ k :: ups ds k, x < ds.length := fun x hx => by
      rcases List.mem_cons.mp hx with rfl | hx
      · exact hk
      · exact (ups_mem h _ k (Nat.le_refl _) hk x hx).1
    have e0 : (0 : Int) + (k : Int) = (k : Int) := by omega
    refine ⟨[.im (.tup ds), .ow (.dK ks ys), .im (.int (k : Int)), .un], by simp [bindT], ?_⟩
    unfold g_sizes_of_b2
    refine ex_cons (for_in (ds := dI (k :: ups ds k)) (env1 := [.im (.tup ds), .ow (.dK ks ys), .im (.int (k : Int)), .un]) (fun j env => ∃ ks ys s3, env = [.im (.tup ds), .ow (.dK ks ys), .im (.int (k : Int)), s3] ∧ DF ks ys ds.length fun i => numO (szL ds k i + ((k :: ups ds k).take j).count i)) ?_ ⟨ks, ys, .un, rfl, by simpa using hD⟩ (sz_inner lt hl) ?_)
    · have ll : (dI (ups ds k)).length + 1 ≤ LIM := by rw [dI_len]; unfold LIM; omega
      have e1 : dI (k :: ups ds k) = .int (k : Int) :: dI (ups ds k) := rfl
      rw [e1]
      generalize dI (ups ds k) = U at *
      have iv := fun env => opds_vals env U
      simp [ev, evA, evO, evC, evI, evF, exS, exB, Ms.seq, Mo.bnd, Mo.ret, Mo.lift, Mo.opd, RV.opd, Mo.set, RV.set, Mo.tst, Mo.imm, Mo.imms, Mo.nox, opds, OB.toD, atD, cmpD, binD, bltD, prepR, preps, storeR, storesR, nxOf, Mo.fl, isNon, tysD, tyD, intD, intsD, seqD, lstD, methD, isMut, mutD, callD, permL, bindT, slcD, startE, ioE, runD, setID, setOB, get1D, get2D, keyD, keyR, a, ll, iv]
    · rintro env ⟨ks, ys, s3, rfl, hD⟩
      refine ex_nil ⟨ks, ys, .im (.int (k : Int)), by simp [unown], hD.L, hD.len, fun i => ?_⟩
      rw [hD.at_ i, szL_succ, dI_len, List.take_length]
      congr 2
      exact count_nd nd i
  · rintro env ⟨ks, ys, s2, rfl, hD⟩
    have lr : ((List.range ds.length).map fun (k : Nat) => D.int (0 + (k : Int))).length = ds.length := by simp
    rw [lr] at hD
    refine ex_cons (ret_fr (o := .lst (dI ((List.range ds.length).map (sz ds)))) (env1 := [.im (.tup ds), .ow (.dK ks ys), s2, .un]) ?_ rfl)
    have z := comp_is (Φ := Φ) (own := [2]) (t := [2]) (it := .rng1 (.blt .len (.cons (.var 0) .nil))) (c := .no) (e := .idx (.var 1) (.var 2)) (env := [.im (.tup ds), .ow (.dK ks ys), s2, .un]) (dI (List.range ds.length)) (fun d => some (.int ((sz ds (natOf d) : Nat) : Int))) (by simp [ev, evA, evO, evC, evI, evF, exS, exB, Ms.seq, Mo.bnd, Mo.ret, Mo.lift, Mo.opd, RV.opd, Mo.set, RV.set, Mo.tst, Mo.imm, Mo.imms, Mo.nox, opds, OB.toD, atD, cmpD, binD, bltD, prepR, preps, storeR, storesR, nxOf, Mo.fl, isNon, tysD, tyD, intD, intsD, seqD, lstD, methD, isMut, mutD, callD, permL, bindT, slcD, startE, ioE, runD, setID, setOB, get1D, get2D, keyD, keyR, hr, dI]) (by rw [dI_len]; unfold LIM; simp; omega) (by simp [unown, back]) fun d hd => by
      obtain ⟨x, hx, rfl⟩ := List.mem_map.mp hd
      have hx : x < ds.length := by simpa using hx
      have g := hD.at_ x
      rw [szL_all] at g
      have q : natOf (.int (x : Int)) = x := by simp [natOf]
      have g2 : atK ks ys (.inl (x : Int)) = some (.int ((sz ds x : Nat) : Int)) := by
        rw [g]
        unfold numO
        rw [if_neg (sz_pos hx)]
      refine ⟨[.im (.tup ds), .ow (.dK ks ys), .im (.int (x : Int)), .un], by simp [unown, bindT], by simp [unown], .inr ⟨_, rfl, by simp [ev, evA, evO, evC, evI, evF, exS, exB, Ms.seq, Mo.bnd, Mo.ret, Mo.lift, Mo.opd, RV.opd, Mo.set, RV.set, Mo.tst, Mo.imm, Mo.imms, Mo.nox, opds, OB.toD, atD, cmpD, binD, bltD, prepR, preps, storeR, storesR, nxOf, Mo.fl, isNon, tysD, tyD, intD, intsD, seqD, lstD, methD, isMut, mutD, callD, permL, bindT, slcD, startE, ioE, runD, setID, setOB, get1D, get2D, keyD, keyR], ?_⟩⟩
      rw [q]
      simp [ev, evA, evO, evC, evI, evF, exS, exB, Ms.seq, Mo.bnd, Mo.ret, Mo.lift, Mo.opd, RV.opd, Mo.set, RV.set, Mo.tst, Mo.imm, Mo.imms, Mo.nox, opds, OB.toD, atD, cmpD, binD, bltD, prepR, preps, storeR, storesR, nxOf, Mo.fl, isNon, tysD, tyD, intD, intsD, seqD, lstD, methD, isMut, mutD, callD, permL, bindT, slcD, startE, ioE, runD, setID, setOB, get1D, get2D, keyD, keyR, g2]
    unfold g_sizes_of_c1
    rw [z, fm_map]
    congr 4
    unfold dI
    rw [List.map_map, List.map_map]
    apply List.map_congr_left
    intro x hx
    simp [natOf]
end
/-! ### things held -/
def heldL (ds : List D) (p : Option Nat) : List Nat := (List.range ds.length).filter fun k => decide (par ds k = p)
def Sp_held_of (φ : FO) : Prop := ∀ ds (p : Option Nat), Fst ds → φ none [.tup ds, hereD p] = some (.ok (.fr (.lst (dI (heldL ds p)))) none)
theorem eq_here (a b : Option Nat) : eqD (hereD a) (hereD b) = some (decide (a = b)) := by
  cases a with
  | none => cases b <;> rfl
  | some a =>
    cases b with
    | none => rfl
    | some b =>
      show some ((a : Int) == (b : Int)) = _
      by_cases h : a = b
      · subst h; simp
      · have : ¬ ((a : Int) = (b : Int)) := by omega
        simp [h, this]
theorem enum_row {ds : List D} (h : Fine ds) : ((List.range ds.length).zip ds |>.map fun p => D.tup [.int (p.1 : Int), p.2]) = (List.range ds.length).map fun (k : Nat) => D.tup [.int (k : Int), hereD (par ds k)] := by
  apply List.ext_getElem
  · simp
  · intro k h1 h2
    have hk : k < ds.length := by simpa using h2
    have g := get_par h hk
    rw [List.getElem?_eq_getElem hk] at g
    have g := Option.some.inj g
    simp [g]
def pairK : D → Nat
  | .tup [.int i, _] => i.toNat
  | _ => 0
theorem held_row {Φ : Fn} {ds : List D} (h : Fst ds) (p : Option Nat) : ev Φ g_held_of_c1 [.im (.tup ds), .im (hereD p), .un, .un] = some (.ok (.fr (.lst (dI (heldL ds p)))) [.im (.tup ds), .im (hereD p), .un, .un]) := by
  have hl := h.few
  have z := comp_is (Φ := Φ) (own := [2, 3]) (t := [2, 3]) (it := .enum (.var 0)) (c := .yes (.cmp .eq (.var 3) (.var 1))) (e := .var 2) (env := [.im (.tup ds), .im (hereD p), .un, .un]) ((List.range ds.length).map fun (k : Nat) => D.tup [.int (k : Int), hereD (par ds k)]) (fun d => if decide (par ds (pairK d) = p) = true then some (.int ((pairK d : Nat) : Int)) else none) (by rw [← enum_row h.fine]; simp [ev, evA, evO, evC, evI, evF, exS, exB, Ms.seq, Mo.bnd, Mo.ret, Mo.lift, Mo.opd, RV.opd, Mo.set, RV.set, Mo.tst, Mo.imm, Mo.imms, Mo.nox, opds, OB.toD, atD, cmpD, binD, bltD, prepR, preps, storeR, storesR, nxOf, Mo.fl, isNon, tysD, tyD, intD, intsD, seqD, lstD, methD, isMut, mutD, callD, permL, bindT, slcD, startE, ioE, runD, setID, setOB, get1D, get2D, keyD, keyR]) (by simp [LIM]; omega) (by simp [unown, back]) fun d hd => by
    obtain ⟨k, hk, rfl⟩ := List.mem_map.mp hd
    have q : pairK (.tup [.int (k : Int), hereD (par ds k)]) = k := by simp [pairK]
    have e := eq_here (par ds k) p
    rw [q]
    refine ⟨[.im (.tup ds), .im (hereD p), .im (.int (k : Int)), .im (hereD (par ds k))], by simp [unown, bindT], by simp [unown], ?_⟩
    generalize hereD (par ds k) = A at *
    generalize hereD p = B at *
    by_cases m : par ds k = p
    · simp only [m, decide_true] at e
      exact .inr ⟨.int (k : Int), by simp [m], by simp [ev, evA, evO, evC, evI, evF, exS, exB, Ms.seq, Mo.bnd, Mo.ret, Mo.lift, Mo.opd, RV.opd, Mo.set, RV.set, Mo.tst, Mo.imm, Mo.imms, Mo.nox, opds, OB.toD, atD, cmpD, binD, bltD, prepR, preps, storeR, storesR, nxOf, Mo.fl, isNon, tysD, tyD, intD, intsD, seqD, lstD, methD, isMut, mutD, callD, permL, bindT, slcD, startE, ioE, runD, setID, setOB, get1D, get2D, keyD, keyR, e], by simp [ev, evA, evO, evC, evI, evF, exS, exB, Ms.seq, Mo.bnd, Mo.ret, Mo.lift, Mo.opd, RV.opd, Mo.set, RV.set, Mo.tst, Mo.imm, Mo.imms, Mo.nox, opds, OB.toD, atD, cmpD, binD, bltD, prepR, preps, storeR, storesR, nxOf, Mo.fl, isNon, tysD, tyD, intD, intsD, seqD, lstD, methD, isMut, mutD, callD, permL, bindT, slcD, startE, ioE, runD, setID, setOB, get1D, get2D, keyD, keyR]⟩
    · simp only [m, decide_false] at e
      exact .inl ⟨by simp [m], by simp [ev, evA, evO, evC, evI, evF, exS, exB, Ms.seq, Mo.bnd, Mo.ret, Mo.lift, Mo.opd, RV.opd, Mo.set, RV.set, Mo.tst, Mo.imm, Mo.imms, Mo.nox, opds, OB.toD, atD, cmpD, binD, bltD, prepR, preps, storeR, storesR, nxOf, Mo.fl, isNon, tysD, tyD, intD, intsD, seqD, lstD, methD, isMut, mutD, callD, permL, bindT, slcD, startE, ioE, runD, setID, setOB, get1D, get2D, keyD, keyR, e]⟩
  unfold g_held_of_c1
  rw [z]
  congr 4
  unfold heldL dI
  rw [List.filterMap_map]
  have : ∀ l : List Nat, l.filterMap ((fun d => if decide (par ds (pairK d) = p) = true then some (D.int ((pairK d : Nat) : Int)) else none) ∘ fun (k : Nat) => D.tup [.int (k : Int), hereD (par ds k)]) = (l.filter fun k => decide (par ds k = p)).map fun (k : Nat) => D.int (k : Int) := by
    intro l
    induction l with
    | nil => rfl
    | cons x l ih =>
      have q : pairK (.tup [.int (x : Int), hereD (par ds x)]) = x := by simp [pairK]
      rw [List.filterMap_cons]
      simp only [Function.comp, q]
      by_cases m : par ds x = p
      · simp only [m, decide_true, if_true, List.filter_cons, List.map_cons]
        rw [← ih]
      · simp only [m, decide_false, List.filter_cons]
        exact ih
  exact this _
theorem ok_held_of {Φ : Fn} {wn : Nat} : Sp_held_of (runD Φ wn g_held_of) := fun ds p h => by
  have e := held_row (Φ := Φ) h p
  generalize hereD p = B at *
  simp [ev, evA, evO, evC, evI, evF, exS, exB, Ms.seq, Mo.bnd, Mo.ret, Mo.lift, Mo.opd, RV.opd, Mo.set, RV.set, Mo.tst, Mo.imm, Mo.imms, Mo.nox, opds, OB.toD, atD, cmpD, binD, bltD, prepR, preps, storeR, storesR, nxOf, Mo.fl, isNon, tysD, tyD, intD, intsD, seqD, lstD, methD, isMut, mutD, callD, permL, bindT, slcD, startE, ioE, runD, setID, setOB, get1D, get2D, keyD, keyR, g_held_of, e]
end HB

set_option Elab.async false
set_option linter.all false
set_option maxRecDepth 100000
set_option maxHeartbeats 4000000
/-! HBProg2: the walk; the plain functions of forests. -/
namespace HB
open PySem PySem.Spec PyProof.Rows L2

theorem ret_ow {Φ : Fn} {w i : Nat} {io : Bool} {o : OB} {env : Evn} {N C Bk : Evn → Prop} {R : RV → Evn → Prop} (h : env[i]? = some (.ow o)) (hi : (i == 0 && io) = false) (k : R (.fr o) (env.set i .un)) : GoX N C Bk R (exS Φ w io (.ret (.var i)) env) := by
  rw [exS]
  refine fl_go (a := .bo i) (e := env) (by rw [ev]; simp [h]) ?_
  simp only [h, hi]
  exact k
theorem eq_lnil (ds : List D) : eqD (.lst ds) (.lst []) = some ds.isEmpty := by
  cases ds with
  | nil => rfl
  | cons d ds => simp [eqD]
theorem dI_rev (l : List Nat) : (dI l).reverse = dI l.reverse := by simp [dI]
theorem dI_nil : dI [] = [] := rfl
theorem dI_emp (l : List Nat) : (dI l).isEmpty = l.isEmpty := by cases l <;> rfl
/-- the walk from a stack -/
def wkF (ds : List D) : Nat → List Nat → List Nat
  | 0, _ => []
  | _ + 1, [] => []
  | n + 1, x :: r => x :: wkF ds n (heldL ds (some x) ++ r)
def walkL (ds : List D) : List Nat := wkF ds ds.length (heldL ds none)
theorem held_nd (ds : List D) (p : Option Nat) : (heldL ds p).Nodup := filter_nd _
theorem held_lt {ds : List D} {p : Option Nat} {c : Nat} (h : c ∈ heldL ds p) : c < ds.length := filter_lt h
theorem held_par {ds : List D} {p : Option Nat} {c : Nat} (h : c ∈ heldL ds p) : par ds c = p := by
  have := (List.mem_filter.mp h).2
  simpa using this
theorem held_mem {ds : List D} {p : Option Nat} {c : Nat} (hc : c < ds.length) (h : par ds c = p) : c ∈ heldL ds p := by
  unfold heldL
  rw [List.mem_filter]
  exact ⟨by simpa using hc, by simpa using h⟩
structure WInv (ds : List D) (found S : List Nat) : Prop where
  nd : (found ++ S).Nodup
  lt : ∀ x ∈ found ++ S, x < ds.length
  up : ∀ x ∈ found ++ S, ∀ p, par ds x = some p → p ∈ found
theorem WInv.start (ds : List D) : WInv ds [] (heldL ds none) := ⟨held_nd _ _, fun x hx => held_lt hx, fun x hx p hp => by
  have := held_par (show x ∈ heldL ds none from hx)
  rw [this] at hp; cases hp⟩
theorem WInv.step {ds : List D} {found r : List Nat} {x : Nat} (h : WInv ds found (x :: r)) : WInv ds (found ++ [x]) (heldL ds (some x) ++ r) := by
  have nx : x ∉ found := fun z => by
    have := (List.nodup_append.mp h.nd).2.2 x z x (by simp)
    exact this rfl
  have nc : ∀ c ∈ heldL ds (some x), c ∉ found ++ x :: r := fun c hc z => nx (h.up c z x (held_par hc))
  refine ⟨?_, fun y hy => ?_, fun y hy p hp => ?_⟩
  · have n1 := h.nd
    have e : found ++ x :: r = (found ++ [x]) ++ r := by simp
    rw [e, List.nodup_append] at n1
    obtain ⟨a1, a2, a3⟩ := n1
    rw [List.nodup_append]
    refine ⟨a1, ?_, fun a ha b hb => ?_⟩
    · rw [List.nodup_append]
      refine ⟨held_nd _ _, a2, fun a ha b hb z => ?_⟩
      subst z
      exact nc a ha (by simp [hb])
    · rcases List.mem_append.mp hb with hb | hb
      · intro z
        subst z
        refine nc a hb ?_
        rcases List.mem_append.mp ha with ha | ha
        · simp [ha]
        · simp only [List.mem_cons, List.not_mem_nil, or_false] at ha
          simp [ha]
      · exact a3 a ha b hb
  · rcases List.mem_append.mp hy with hy | hy
    · refine h.lt y ?_
      rcases List.mem_append.mp hy with hy | hy
      · simp [hy]
      · simp only [List.mem_cons, List.not_mem_nil, or_false] at hy
        simp [hy]
    · rcases List.mem_append.mp hy with hy | hy
      · exact held_lt hy
      · exact h.lt y (by simp [hy])
  · have old : y ∈ found ++ x :: r → p ∈ found ++ [x] := fun z => by
      have := h.up y z p hp
      simp [this]
    rcases List.mem_append.mp hy with hy | hy
    · refine old ?_
      rcases List.mem_append.mp hy with hy | hy
      · simp [hy]
      · simp only [List.mem_cons, List.not_mem_nil, or_false] at hy
        simp [hy]
    · rcases List.mem_append.mp hy with hy | hy
      · have := held_par hy
        rw [this] at hp; cases hp
        simp
      · exact old (by simp [hy])
theorem WInv.len {ds : List D} {found S : List Nat} (h : WInv ds found S) : found.length + S.length ≤ ds.length := by
  have := ndN_len h.nd h.lt
  simpa using this
def Sp_walk_of (φ : FO) : Prop := ∀ ds, Fst ds → φ none [.tup ds] = some (.ok (.fr (.lst (dI (walkL ds)))) none)
theorem ok_walk_of {Φ : Fn} (hh : Sp_held_of (Φ 14)) : Sp_walk_of (runD Φ 4000 g_walk_of) := by
  intro ds h
  have hl := h.few
  have h0 : Φ 14 none [.tup ds, .non] = _ := hh ds none h
  refine run_val (env := [.im (.tup ds), .un, .un, .un]) rfl rfl ?_
  refine ex_cons (asg_fr (o := .lst []) (env1 := [.im (.tup ds), .un, .un, .un]) (by simp [ev, evA, evO, evC, evI, evF, exS, exB, Ms.seq, Mo.bnd, Mo.ret, Mo.lift, Mo.opd, RV.opd, Mo.set, RV.set, Mo.tst, Mo.imm, Mo.imms, Mo.nox, opds, OB.toD, atD, cmpD, binD, bltD, prepR, preps, storeR, storesR, nxOf, Mo.fl, isNon, tysD, tyD, intD, intsD, seqD, lstD, methD, isMut, mutD, callD, permL, bindT, slcD, startE, ioE, runD, setID, setOB, get1D, get2D, keyD, keyR]) ⟨rfl, by simp⟩ ?_)
  refine ex_cons (asg_fr (o := .lst (dI (heldL ds none).reverse)) (env1 := [.im (.tup ds), .ow (.lst []), .un, .un]) (by rw [← dI_rev]; simp [ev, evA, evO, evC, evI, evF, exS, exB, Ms.seq, Mo.bnd, Mo.ret, Mo.lift, Mo.opd, RV.opd, Mo.set, RV.set, Mo.tst, Mo.imm, Mo.imms, Mo.nox, opds, OB.toD, atD, cmpD, binD, bltD, prepR, preps, storeR, storesR, nxOf, Mo.fl, isNon, tysD, tyD, intD, intsD, seqD, lstD, methD, isMut, mutD, callD, permL, bindT, slcD, startE, ioE, runD, setID, setOB, get1D, get2D, keyD, keyR, h0]) ⟨rfl, by simp⟩ ?_)
  refine ex_cons (while_in (fun m env => ∃ found S, env = [.im (.tup ds), .ow (.lst (dI found)), .ow (.lst (dI S.reverse)), .un] ∧ WInv ds found S ∧ m = ds.length - found.length ∧ found ++ wkF ds m S = walkL ds) ds.length (by omega) ⟨[], heldL ds none, rfl, WInv.start ds, rfl, rfl⟩ ?_)
  rintro m env ⟨found, S, rfl, W, rfl, hw⟩
  have wl := W.len
  cases S with
  | nil =>
    refine ⟨false, [.im (.tup ds), .ow (.lst (dI found)), .ow (.lst []), .un], by simp [ev, evA, evO, evC, evI, evF, exS, exB, Ms.seq, Mo.bnd, Mo.ret, Mo.lift, Mo.opd, RV.opd, Mo.set, RV.set, Mo.tst, Mo.imm, Mo.imms, Mo.nox, opds, OB.toD, atD, cmpD, binD, bltD, prepR, preps, storeR, storesR, nxOf, Mo.fl, isNon, tysD, tyD, intD, intsD, seqD, lstD, methD, isMut, mutD, callD, permL, bindT, slcD, startE, ioE, runD, setID, setOB, get1D, get2D, keyD, keyR, eq_lnil, LIM, dI_nil], .inl ⟨rfl, ?_⟩⟩
    have e : walkL ds = found := by
      rw [← hw]
      cases ds.length - found.length <;> simp [wkF]
    refine ex_cons (ret_ow (i := 1) (o := .lst (dI found)) rfl rfl ?_)
    rw [e]
  | cons x r =>
    simp only [List.length_cons] at wl
    have hx : x < ds.length := W.lt x (by simp)
    have h1 : Φ 14 none [.tup ds, .int (x : Int)] = some (.ok (.fr (.lst (dI (heldL ds (some x))))) none) := hh ds (some x) h
    have W2 := W.step
    have wl2 := W2.len
    simp only [List.length_append, List.length_cons, List.length_nil] at wl2
    have e1 : dI (x :: r).reverse = dI r.reverse ++ [.int (x : Int)] := by simp [dI]
    refine ⟨true, [.im (.tup ds), .ow (.lst (dI found)), .ow (.lst (dI (x :: r).reverse)), .un], ?_, .inr ⟨rfl, by omega, ?_⟩⟩
    · rw [e1]
      simp [ev, evA, evO, evC, evI, evF, exS, exB, Ms.seq, Mo.bnd, Mo.ret, Mo.lift, Mo.opd, RV.opd, Mo.set, RV.set, Mo.tst, Mo.imm, Mo.imms, Mo.nox, opds, OB.toD, atD, cmpD, binD, bltD, prepR, preps, storeR, storesR, nxOf, Mo.fl, isNon, tysD, tyD, intD, intsD, seqD, lstD, methD, isMut, mutD, callD, permL, bindT, slcD, startE, ioE, runD, setID, setOB, get1D, get2D, keyD, keyR, eq_lnil, LIM]
    · rw [e1]
      unfold g_walk_of_b1
      refine ex_cons (asg_val (d := .int (x : Int)) (env1 := [.im (.tup ds), .ow (.lst (dI found)), .ow (.lst (dI r.reverse)), .un]) (by simp [ev, evA, evO, evC, evI, evF, exS, exB, Ms.seq, Mo.bnd, Mo.ret, Mo.lift, Mo.opd, RV.opd, Mo.set, RV.set, Mo.tst, Mo.imm, Mo.imms, Mo.nox, opds, OB.toD, atD, cmpD, binD, bltD, prepR, preps, storeR, storesR, nxOf, Mo.fl, isNon, tysD, tyD, intD, intsD, seqD, lstD, methD, isMut, mutD, callD, permL, bindT, slcD, startE, ioE, runD, setID, setOB, get1D, get2D, keyD, keyR]) ⟨rfl, by simp⟩ ?_)
      have lf : (dI found).length < LIM := by rw [dI_len]; unfold LIM; omega
      refine ex_cons (expr_go (r := .val .non) (env1 := [.im (.tup ds), .ow (.lst (dI (found ++ [x]))), .ow (.lst (dI r.reverse)), .im (.int (x : Int))]) (by
        have e2 : dI [x] = [.int (x : Int)] := rfl
        rw [dI_app, e2]
        generalize dI found = U at *
        simp [ev, evA, evO, evC, evI, evF, exS, exB, Ms.seq, Mo.bnd, Mo.ret, Mo.lift, Mo.opd, RV.opd, Mo.set, RV.set, Mo.tst, Mo.imm, Mo.imms, Mo.nox, opds, OB.toD, atD, cmpD, binD, bltD, prepR, preps, storeR, storesR, nxOf, Mo.fl, isNon, tysD, tyD, intD, intsD, seqD, lstD, methD, isMut, mutD, callD, permL, bindT, slcD, startE, ioE, runD, setID, setOB, get1D, get2D, keyD, keyR, lf]) ?_)
      have le : (dI r.reverse).length + (dI (heldL ds (some x))).length ≤ LIM := by rw [dI_len, dI_len, List.length_reverse]; unfold LIM; omega
      refine ex_cons (expr_go (r := .val .non) (env1 := [.im (.tup ds), .ow (.lst (dI (found ++ [x]))), .ow (.lst (dI (heldL ds (some x) ++ r).reverse)), .im (.int (x : Int))]) ?_ ?_)
      · have e3 : dI (heldL ds (some x) ++ r).reverse = dI r.reverse ++ (dI (heldL ds (some x))).reverse := by rw [List.reverse_append, dI_app, dI_rev]
        rw [e3]
        generalize dI (heldL ds (some x)) = U at *
        generalize dI r.reverse = V at *
        simp [ev, evA, evO, evC, evI, evF, exS, exB, Ms.seq, Mo.bnd, Mo.ret, Mo.lift, Mo.opd, RV.opd, Mo.set, RV.set, Mo.tst, Mo.imm, Mo.imms, Mo.nox, opds, OB.toD, atD, cmpD, binD, bltD, prepR, preps, storeR, storesR, nxOf, Mo.fl, isNon, tysD, tyD, intD, intsD, seqD, lstD, methD, isMut, mutD, callD, permL, bindT, slcD, startE, ioE, runD, setID, setOB, get1D, get2D, keyD, keyR, h1, le]
      · refine ex_nil ⟨found ++ [x], heldL ds (some x) ++ r, by simp [unown], W2, by simp; omega, ?_⟩
        rw [← hw]
        have : ds.length - found.length = (ds.length - found.length - 1) + 1 := by omega
        rw [this]
        simp [wkF]
/-! ### the drawing -/
def Sp_well (φ : FO) : Prop := ∀ (zs : List Int) (k : Nat), k ≤ 1000 → ∃ o, φ none [.frz (zs.map .int), .int (k : Int)] = some (.ok (.fr o) none) ∧ Well 0 o
theorem ok_well {Φ : Fn} {wn : Nat} : Sp_well (runD Φ wn f_well) := fun zs k hk => well_ok zs hk
def Sp_forest (φ : FO) : Prop := ∀ (n : Nat) (o : OB) (m : Int), Well n o → n ≤ 500000 → 0 < m ∧ m ≤ 60 → ∃ ds o', φ (some o) [.int m] = some (.ok (.val (.tup ds)) (some o')) ∧ Fine ds ∧ ds ≠ [] ∧ ds.length ≤ 60 ∧ isForest (.tup ds) = true ∧ Well (n + 400) o'
theorem ok_forest {Φ : Fn} {wn : Nat} (h : DrawOk (Φ 4)) : Sp_forest (runD Φ wn (f_law_forest 4)) := fun n o m hw hn hm => plan_ok h hw hn hm
def Sp_law (φ : FO) : Prop := ∀ (zs : List Int), zs.length ≤ 63 → φ none [.frz (zs.map .int)] = some (.ok (.val (.bl true)) none)
/-! ### the functions of forests -/
/-! sizes: number 16 -/
def g_sizes : Df := ⟨1, 1, false, [.expr (.call 10 false (.cons (.var 0) .nil)), .ret (.call 13 false (.cons (.var 0) .nil))]⟩
/-! depths: number 17 -/
def g_depths_c1 : IE := .comp [1] [1] (.rng1 (.blt .len (.cons (.var 0) .nil))) .no (.blt .len (.cons (.call 12 false (.cons (.var 0) (.cons (.var 1) .nil))) .nil))
def g_depths : Df := ⟨1, 2, false, [.expr (.call 10 false (.cons (.var 0) .nil)), .ret g_depths_c1]⟩
/-! above: number 18 -/
def g_above : Df := ⟨2, 2, false, [.expr (.call 10 false (.cons (.var 0) .nil)), .expr (.call 11 false (.cons (.var 0) (.cons (.var 1) .nil))), .ret (.call 12 false (.cons (.var 0) (.cons (.var 1) .nil)))]⟩
/-! below: number 19 -/
def g_below_c1 : IE := .comp [2] [2] (.rng1 (.blt .len (.cons (.var 0) .nil))) (.yes (.cmp .mem (.var 1) (.call 12 false (.cons (.var 0) (.cons (.var 2) .nil))))) (.var 2)
def g_below : Df := ⟨2, 3, false, [.expr (.call 10 false (.cons (.var 0) .nil)), .expr (.call 11 false (.cons (.var 0) (.cons (.var 1) .nil))), .ret g_below_c1]⟩
/-! firsts: number 20 -/
def g_firsts : Df := ⟨1, 1, false, [.expr (.call 10 false (.cons (.var 0) .nil)), .ret (.call 14 false (.cons (.var 0) (.cons (.cst .non) .nil)))]⟩
/-! held_by: number 21 -/
def g_held_by : Df := ⟨2, 2, false, [.expr (.call 10 false (.cons (.var 0) .nil)), .expr (.call 11 false (.cons (.var 0) (.cons (.var 1) .nil))), .ret (.call 14 false (.cons (.var 0) (.cons (.var 1) .nil)))]⟩
/-! walk: number 22 -/
def g_walk : Df := ⟨1, 1, false, [.expr (.call 10 false (.cons (.var 0) .nil)), .ret (.call 15 false (.cons (.var 0) .nil))]⟩
section
variable {Φ : Fn} {wn : Nat}
/-- one of a forest alone: what it gives, or that it is none -/
def Sp1 (φ : FO) (f : List D → List D) : Prop := (∀ ds, Fst ds → φ none [.tup ds] = some (.ok (.fr (.lst (f ds))) none)) ∧ ∀ d, Ask d → isForest d = false → φ none [d] = some (.ex 1)
/-- one of a forest and a thing -/
def Sp2 (φ : FO) (f : List D → Nat → List D) : Prop := (∀ ds x, Fst ds → x < ds.length → φ none [.tup ds, .int ((x : Nat) : Int)] = some (.ok (.fr (.lst (f ds x))) none)) ∧ (∀ d t, Ask d → isForest d = false → φ none [d, t] = some (.ex 1)) ∧
  ∀ ds t, Fst ds → noFrz t = true → isI t 0 ((ds.length : Int) - 1) = false → φ none [.tup ds, t] = some (.ex 2)
theorem Sp_check_forest.no {φ : FO} (h : Sp_check_forest φ) {d : D} (k : Ask d) (n : isForest d = false) : φ none [d] = some (.ex 1) := by
  rw [h _ k, if_neg (by rw [n]; simp)]
theorem Sp_check_thing.no {φ : FO} (h : Sp_check_thing φ) {ds : List D} {t : D} (k : noFrz t = true) (n : isI t 0 ((ds.length : Int) - 1) = false) : φ none [.tup ds, t] = some (.ex 2) := by
  rw [h _ _ k, if_neg (by rw [n]; simp)]
def belowL (ds : List D) (x : Nat) : List Nat := (List.range ds.length).filter fun k => decide (x ∈ ups ds k)
def depthL (ds : List D) : List Nat := (List.range ds.length).map fun k => (ups ds k).length
theorem ok_sizes (h : Sp_check_forest (Φ 10)) (k : Sp_sizes_of (Φ 13)) : Sp1 (runD Φ wn g_sizes) fun ds => dI ((List.range ds.length).map (sz ds)) :=
  ⟨fun ds f => by simp [ev, evA, evO, evC, evI, evF, exS, exB, Ms.seq, Mo.bnd, Mo.ret, Mo.lift, Mo.opd, RV.opd, Mo.set, RV.set, Mo.tst, Mo.imm, Mo.imms, Mo.nox, opds, OB.toD, atD, cmpD, binD, bltD, prepR, preps, storeR, storesR, nxOf, Mo.fl, isNon, tysD, tyD, intD, intsD, seqD, lstD, methD, isMut, mutD, callD, permL, bindT, slcD, startE, ioE, runD, setID, setOB, get1D, get2D, keyD, keyR, g_sizes, h.yes f, k ds f], fun d f n => by simp [ev, evA, evO, evC, evI, evF, exS, exB, Ms.seq, Mo.bnd, Mo.ret, Mo.lift, Mo.opd, RV.opd, Mo.set, RV.set, Mo.tst, Mo.imm, Mo.imms, Mo.nox, opds, OB.toD, atD, cmpD, binD, bltD, prepR, preps, storeR, storesR, nxOf, Mo.fl, isNon, tysD, tyD, intD, intsD, seqD, lstD, methD, isMut, mutD, callD, permL, bindT, slcD, startE, ioE, runD, setID, setOB, get1D, get2D, keyD, keyR, g_sizes, h.no f n]⟩
theorem depth_row (k : Sp_above_of (Φ 12)) {ds : List D} (f : Fst ds) : ev Φ g_depths_c1 [.im (.tup ds), .un] = some (.ok (.fr (.lst (dI (depthL ds)))) [.im (.tup ds), .un]) := by
  have hl := f.few
  have hr : -100000 ≤ (ds.length : Int) ∧ (ds.length : Int) ≤ 100000 := by omega
  have z := comp_is (Φ := Φ) (own := [1]) (t := [1]) (it := .rng1 (.blt .len (.cons (.var 0) .nil))) (c := .no) (e := .blt .len (.cons (.call 12 false (.cons (.var 0) (.cons (.var 1) .nil))) .nil)) (env := [.im (.tup ds), .un]) (dI (List.range ds.length)) (fun d => some (.int (((ups ds (natOf d)).length : Nat) : Int))) (by simp [ev, evA, evO, evC, evI, evF, exS, exB, Ms.seq, Mo.bnd, Mo.ret, Mo.lift, Mo.opd, RV.opd, Mo.set, RV.set, Mo.tst, Mo.imm, Mo.imms, Mo.nox, opds, OB.toD, atD, cmpD, binD, bltD, prepR, preps, storeR, storesR, nxOf, Mo.fl, isNon, tysD, tyD, intD, intsD, seqD, lstD, methD, isMut, mutD, callD, permL, bindT, slcD, startE, ioE, runD, setID, setOB, get1D, get2D, keyD, keyR, hr, dI]) (by rw [dI_len]; unfold LIM; simp; omega) (by simp [unown, back]) fun d hd => by
    obtain ⟨x, hx, rfl⟩ := List.mem_map.mp hd
    have hx : x < ds.length := by simpa using hx
    have a := k ds (.tup ds) x (.inl rfl) f hx
    have q : natOf (.int (x : Int)) = x := by simp [natOf]
    refine ⟨[.im (.tup ds), .im (.int (x : Int))], by simp [unown, bindT], by simp [unown], .inr ⟨_, rfl, by simp [ev, evA, evO, evC, evI, evF, exS, exB, Ms.seq, Mo.bnd, Mo.ret, Mo.lift, Mo.opd, RV.opd, Mo.set, RV.set, Mo.tst, Mo.imm, Mo.imms, Mo.nox, opds, OB.toD, atD, cmpD, binD, bltD, prepR, preps, storeR, storesR, nxOf, Mo.fl, isNon, tysD, tyD, intD, intsD, seqD, lstD, methD, isMut, mutD, callD, permL, bindT, slcD, startE, ioE, runD, setID, setOB, get1D, get2D, keyD, keyR], ?_⟩⟩
    rw [q, ← dI_len (ups ds x)]
    simp [ev, evA, evO, evC, evI, evF, exS, exB, Ms.seq, Mo.bnd, Mo.ret, Mo.lift, Mo.opd, RV.opd, Mo.set, RV.set, Mo.tst, Mo.imm, Mo.imms, Mo.nox, opds, OB.toD, atD, cmpD, binD, bltD, prepR, preps, storeR, storesR, nxOf, Mo.fl, isNon, tysD, tyD, intD, intsD, seqD, lstD, methD, isMut, mutD, callD, permL, bindT, slcD, startE, ioE, runD, setID, setOB, get1D, get2D, keyD, keyR, a]
  unfold g_depths_c1
  rw [z, fm_map]
  congr 4
  unfold dI depthL
  rw [List.map_map, List.map_map]
  apply List.map_congr_left
  intro x hx
  simp [natOf]
theorem ok_depths (h : Sp_check_forest (Φ 10)) (k : Sp_above_of (Φ 12)) : Sp1 (runD Φ wn g_depths) fun ds => dI (depthL ds) :=
  ⟨fun ds f => by
    have e := depth_row k f
    simp [ev, evA, evO, evC, evI, evF, exS, exB, Ms.seq, Mo.bnd, Mo.ret, Mo.lift, Mo.opd, RV.opd, Mo.set, RV.set, Mo.tst, Mo.imm, Mo.imms, Mo.nox, opds, OB.toD, atD, cmpD, binD, bltD, prepR, preps, storeR, storesR, nxOf, Mo.fl, isNon, tysD, tyD, intD, intsD, seqD, lstD, methD, isMut, mutD, callD, permL, bindT, slcD, startE, ioE, runD, setID, setOB, get1D, get2D, keyD, keyR, g_depths, h.yes f, e], fun d f n => by simp [ev, evA, evO, evC, evI, evF, exS, exB, Ms.seq, Mo.bnd, Mo.ret, Mo.lift, Mo.opd, RV.opd, Mo.set, RV.set, Mo.tst, Mo.imm, Mo.imms, Mo.nox, opds, OB.toD, atD, cmpD, binD, bltD, prepR, preps, storeR, storesR, nxOf, Mo.fl, isNon, tysD, tyD, intD, intsD, seqD, lstD, methD, isMut, mutD, callD, permL, bindT, slcD, startE, ioE, runD, setID, setOB, get1D, get2D, keyD, keyR, g_depths, h.no f n]⟩
theorem ok_firsts (h : Sp_check_forest (Φ 10)) (k : Sp_held_of (Φ 14)) : Sp1 (runD Φ wn g_firsts) fun ds => dI (heldL ds none) :=
  ⟨fun ds f => by
    have e : Φ 14 none [.tup ds, .non] = _ := k ds none f
    simp [ev, evA, evO, evC, evI, evF, exS, exB, Ms.seq, Mo.bnd, Mo.ret, Mo.lift, Mo.opd, RV.opd, Mo.set, RV.set, Mo.tst, Mo.imm, Mo.imms, Mo.nox, opds, OB.toD, atD, cmpD, binD, bltD, prepR, preps, storeR, storesR, nxOf, Mo.fl, isNon, tysD, tyD, intD, intsD, seqD, lstD, methD, isMut, mutD, callD, permL, bindT, slcD, startE, ioE, runD, setID, setOB, get1D, get2D, keyD, keyR, g_firsts, h.yes f, e], fun d f n => by simp [ev, evA, evO, evC, evI, evF, exS, exB, Ms.seq, Mo.bnd, Mo.ret, Mo.lift, Mo.opd, RV.opd, Mo.set, RV.set, Mo.tst, Mo.imm, Mo.imms, Mo.nox, opds, OB.toD, atD, cmpD, binD, bltD, prepR, preps, storeR, storesR, nxOf, Mo.fl, isNon, tysD, tyD, intD, intsD, seqD, lstD, methD, isMut, mutD, callD, permL, bindT, slcD, startE, ioE, runD, setID, setOB, get1D, get2D, keyD, keyR, g_firsts, h.no f n]⟩
theorem ok_walk (h : Sp_check_forest (Φ 10)) (k : Sp_walk_of (Φ 15)) : Sp1 (runD Φ wn g_walk) fun ds => dI (walkL ds) :=
  ⟨fun ds f => by simp [ev, evA, evO, evC, evI, evF, exS, exB, Ms.seq, Mo.bnd, Mo.ret, Mo.lift, Mo.opd, RV.opd, Mo.set, RV.set, Mo.tst, Mo.imm, Mo.imms, Mo.nox, opds, OB.toD, atD, cmpD, binD, bltD, prepR, preps, storeR, storesR, nxOf, Mo.fl, isNon, tysD, tyD, intD, intsD, seqD, lstD, methD, isMut, mutD, callD, permL, bindT, slcD, startE, ioE, runD, setID, setOB, get1D, get2D, keyD, keyR, g_walk, h.yes f, k ds f], fun d f n => by simp [ev, evA, evO, evC, evI, evF, exS, exB, Ms.seq, Mo.bnd, Mo.ret, Mo.lift, Mo.opd, RV.opd, Mo.set, RV.set, Mo.tst, Mo.imm, Mo.imms, Mo.nox, opds, OB.toD, atD, cmpD, binD, bltD, prepR, preps, storeR, storesR, nxOf, Mo.fl, isNon, tysD, tyD, intD, intsD, seqD, lstD, methD, isMut, mutD, callD, permL, bindT, slcD, startE, ioE, runD, setID, setOB, get1D, get2D, keyD, keyR, g_walk, h.no f n]⟩
theorem ok_above (h : Sp_check_forest (Φ 10)) (t : Sp_check_thing (Φ 11)) (k : Sp_above_of (Φ 12)) : Sp2 (runD Φ wn g_above) fun ds x => dI (ups ds x) :=
  ⟨fun ds x f hx => by simp [ev, evA, evO, evC, evI, evF, exS, exB, Ms.seq, Mo.bnd, Mo.ret, Mo.lift, Mo.opd, RV.opd, Mo.set, RV.set, Mo.tst, Mo.imm, Mo.imms, Mo.nox, opds, OB.toD, atD, cmpD, binD, bltD, prepR, preps, storeR, storesR, nxOf, Mo.fl, isNon, tysD, tyD, intD, intsD, seqD, lstD, methD, isMut, mutD, callD, permL, bindT, slcD, startE, ioE, runD, setID, setOB, get1D, get2D, keyD, keyR, g_above, h.yes f, t.yes hx, k ds (.tup ds) x (.inl rfl) f hx], fun d t f n => by simp [ev, evA, evO, evC, evI, evF, exS, exB, Ms.seq, Mo.bnd, Mo.ret, Mo.lift, Mo.opd, RV.opd, Mo.set, RV.set, Mo.tst, Mo.imm, Mo.imms, Mo.nox, opds, OB.toD, atD, cmpD, binD, bltD, prepR, preps, storeR, storesR, nxOf, Mo.fl, isNon, tysD, tyD, intD, intsD, seqD, lstD, methD, isMut, mutD, callD, permL, bindT, slcD, startE, ioE, runD, setID, setOB, get1D, get2D, keyD, keyR, g_above, h.no f n], fun ds d f hd n => by simp [ev, evA, evO, evC, evI, evF, exS, exB, Ms.seq, Mo.bnd, Mo.ret, Mo.lift, Mo.opd, RV.opd, Mo.set, RV.set, Mo.tst, Mo.imm, Mo.imms, Mo.nox, opds, OB.toD, atD, cmpD, binD, bltD, prepR, preps, storeR, storesR, nxOf, Mo.fl, isNon, tysD, tyD, intD, intsD, seqD, lstD, methD, isMut, mutD, callD, permL, bindT, slcD, startE, ioE, runD, setID, setOB, get1D, get2D, keyD, keyR, g_above, h.yes f, t.no hd n]⟩
theorem below_row (k : Sp_above_of (Φ 12)) {ds : List D} {x : Nat} (f : Fst ds) : ev Φ g_below_c1 [.im (.tup ds), .im (.int (x : Int)), .un] = some (.ok (.fr (.lst (dI (belowL ds x)))) [.im (.tup ds), .im (.int (x : Int)), .un]) := by
  have hl := f.few
  have hr : -100000 ≤ (ds.length : Int) ∧ (ds.length : Int) ≤ 100000 := by omega
  unfold belowL
  rw [dI_filter]
  refine comp_is (dI (List.range ds.length)) _ (by simp [ev, evA, evO, evC, evI, evF, exS, exB, Ms.seq, Mo.bnd, Mo.ret, Mo.lift, Mo.opd, RV.opd, Mo.set, RV.set, Mo.tst, Mo.imm, Mo.imms, Mo.nox, opds, OB.toD, atD, cmpD, binD, bltD, prepR, preps, storeR, storesR, nxOf, Mo.fl, isNon, tysD, tyD, intD, intsD, seqD, lstD, methD, isMut, mutD, callD, permL, bindT, slcD, startE, ioE, runD, setID, setOB, get1D, get2D, keyD, keyR, hr, dI]) (by rw [dI_len]; unfold LIM; simp; omega) (by simp [unown, back]) fun d hd => ?_
  obtain ⟨z, hz, rfl⟩ := List.mem_map.mp hd
  have hz : z < ds.length := by simpa using hz
  have a := k ds (.tup ds) z (.inl rfl) f hz
  have m := mem_dI x (ups ds z)
  have q : natOf (.int (z : Int)) = z := by simp [natOf]
  refine ⟨[.im (.tup ds), .im (.int (x : Int)), .im (.int (z : Int))], by simp [unown, bindT], by simp [unown], ?_⟩
  rw [q]
  by_cases e : x ∈ ups ds z
  · exact .inr ⟨.int (z : Int), by simp [e], by simp [ev, evA, evO, evC, evI, evF, exS, exB, Ms.seq, Mo.bnd, Mo.ret, Mo.lift, Mo.opd, RV.opd, Mo.set, RV.set, Mo.tst, Mo.imm, Mo.imms, Mo.nox, opds, OB.toD, atD, cmpD, binD, bltD, prepR, preps, storeR, storesR, nxOf, Mo.fl, isNon, tysD, tyD, intD, intsD, seqD, lstD, methD, isMut, mutD, callD, permL, bindT, slcD, startE, ioE, runD, setID, setOB, get1D, get2D, keyD, keyR, a, m, e], by simp [ev, evA, evO, evC, evI, evF, exS, exB, Ms.seq, Mo.bnd, Mo.ret, Mo.lift, Mo.opd, RV.opd, Mo.set, RV.set, Mo.tst, Mo.imm, Mo.imms, Mo.nox, opds, OB.toD, atD, cmpD, binD, bltD, prepR, preps, storeR, storesR, nxOf, Mo.fl, isNon, tysD, tyD, intD, intsD, seqD, lstD, methD, isMut, mutD, callD, permL, bindT, slcD, startE, ioE, runD, setID, setOB, get1D, get2D, keyD, keyR]⟩
  · exact .inl ⟨by simp [e], by simp [ev, evA, evO, evC, evI, evF, exS, exB, Ms.seq, Mo.bnd, Mo.ret, Mo.lift, Mo.opd, RV.opd, Mo.set, RV.set, Mo.tst, Mo.imm, Mo.imms, Mo.nox, opds, OB.toD, atD, cmpD, binD, bltD, prepR, preps, storeR, storesR, nxOf, Mo.fl, isNon, tysD, tyD, intD, intsD, seqD, lstD, methD, isMut, mutD, callD, permL, bindT, slcD, startE, ioE, runD, setID, setOB, get1D, get2D, keyD, keyR, a, m, e]⟩
theorem ok_below (h : Sp_check_forest (Φ 10)) (t : Sp_check_thing (Φ 11)) (k : Sp_above_of (Φ 12)) : Sp2 (runD Φ wn g_below) fun ds x => dI (belowL ds x) :=
  ⟨fun ds x f hx => by
    have e := below_row (x := x) k f
    simp [ev, evA, evO, evC, evI, evF, exS, exB, Ms.seq, Mo.bnd, Mo.ret, Mo.lift, Mo.opd, RV.opd, Mo.set, RV.set, Mo.tst, Mo.imm, Mo.imms, Mo.nox, opds, OB.toD, atD, cmpD, binD, bltD, prepR, preps, storeR, storesR, nxOf, Mo.fl, isNon, tysD, tyD, intD, intsD, seqD, lstD, methD, isMut, mutD, callD, permL, bindT, slcD, startE, ioE, runD, setID, setOB, get1D, get2D, keyD, keyR, g_below, h.yes f, t.yes hx, e], fun d t f n => by simp [ev, evA, evO, evC, evI, evF, exS, exB, Ms.seq, Mo.bnd, Mo.ret, Mo.lift, Mo.opd, RV.opd, Mo.set, RV.set, Mo.tst, Mo.imm, Mo.imms, Mo.nox, opds, OB.toD, atD, cmpD, binD, bltD, prepR, preps, storeR, storesR, nxOf, Mo.fl, isNon, tysD, tyD, intD, intsD, seqD, lstD, methD, isMut, mutD, callD, permL, bindT, slcD, startE, ioE, runD, setID, setOB, get1D, get2D, keyD, keyR, g_below, h.no f n], fun ds d f hd n => by simp [ev, evA, evO, evC, evI, evF, exS, exB, Ms.seq, Mo.bnd, Mo.ret, Mo.lift, Mo.opd, RV.opd, Mo.set, RV.set, Mo.tst, Mo.imm, Mo.imms, Mo.nox, opds, OB.toD, atD, cmpD, binD, bltD, prepR, preps, storeR, storesR, nxOf, Mo.fl, isNon, tysD, tyD, intD, intsD, seqD, lstD, methD, isMut, mutD, callD, permL, bindT, slcD, startE, ioE, runD, setID, setOB, get1D, get2D, keyD, keyR, g_below, h.yes f, t.no hd n]⟩
theorem ok_held_by (h : Sp_check_forest (Φ 10)) (t : Sp_check_thing (Φ 11)) (k : Sp_held_of (Φ 14)) : Sp2 (runD Φ wn g_held_by) fun ds x => dI (heldL ds (some x)) :=
  ⟨fun ds x f hx => by
    have e : Φ 14 none [.tup ds, .int (x : Int)] = _ := k ds (some x) f
    simp [ev, evA, evO, evC, evI, evF, exS, exB, Ms.seq, Mo.bnd, Mo.ret, Mo.lift, Mo.opd, RV.opd, Mo.set, RV.set, Mo.tst, Mo.imm, Mo.imms, Mo.nox, opds, OB.toD, atD, cmpD, binD, bltD, prepR, preps, storeR, storesR, nxOf, Mo.fl, isNon, tysD, tyD, intD, intsD, seqD, lstD, methD, isMut, mutD, callD, permL, bindT, slcD, startE, ioE, runD, setID, setOB, get1D, get2D, keyD, keyR, g_held_by, h.yes f, t.yes hx, e], fun d t f n => by simp [ev, evA, evO, evC, evI, evF, exS, exB, Ms.seq, Mo.bnd, Mo.ret, Mo.lift, Mo.opd, RV.opd, Mo.set, RV.set, Mo.tst, Mo.imm, Mo.imms, Mo.nox, opds, OB.toD, atD, cmpD, binD, bltD, prepR, preps, storeR, storesR, nxOf, Mo.fl, isNon, tysD, tyD, intD, intsD, seqD, lstD, methD, isMut, mutD, callD, permL, bindT, slcD, startE, ioE, runD, setID, setOB, get1D, get2D, keyD, keyR, g_held_by, h.no f n], fun ds d f hd n => by simp [ev, evA, evO, evC, evI, evF, exS, exB, Ms.seq, Mo.bnd, Mo.ret, Mo.lift, Mo.opd, RV.opd, Mo.set, RV.set, Mo.tst, Mo.imm, Mo.imms, Mo.nox, opds, OB.toD, atD, cmpD, binD, bltD, prepR, preps, storeR, storesR, nxOf, Mo.fl, isNon, tysD, tyD, intD, intsD, seqD, lstD, methD, isMut, mutD, callD, permL, bindT, slcD, startE, ioE, runD, setID, setOB, get1D, get2D, keyD, keyR, g_held_by, h.yes f, t.no hd n]⟩
end
end HB

set_option Elab.async false
set_option linter.all false
set_option maxRecDepth 100000
set_option maxHeartbeats 4000000
/-! HBProg3: forests put together and cut, with their errors. -/
namespace HB
open PySem PySem.Spec PyProof.Rows L2

def Sp_moved (φ : FO) : Prop := ∀ n es, Fine es → es.length ≤ 1000 → φ none [.tup es, .int ((n : Nat) : Int)] = some (.ok (.val (.tup (moveD n es))) none)
theorem ok_moved {Φ : Fn} {wn : Nat} : Sp_moved (runD Φ wn f_moved) := fun n es h hl => moved_ok h hl
theorem ok_renamed {Φ : Fn} {wn : Nat} : RenOk (runD Φ wn f_renamed) := fun ls d L hd h hl hn hb => renamed_ok hd h hl hn hb
/-! without: number 323 -/
def g_without_c1 : IE := .comp [3] [3] (.seq (.var 0)) .no (.ite (.cmp .eq (.var 3) (.var 1)) (.idx (.var 0) (.var 1)) (.var 3))
def g_without_c2 : IE := .comp [4] [4] (.rng1 (.blt .len (.cons (.var 0) .nil))) (.yes (.cmp .ne (.var 4) (.var 1))) (.var 4)
def g_without : Df := ⟨2, 5, false, [.expr (.call 10 false (.cons (.var 0) .nil)), .expr (.call 11 false (.cons (.var 0) (.cons (.var 1) .nil))), .if_ (.cmp .eq (.blt .len (.cons (.var 0) .nil)) (.cst (.int 1))) [.raise 15] [], .asg 2 false g_without_c1, .ret (.call 319 false (.cons (.var 2) (.cons g_without_c2 .nil)))]⟩
/-! told_ahead: number 422 -/
def g_told_ahead : Df := ⟨3, 3, false, [.expr (.call 10 false (.cons (.var 0) .nil)), .expr (.call 11 false (.cons (.var 0) (.cons (.var 1) .nil))), .expr (.call 11 false (.cons (.var 0) (.cons (.var 2) .nil))), .if_ (.cmp .eq (.var 1) (.var 2)) [.raise 6] [], .if_ (.cmp .mem (.var 1) (.call 12 false (.cons (.var 0) (.cons (.var 2) .nil)))) [.ret (.var 0)] [], .if_ (.cmp .mem (.var 2) (.call 12 false (.cons (.var 0) (.cons (.var 1) .nil)))) [.ret (.cst .non)] [], .if_ (.and (.cmp .isn (.idx (.var 0) (.var 2)) (.cst .non)) (.cmp .nmem (.idx (.var 0) (.var 2)) (.call 12 false (.cons (.var 0) (.cons (.var 1) .nil))))) [.raise 11] [], .ret (.tup (.star (.slc (.var 0) .no (.yes (.var 2))) (.cons (.var 1) (.star (.slc (.var 0) (.yes (.bin .add (.var 2) (.cst (.int 1)))) .no) .nil))))]⟩
section
variable {Φ : Fn} {wn : Nat}
theorem Sp_check_forest.all {φ : FO} (h : Sp_check_forest φ) : ∀ ds, Fst ds → φ none [.tup ds] = some (.ok (.val .non) none) := fun ds k => h.yes k
theorem Sp_check_thing.all {φ : FO} (h : Sp_check_thing φ) : ∀ (ds : List D) (x : Nat), Fst ds → x < ds.length → φ none [.tup ds, .int (x : Int)] = some (.ok (.val .non) none) := fun ds x _ hx => h.yes hx
structure Sp_beside (φ : FO) : Prop where
  yes : BesOk φ
  n1 : ∀ d e, Ask d → isForest d = false → φ none [d, e] = some (.ex 1)
  n2 : ∀ ds e, Fst ds → Ask e → isForest e = false → φ none [.tup ds, e] = some (.ex 1)
theorem ok_beside (h : Sp_check_forest (Φ 10)) (m : Sp_moved (Φ 318)) : Sp_beside (runD Φ wn (f_beside 10 318)) :=
  ⟨fun ds es f k => beside_ok f k h.all m, fun d e a n => by simp [ev, evA, evO, evC, evI, evF, exS, exB, Ms.seq, Mo.bnd, Mo.ret, Mo.lift, Mo.opd, RV.opd, Mo.set, RV.set, Mo.tst, Mo.imm, Mo.imms, Mo.nox, opds, OB.toD, atD, cmpD, binD, bltD, prepR, preps, storeR, storesR, nxOf, Mo.fl, isNon, tysD, tyD, intD, intsD, seqD, lstD, methD, isMut, mutD, callD, permL, bindT, slcD, startE, ioE, runD, setID, setOB, get1D, get2D, keyD, keyR, f_beside, h.no a n], fun ds e f a n => by simp [ev, evA, evO, evC, evI, evF, exS, exB, Ms.seq, Mo.bnd, Mo.ret, Mo.lift, Mo.opd, RV.opd, Mo.set, RV.set, Mo.tst, Mo.imm, Mo.imms, Mo.nox, opds, OB.toD, atD, cmpD, binD, bltD, prepR, preps, storeR, storesR, nxOf, Mo.fl, isNon, tysD, tyD, intD, intsD, seqD, lstD, methD, isMut, mutD, callD, permL, bindT, slcD, startE, ioE, runD, setID, setOB, get1D, get2D, keyD, keyR, f_beside, h.yes f, h.no a n]⟩
structure Sp_grafted (φ : FO) : Prop where
  yes : GraOk φ
  n1 : ∀ d t e, Ask d → isForest d = false → φ none [d, t, e] = some (.ex 1)
  n2 : ∀ ds t e, Fst ds → noFrz t = true → isI t 0 ((ds.length : Int) - 1) = false → φ none [.tup ds, t, e] = some (.ex 2)
  n3 : ∀ ds (x : Nat) e, Fst ds → x < ds.length → Ask e → isForest e = false → φ none [.tup ds, .int (x : Int), e] = some (.ex 1)
theorem ok_grafted (h : Sp_check_forest (Φ 10)) (t : Sp_check_thing (Φ 11)) (m : Sp_moved (Φ 318)) : Sp_grafted (runD Φ wn (f_grafted 10 11 318)) :=
  ⟨fun ds es x f k hx => grafted_ok f k hx h.all t.all m, fun d t e a n => by simp [ev, evA, evO, evC, evI, evF, exS, exB, Ms.seq, Mo.bnd, Mo.ret, Mo.lift, Mo.opd, RV.opd, Mo.set, RV.set, Mo.tst, Mo.imm, Mo.imms, Mo.nox, opds, OB.toD, atD, cmpD, binD, bltD, prepR, preps, storeR, storesR, nxOf, Mo.fl, isNon, tysD, tyD, intD, intsD, seqD, lstD, methD, isMut, mutD, callD, permL, bindT, slcD, startE, ioE, runD, setID, setOB, get1D, get2D, keyD, keyR, f_grafted, h.no a n], fun ds d e f a n => by simp [ev, evA, evO, evC, evI, evF, exS, exB, Ms.seq, Mo.bnd, Mo.ret, Mo.lift, Mo.opd, RV.opd, Mo.set, RV.set, Mo.tst, Mo.imm, Mo.imms, Mo.nox, opds, OB.toD, atD, cmpD, binD, bltD, prepR, preps, storeR, storesR, nxOf, Mo.fl, isNon, tysD, tyD, intD, intsD, seqD, lstD, methD, isMut, mutD, callD, permL, bindT, slcD, startE, ioE, runD, setID, setOB, get1D, get2D, keyD, keyR, f_grafted, h.yes f, t.no a n], fun ds x e f hx a n => by simp [ev, evA, evO, evC, evI, evF, exS, exB, Ms.seq, Mo.bnd, Mo.ret, Mo.lift, Mo.opd, RV.opd, Mo.set, RV.set, Mo.tst, Mo.imm, Mo.imms, Mo.nox, opds, OB.toD, atD, cmpD, binD, bltD, prepR, preps, storeR, storesR, nxOf, Mo.fl, isNon, tysD, tyD, intD, intsD, seqD, lstD, methD, isMut, mutD, callD, permL, bindT, slcD, startE, ioE, runD, setID, setOB, get1D, get2D, keyD, keyR, f_grafted, h.yes f, t.yes hx, h.no a n]⟩
structure Sp_part (φ : FO) : Prop where
  yes : ParOk φ
  n1 : ∀ d t, Ask d → isForest d = false → φ none [d, t] = some (.ex 1)
  n2 : ∀ ds t, Fst ds → noFrz t = true → isI t 0 ((ds.length : Int) - 1) = false → φ none [.tup ds, t] = some (.ex 2)
theorem ok_part (h : Sp_check_forest (Φ 10)) (t : Sp_check_thing (Φ 11)) (a : Sp_above_of (Φ 12)) (r : RenOk (Φ 319)) : Sp_part (runD Φ wn (f_part 10 11 12 319)) :=
  ⟨fun ds x f hx => part_ok f hx h.all t.all a r, fun d t a n => by simp [ev, evA, evO, evC, evI, evF, exS, exB, Ms.seq, Mo.bnd, Mo.ret, Mo.lift, Mo.opd, RV.opd, Mo.set, RV.set, Mo.tst, Mo.imm, Mo.imms, Mo.nox, opds, OB.toD, atD, cmpD, binD, bltD, prepR, preps, storeR, storesR, nxOf, Mo.fl, isNon, tysD, tyD, intD, intsD, seqD, lstD, methD, isMut, mutD, callD, permL, bindT, slcD, startE, ioE, runD, setID, setOB, get1D, get2D, keyD, keyR, f_part, h.no a n], fun ds d f a n => by simp [ev, evA, evO, evC, evI, evF, exS, exB, Ms.seq, Mo.bnd, Mo.ret, Mo.lift, Mo.opd, RV.opd, Mo.set, RV.set, Mo.tst, Mo.imm, Mo.imms, Mo.nox, opds, OB.toD, atD, cmpD, binD, bltD, prepR, preps, storeR, storesR, nxOf, Mo.fl, isNon, tysD, tyD, intD, intsD, seqD, lstD, methD, isMut, mutD, callD, permL, bindT, slcD, startE, ioE, runD, setID, setOB, get1D, get2D, keyD, keyR, f_part, h.yes f, t.no a n]⟩
structure Sp_without (φ : FO) : Prop where
  yes : WitOk φ
  n1 : ∀ d t, Ask d → isForest d = false → φ none [d, t] = some (.ex 1)
  n2 : ∀ ds t, Fst ds → noFrz t = true → isI t 0 ((ds.length : Int) - 1) = false → φ none [.tup ds, t] = some (.ex 2)
  n3 : ∀ ds (x : Nat), Fst ds → x < ds.length → ds.length = 1 → φ none [.tup ds, .int (x : Int)] = some (.ex 15)
theorem ok_without (hc : Sp_check_forest (Φ 10)) (ht : Sp_check_thing (Φ 11)) (hr : RenOk (Φ 319)) : Sp_without (runD Φ wn g_without) := by
  refine ⟨fun ds x h hx h1 => ?_, fun d t a n => by simp [ev, evA, evO, evC, evI, evF, exS, exB, Ms.seq, Mo.bnd, Mo.ret, Mo.lift, Mo.opd, RV.opd, Mo.set, RV.set, Mo.tst, Mo.imm, Mo.imms, Mo.nox, opds, OB.toD, atD, cmpD, binD, bltD, prepR, preps, storeR, storesR, nxOf, Mo.fl, isNon, tysD, tyD, intD, intsD, seqD, lstD, methD, isMut, mutD, callD, permL, bindT, slcD, startE, ioE, runD, setID, setOB, get1D, get2D, keyD, keyR, g_without, hc.no a n], fun ds d f a n => by simp [ev, evA, evO, evC, evI, evF, exS, exB, Ms.seq, Mo.bnd, Mo.ret, Mo.lift, Mo.opd, RV.opd, Mo.set, RV.set, Mo.tst, Mo.imm, Mo.imms, Mo.nox, opds, OB.toD, atD, cmpD, binD, bltD, prepR, preps, storeR, storesR, nxOf, Mo.fl, isNon, tysD, tyD, intD, intsD, seqD, lstD, methD, isMut, mutD, callD, permL, bindT, slcD, startE, ioE, runD, setID, setOB, get1D, get2D, keyD, keyR, g_without, hc.yes f, ht.no a n], fun ds x f hx h1 => by simp [ev, evA, evO, evC, evI, evF, exS, exB, Ms.seq, Mo.bnd, Mo.ret, Mo.lift, Mo.opd, RV.opd, Mo.set, RV.set, Mo.tst, Mo.imm, Mo.imms, Mo.nox, opds, OB.toD, atD, cmpD, binD, bltD, prepR, preps, storeR, storesR, nxOf, Mo.fl, isNon, tysD, tyD, intD, intsD, seqD, lstD, methD, isMut, mutD, callD, permL, bindT, slcD, startE, ioE, runD, setID, setOB, get1D, get2D, keyD, keyR, g_without, hc.yes f, ht.yes hx, h1, eq_int]⟩
  have g1 := hc.yes h
  have g2 := ht.yes (ds := ds) hx
  have g3 := lift_row (Φ := Φ) (x := x) (s2 := .un) (s3 := .un) (rest := [.un]) h hx
  have g4 := with_row4 (Φ := Φ) (x := x) (s2 := .im (.lst (lift ds x))) (s3 := .un) (s4 := .un) (rest := []) h
  have g5 := hr (lift ds x) (.lst (lift ds x)) (withL ds x) (.inr rfl) (lift_fine h.fine x) (by have := filter_len (n := ds.length) (fun k => !decide (k = x)); have := h.few; unfold withL; omega) (filter_nd _) fun t ht => by rw [lift_len]; exact filter_lt ht
  have ne : ¬ ((ds.length : Int) = 1) := by omega
  have ne' : ¬ (ds.length = 1) := by omega
  have c1 : g_without_c1 = cp_lift := rfl
  have c2 : g_without_c2 = cp_with 4 := rfl
  simp [ev, evA, evO, evC, evI, evF, exS, exB, Ms.seq, Mo.bnd, Mo.ret, Mo.lift, Mo.opd, RV.opd, Mo.set, RV.set, Mo.tst, Mo.imm, Mo.imms, Mo.nox, opds, OB.toD, atD, cmpD, binD, bltD, prepR, preps, storeR, storesR, nxOf, Mo.fl, isNon, tysD, tyD, intD, intsD, seqD, lstD, methD, isMut, mutD, callD, permL, bindT, slcD, startE, ioE, runD, setID, setOB, get1D, get2D, keyD, keyR, g_without, c1, c2, g1, g2, g3, g4, g5, eq_int, ne, ne']
/-- the forest in which x is told to be ahead of y -/
def toldF (ds : List D) (x y : Nat) : FOut :=
  if x ∈ ups ds y then .ok (.val (.tup ds)) none
  else if y ∈ ups ds x then .ok (.val .non) none
  else match par ds y with
    | some p => if p ∈ ups ds x then .ok (.val (.tup (ds.take y ++ .int (x : Int) :: ds.drop (y + 1)))) none else .ex 11
    | none => .ok (.val (.tup (ds.take y ++ .int (x : Int) :: ds.drop (y + 1)))) none
structure Sp_told_ahead (φ : FO) : Prop where
  yes : ∀ ds (x y : Nat), Fst ds → x < ds.length → y < ds.length → x ≠ y → φ none [.tup ds, .int (x : Int), .int (y : Int)] = some (toldF ds x y)
  n1 : ∀ d t u, Ask d → isForest d = false → φ none [d, t, u] = some (.ex 1)
  n2 : ∀ ds t u, Fst ds → noFrz t = true → isI t 0 ((ds.length : Int) - 1) = false → φ none [.tup ds, t, u] = some (.ex 2)
  n3 : ∀ ds (x : Nat) u, Fst ds → x < ds.length → noFrz u = true → isI u 0 ((ds.length : Int) - 1) = false → φ none [.tup ds, .int (x : Int), u] = some (.ex 2)
  n4 : ∀ ds (x : Nat), Fst ds → x < ds.length → φ none [.tup ds, .int (x : Int), .int (x : Int)] = some (.ex 6)
theorem cut_take (ds : List D) {y : Nat} (h : y ≤ ds.length) : cutD ds none (some (y : Int)) = ds.take y := by
  unfold cutD
  rw [HT.sIx_none, HT.sIx_nat, Nat.min_eq_left h]
  simp
theorem cut_drop (ds : List D) {y : Nat} (h : y ≤ ds.length) : cutD ds (some (y : Int)) none = ds.drop y := by
  unfold cutD
  rw [HT.sIx_none, HT.sIx_nat, Nat.min_eq_left h]
  apply List.take_of_length_le
  rw [List.length_drop]
  omega
theorem imms3 (env : Evn) (a b : List D) (d : D) : Mo.imms (a.map RV.val ++ RV.val d :: b.map RV.val) env = some (.ok (a ++ d :: b) env) := by
  have := opds_vals env (a ++ d :: b)
  rw [List.map_append, List.map_cons] at this
  exact this
theorem told_row {ds : List D} {x y : Nat} (h : Fst ds) (hy : y < ds.length) {env : Evn} (h0 : env[0]? = some (.im (.tup ds))) (h1 : env[1]? = some (.im (.int (x : Int)))) (h2 : env[2]? = some (.im (.int (y : Int)))) :
    ev Φ (.tup (.star (.slc (.var 0) .no (.yes (.var 2))) (.cons (.var 1) (.star (.slc (.var 0) (.yes (.bin .add (.var 2) (.cst (.int 1)))) .no) .nil)))) env = some (.ok (.val (.tup (ds.take y ++ .int (x : Int) :: ds.drop (y + 1)))) env) := by
  have c1 := cut_take ds (y := y) (by omega)
  have c2 := cut_drop ds (y := y + 1) (by omega)
  have e2 : ((y + 1 : Nat) : Int) = (y : Int) + 1 := by omega
  rw [e2] at c2
  have l : (ds.take y ++ D.int (x : Int) :: ds.drop (y + 1)).length ≤ LIM := by
    have := h.few
    rw [List.length_append, List.length_cons, List.length_take, List.length_drop]
    unfold LIM
    omega
  have iv := fun env => imms3 env (ds.take y) (ds.drop (y + 1)) (.int (x : Int))
  generalize ds.take y = A at *
  generalize ds.drop (y + 1) = C at *
  simp [ev, evA, evO, evC, evI, evF, exS, exB, Ms.seq, Mo.bnd, Mo.ret, Mo.lift, Mo.opd, RV.opd, Mo.set, RV.set, Mo.tst, Mo.imm, Mo.imms, Mo.nox, opds, OB.toD, atD, cmpD, binD, bltD, prepR, preps, storeR, storesR, nxOf, Mo.fl, isNon, tysD, tyD, intD, intsD, seqD, lstD, methD, isMut, mutD, callD, permL, bindT, slcD, startE, ioE, runD, setID, setOB, get1D, get2D, keyD, keyR, h0, h1, h2, c1, c2]
  simp [iv, Mo.ret]
  rw [if_pos (by simpa using l)]
  rfl
theorem ok_told_ahead (hc : Sp_check_forest (Φ 10)) (ht : Sp_check_thing (Φ 11)) (ha : Sp_above_of (Φ 12)) : Sp_told_ahead (runD Φ wn g_told_ahead) := by
  refine ⟨fun ds x y h hx hy ne => ?_, fun d t u a n => by simp [ev, evA, evO, evC, evI, evF, exS, exB, Ms.seq, Mo.bnd, Mo.ret, Mo.lift, Mo.opd, RV.opd, Mo.set, RV.set, Mo.tst, Mo.imm, Mo.imms, Mo.nox, opds, OB.toD, atD, cmpD, binD, bltD, prepR, preps, storeR, storesR, nxOf, Mo.fl, isNon, tysD, tyD, intD, intsD, seqD, lstD, methD, isMut, mutD, callD, permL, bindT, slcD, startE, ioE, runD, setID, setOB, get1D, get2D, keyD, keyR, g_told_ahead, hc.no a n], fun ds t u f a n => by simp [ev, evA, evO, evC, evI, evF, exS, exB, Ms.seq, Mo.bnd, Mo.ret, Mo.lift, Mo.opd, RV.opd, Mo.set, RV.set, Mo.tst, Mo.imm, Mo.imms, Mo.nox, opds, OB.toD, atD, cmpD, binD, bltD, prepR, preps, storeR, storesR, nxOf, Mo.fl, isNon, tysD, tyD, intD, intsD, seqD, lstD, methD, isMut, mutD, callD, permL, bindT, slcD, startE, ioE, runD, setID, setOB, get1D, get2D, keyD, keyR, g_told_ahead, hc.yes f, ht.no a n], fun ds x u f hx a n => by simp [ev, evA, evO, evC, evI, evF, exS, exB, Ms.seq, Mo.bnd, Mo.ret, Mo.lift, Mo.opd, RV.opd, Mo.set, RV.set, Mo.tst, Mo.imm, Mo.imms, Mo.nox, opds, OB.toD, atD, cmpD, binD, bltD, prepR, preps, storeR, storesR, nxOf, Mo.fl, isNon, tysD, tyD, intD, intsD, seqD, lstD, methD, isMut, mutD, callD, permL, bindT, slcD, startE, ioE, runD, setID, setOB, get1D, get2D, keyD, keyR, g_told_ahead, hc.yes f, ht.yes hx, ht.no a n], fun ds x f hx => by simp [ev, evA, evO, evC, evI, evF, exS, exB, Ms.seq, Mo.bnd, Mo.ret, Mo.lift, Mo.opd, RV.opd, Mo.set, RV.set, Mo.tst, Mo.imm, Mo.imms, Mo.nox, opds, OB.toD, atD, cmpD, binD, bltD, prepR, preps, storeR, storesR, nxOf, Mo.fl, isNon, tysD, tyD, intD, intsD, seqD, lstD, methD, isMut, mutD, callD, permL, bindT, slcD, startE, ioE, runD, setID, setOB, get1D, get2D, keyD, keyR, g_told_ahead, hc.yes f, ht.yes hx, eq_int]⟩
  have g1 := hc.yes h
  have g2 := ht.yes (ds := ds) hx
  have g3 := ht.yes (ds := ds) hy
  have u1 := ha ds (.tup ds) x (.inl rfl) h hx
  have u2 := ha ds (.tup ds) y (.inl rfl) h hy
  have m1 := mem_dI x (ups ds y)
  have m2 := mem_dI y (ups ds x)
  have ne' : ¬ ((x : Int) = (y : Int)) := by omega
  have p := at_par h.fine hy
  have tr := told_row (Φ := Φ) (x := x) (env := [.im (.tup ds), .im (.int (x : Int)), .im (.int (y : Int))]) h hy rfl rfl rfl
  unfold toldF
  unfold g_told_ahead
  generalize hT : (IE.tup (.star (.slc (.var 0) .no (.yes (.var 2))) (.cons (.var 1) (.star (.slc (.var 0) (.yes (.bin .add (.var 2) (.cst (.int 1)))) .no) .nil)))) = TT at tr ⊢
  by_cases a : x ∈ ups ds y
  · simp [ev, evA, evO, evC, evI, evF, exS, exB, Ms.seq, Mo.bnd, Mo.ret, Mo.lift, Mo.opd, RV.opd, Mo.set, RV.set, Mo.tst, Mo.imm, Mo.imms, Mo.nox, opds, OB.toD, atD, cmpD, binD, bltD, prepR, preps, storeR, storesR, nxOf, Mo.fl, isNon, tysD, tyD, intD, intsD, seqD, lstD, methD, isMut, mutD, callD, permL, bindT, slcD, startE, ioE, runD, setID, setOB, get1D, get2D, keyD, keyR, g1, g2, g3, u1, u2, m1, m2, ne', eq_int, a]
  · by_cases b : y ∈ ups ds x
    · simp [ev, evA, evO, evC, evI, evF, exS, exB, Ms.seq, Mo.bnd, Mo.ret, Mo.lift, Mo.opd, RV.opd, Mo.set, RV.set, Mo.tst, Mo.imm, Mo.imms, Mo.nox, opds, OB.toD, atD, cmpD, binD, bltD, prepR, preps, storeR, storesR, nxOf, Mo.fl, isNon, tysD, tyD, intD, intsD, seqD, lstD, methD, isMut, mutD, callD, permL, bindT, slcD, startE, ioE, runD, setID, setOB, get1D, get2D, keyD, keyR, g1, g2, g3, u1, u2, m1, m2, ne', eq_int, a, b]
    · cases q : par ds y with
      | none =>
        rw [q] at p
        simp [ev, evA, evO, evC, evI, evF, exS, exB, Ms.seq, Mo.bnd, Mo.ret, Mo.lift, Mo.opd, RV.opd, Mo.set, RV.set, Mo.tst, Mo.imm, Mo.imms, Mo.nox, opds, OB.toD, atD, cmpD, binD, bltD, prepR, preps, storeR, storesR, nxOf, Mo.fl, isNon, tysD, tyD, intD, intsD, seqD, lstD, methD, isMut, mutD, callD, permL, bindT, slcD, startE, ioE, runD, setID, setOB, get1D, get2D, keyD, keyR, g1, g2, g3, u1, u2, m1, m2, ne', eq_int, a, b, p, hereD, tr]
      | some z =>
        rw [q] at p
        have m3 := mem_dI z (ups ds x)
        by_cases c : z ∈ ups ds x
        · simp [ev, evA, evO, evC, evI, evF, exS, exB, Ms.seq, Mo.bnd, Mo.ret, Mo.lift, Mo.opd, RV.opd, Mo.set, RV.set, Mo.tst, Mo.imm, Mo.imms, Mo.nox, opds, OB.toD, atD, cmpD, binD, bltD, prepR, preps, storeR, storesR, nxOf, Mo.fl, isNon, tysD, tyD, intD, intsD, seqD, lstD, methD, isMut, mutD, callD, permL, bindT, slcD, startE, ioE, runD, setID, setOB, get1D, get2D, keyD, keyR, g1, g2, g3, u1, u2, m1, m2, m3, ne', eq_int, a, b, c, p, hereD, tr]
        · simp [ev, evA, evO, evC, evI, evF, exS, exB, Ms.seq, Mo.bnd, Mo.ret, Mo.lift, Mo.opd, RV.opd, Mo.set, RV.set, Mo.tst, Mo.imm, Mo.imms, Mo.nox, opds, OB.toD, atD, cmpD, binD, bltD, prepR, preps, storeR, storesR, nxOf, Mo.fl, isNon, tysD, tyD, intD, intsD, seqD, lstD, methD, isMut, mutD, callD, permL, bindT, slcD, startE, ioE, runD, setID, setOB, get1D, get2D, keyD, keyR, g1, g2, g3, u1, u2, m1, m2, m3, ne', eq_int, a, b, c, p, hereD]
end
end HB

set_option Elab.async false
set_option linter.all false
set_option maxRecDepth 100000
set_option maxHeartbeats 0
namespace HB.k47
open PySem PySem.Spec PyProof.Rows L2
/-! _law_broken: number 280 -/
def g_law_broken : Df := ⟨2, 4, true, [.asg 2 false (.blt .len (.cons (.var 1) .nil)), .asg 3 false (.lst (.cons (.cst .non) (.cons (.tup .nil) (.cons (.blt .list (.cons (.var 1) .nil)) (.cons .dct0 (.cons (.cst (.str ("-" : PySem.Str))) (.cons (.cst (.int 5)) (.cons (.cst (.bl true)) (.cons (.bin .add (.var 1) (.tup (.cons (.var 2) .nil))) (.cons (.bin .add (.var 1) (.tup (.cons (.bin .add (.var 2) (.cst (.int 1))) .nil))) (.cons (.bin .add (.var 1) (.tup (.cons (.neg (.cst (.int 1))) .nil))) .nil))))))))))), .asg 3 false (.bin .add (.var 3) (.lst (.cons (.bin .add (.var 1) (.tup (.cons (.cst (.bl true)) .nil))) (.cons (.bin .add (.var 1) (.tup (.cons (.cst (.str ("0" : PySem.Str))) .nil))) (.cons (.bin .add (.var 1) (.tup (.cons (.tup (.cons (.cst (.int 0)) .nil)) .nil))) (.cons (.bin .add (.var 1) (.tup (.cons (.lst (.cons (.cst .non) .nil)) .nil))) (.cons (.tup (.cons (.var 1) .nil)) .nil))))))), .asg 3 false (.bin .add (.var 3) (.lst (.cons (.bin .add (.tup (.cons (.cst (.int 1)) (.cons (.cst (.int 0)) .nil))) (.slc (.var 1) (.yes (.cst (.int 2))) .no)) (.cons (.tup (.cons (.cst (.int 1)) (.cons (.cst (.int 2)) (.cons (.cst (.int 0)) .nil)))) (.cons (.tup (.cons (.cst .non) (.cons (.cst (.int 2)) (.cons (.cst (.int 3)) (.cons (.cst (.int 1)) .nil))))) (.cons (.tup (.cons (.cst .non) (.cons (.cst .non) (.cons (.cst (.int 2)) .nil)))) .nil)))))), .ret (.idx (.var 3) (.call 4 true (.cons (.var 0) (.cons (.blt .len (.cons (.var 3) .nil)) .nil))))]⟩
/-! _law_odd: number 430 -/
def g_law_odd : Df := ⟨2, 3, true, [.asg 2 false (.lst (.cons (.cst .non) (.cons (.neg (.cst (.int 1))) (.cons (.var 1) (.cons (.cst (.bl true)) (.cons (.cst (.bl false)) (.cons (.cst (.str ("0" : PySem.Str))) (.cons (.cst (.str ("" : PySem.Str))) (.cons (.lst (.cons (.cst (.int 0)) .nil)) (.cons (.tup (.cons (.cst (.int 0)) .nil)) (.cons .dct0 (.cons (.bin .pow (.cst (.int 10)) (.cst (.int 39))) (.cons (.bin .sub (.cst (.int 0)) (.bin .pow (.cst (.int 10)) (.cst (.int 39)))) .nil))))))))))))), .ret (.idx (.var 2) (.call 4 true (.cons (.var 0) (.cons (.blt .len (.cons (.var 2) .nil)) .nil))))]⟩
/-! _law_called: number 431 -/
def g_law_called_v10 : Df := ⟨2, 2, false, [.if_ (.cmp .eq (.var 0) (.cst (.int 0))) [.expr (.call 320 false (.cons (.idx (.var 1) (.cst (.int 0))) (.cons (.idx (.var 1) (.cst (.int 1))) .nil)))] [], .if_ (.cmp .eq (.var 0) (.cst (.int 1))) [.expr (.call 321 false (.cons (.idx (.var 1) (.cst (.int 0))) (.cons (.idx (.var 1) (.cst (.int 1))) (.cons (.idx (.var 1) (.cst (.int 2))) .nil))))] [], .if_ (.cmp .eq (.var 0) (.cst (.int 2))) [.expr (.callK 322 [1, 0] (.cons (.idx (.var 1) (.cst (.int 1))) (.cons (.idx (.var 1) (.cst (.int 0))) .nil)))] [], .if_ (.cmp .eq (.var 0) (.cst (.int 3))) [.expr (.call 323 false (.cons (.idx (.var 1) (.cst (.int 0))) (.cons (.idx (.var 1) (.cst (.int 1))) .nil)))] [], .if_ (.cmp .eq (.var 0) (.cst (.int 4))) [.expr (.call 422 false (.cons (.idx (.var 1) (.cst (.int 0))) (.cons (.idx (.var 1) (.cst (.int 1))) (.cons (.idx (.var 1) (.cst (.int 2))) .nil))))] [], .if_ (.cmp .eq (.var 0) (.cst (.int 5))) [.expr (.callK 320 [1, 0] (.cons (.idx (.var 1) (.cst (.int 1))) (.cons (.idx (.var 1) (.cst (.int 0))) .nil)))] [], .if_ (.cmp .eq (.var 0) (.cst (.int 6))) [.expr (.callK 321 [2, 1, 0] (.cons (.idx (.var 1) (.cst (.int 2))) (.cons (.idx (.var 1) (.cst (.int 1))) (.cons (.idx (.var 1) (.cst (.int 0))) .nil))))] [], .if_ (.cmp .eq (.var 0) (.cst (.int 7))) [.expr (.callK 323 [1, 0] (.cons (.idx (.var 1) (.cst (.int 1))) (.cons (.idx (.var 1) (.cst (.int 0))) .nil)))] [], .if_ (.cmp .eq (.var 0) (.cst (.int 8))) [.expr (.callK 422 [2, 1, 0] (.cons (.idx (.var 1) (.cst (.int 2))) (.cons (.idx (.var 1) (.cst (.int 1))) (.cons (.idx (.var 1) (.cst (.int 0))) .nil))))] []]⟩
/-! _law_caught: number 432 -/
def g_law_caught_v2 : Df := ⟨2, 5, false, [.asg 2 false (.blt .repr (.cons (.var 1) .nil)), .try_ [.expr (.call 431 false (.cons (.var 0) (.cons (.var 1) .nil)))] 4 [0, 1, 2, 6, 11, 15] [.asg 3 false (.lst (.cons (.isx 4 [1]) (.cons (.isx 4 [2]) (.cons (.isx 4 [11]) .nil)))), .asg 3 false (.bin .add (.var 3) (.lst (.cons (.isx 4 [15]) (.cons (.isx 4 [6]) .nil)))), .if_ (.or (.not (.isx 4 [0, 1, 2, 6, 11, 15])) (.cmp .ne (.meth .count (.var 3) (.cons (.cst (.bl true)) .nil)) (.cst (.int 1)))) [.ret (.cst (.str ("odd" : PySem.Str)))] [], .ret (.idx (.lst (.cons (.cst (.str ("forest" : PySem.Str))) (.cons (.cst (.str ("thing" : PySem.Str))) (.cons (.cst (.str ("none" : PySem.Str))) (.cons (.cst (.str ("only" : PySem.Str))) (.cons (.cst (.str ("same" : PySem.Str))) .nil)))))) (.meth .index (.var 3) (.cons (.cst (.bl true)) .nil)))] [], .ret (.ite (.cmp .eq (.blt .repr (.cons (.var 1) .nil)) (.var 2)) (.cst (.str ("none" : PySem.Str))) (.cst (.str ("changed" : PySem.Str))))]⟩
/-! _law_right: number 433 -/
def g_law_right_v17_c1 : IE := .comp [5] [5] (.rng1 (.cst (.int 3))) .no (.cmp .eq (.call 4 true (.cons (.var 0) (.cons (.cst (.int 3)) .nil))) (.cst (.int 0)))
def g_law_right_v17_b1 : List IS := [.asg 10 false (.idx (.lst (.cons (.var 3) (.cons (.var 2) .nil))) (.blt .int (.cons (.cmp .eq (.idx (.var 7) (.var 5)) (.cst (.str ("forest" : PySem.Str)))) .nil))), .if_ (.and (.cmp .eq (.var 5) (.bin .sub (.blt .len (.cons (.var 7) .nil)) (.cst (.int 1)))) (.cmp .gt (.var 5) (.cst (.int 0)))) [.asg 10 false (.idx (.lst (.cons (.call 4 true (.cons (.var 0) (.cons (.blt .len (.cons (.var 2) .nil)) .nil))) (.cons (.call 5 true (.cons (.var 0) (.cons (.cst (.int 9)) .nil))) .nil))) (.blt .int (.cons (.cmp .eq (.idx (.var 7) (.var 5)) (.cst (.str ("forest" : PySem.Str)))) .nil)))] [], .if_ (.idx (.var 4) (.var 5)) [.asg 10 false (.ite (.cmp .eq (.idx (.var 7) (.var 5)) (.cst (.str ("forest" : PySem.Str)))) (.call 280 true (.cons (.var 0) (.cons (.var 2) .nil))) (.call 430 true (.cons (.var 0) (.cons (.blt .len (.cons (.var 2) .nil)) .nil)))), .asg 9 false (.ite (.cmp .eq (.var 9) (.cst (.str ("none" : PySem.Str)))) (.idx (.var 7) (.var 5)) (.var 9))] [], .expr (.meth .append (.var 8) (.cons (.var 10) .nil))]
def g_law_right_v17 : Df := ⟨2, 11, true, [.asg 2 false (.call 5 true (.cons (.var 0) (.cons (.idx (.lst (.cons (.cst (.int 9)) (.cons (.cst (.int 1)) (.cons (.cst (.int 2)) .nil)))) (.call 4 true (.cons (.var 0) (.cons (.cst (.int 3)) .nil)))) .nil))), .asgN [3, 4] [false, false] (.cons (.call 4 true (.cons (.var 0) (.cons (.blt .len (.cons (.var 2) .nil)) .nil))) (.cons g_law_right_v17_c1 .nil)), .asg 6 false (.lst (.cons (.lst (.cons (.cst (.str ("forest" : PySem.Str))) (.cons (.cst (.str ("forest" : PySem.Str))) .nil))) (.cons (.lst (.cons (.cst (.str ("forest" : PySem.Str))) (.cons (.cst (.str ("thing" : PySem.Str))) (.cons (.cst (.str ("forest" : PySem.Str))) .nil)))) (.cons (.lst (.cons (.cst (.str ("forest" : PySem.Str))) (.cons (.cst (.str ("thing" : PySem.Str))) .nil))) (.cons (.lst (.cons (.cst (.str ("forest" : PySem.Str))) (.cons (.cst (.str ("thing" : PySem.Str))) .nil))) .nil))))), .asg 6 false (.bin .add (.var 6) (.lst (.cons (.lst (.cons (.cst (.str ("forest" : PySem.Str))) (.cons (.cst (.str ("thing" : PySem.Str))) (.cons (.cst (.str ("thing" : PySem.Str))) .nil)))) (.cons (.idx (.var 6) (.cst (.int 0))) (.cons (.idx (.var 6) (.cst (.int 1))) (.cons (.idx (.var 6) (.cst (.int 3))) (.cons (.lst (.cons (.cst (.str ("forest" : PySem.Str))) (.cons (.cst (.str ("thing" : PySem.Str))) (.cons (.cst (.str ("thing" : PySem.Str))) .nil)))) .nil))))))), .asg 7 false (.idx (.var 6) (.var 1)), .asgN [8, 9] [true, false] (.cons (.lst .nil) (.cons (.cst (.str ("none" : PySem.Str))) .nil)), .for_ [5] [10] (.rng1 (.blt .len (.cons (.var 7) .nil))) g_law_right_v17_b1, .if_ (.and (.cmp .eq (.var 9) (.cst (.str ("none" : PySem.Str)))) (.and (.cmp .mem (.var 1) (.tup (.cons (.cst (.int 3)) (.cons (.cst (.int 7)) .nil)))) (.cmp .eq (.blt .len (.cons (.var 2) .nil)) (.cst (.int 1))))) [.asg 9 false (.cst (.str ("only" : PySem.Str)))] [], .if_ (.and (.cmp .eq (.var 9) (.cst (.str ("none" : PySem.Str)))) (.and (.cmp .mem (.var 1) (.tup (.cons (.cst (.int 4)) (.cons (.cst (.int 8)) .nil)))) (.cmp .eq (.idx (.var 8) (.cst (.int 1))) (.idx (.var 8) (.cst (.int 2)))))) [.asg 9 false (.cst (.str ("same" : PySem.Str)))] [], .ret (.cmp .eq (.call 432 false (.cons (.var 1) (.cons (.var 8) .nil))) (.var 9))]⟩
/-! law: number 434 -/
def g_law_v45_b1 : List IS := [.if_ (.not (.callF 433 (.cons (.call 3 false (.cons (.var 0) (.cons (.var 1) .nil))) (.cons (.bin .mod (.blt .int (.cons (.var 1) .nil)) (.cst (.int 9))) .nil)))) [.ret (.cst (.bl false))] []]
def g_law_v45 : Df := ⟨1, 2, false, [.for_ [1] [1] (.rng1 (.blt .max2 (.cons (.cst (.int 36)) (.cons (.blt .min2 (.cons (.cst (.int 54)) (.cons (.blt .len (.cons (.var 0) .nil)) .nil))) .nil)))) g_law_v45_b1, .ret (.cst (.bl true))]⟩
def sN : PySem.Str := "none"
def sF : PySem.Str := "forest"
def sT : PySem.Str := "thing"
def sO : PySem.Str := "only"
def sS : PySem.Str := "same"
def sK (b : Bool) : PySem.Str := if b then sF else sT
theorem sK_ne (b : Bool) : sK b ≠ sN := by cases b <;> decide
/-! forests that are none, things that are none -/
theorem app_not {ds : List D} {d : D} (h : okE (ds.length + 1) d = false) : isForest (.tup (ds ++ [d])) = false := by
  have : (ds ++ [d]).all (okE (ds ++ [d]).length) = false := by
    rw [List.all_append]
    simp [h]
  show (!(ds ++ [d]).isEmpty && ((ds ++ [d]).all (okE (ds ++ [d]).length) && rooted (ds ++ [d]))) = false
  rw [this]
  simp
theorem upE_loop {ds : List D} {x : Nat} (h : par ds x = some x) : ∀ k, upE ds k (some x) = some x
  | 0 => rfl
  | k + 1 => by rw [upE_succ, h, upE_loop h k]
theorem self_not {ds : List D} : isForest (.tup (ds ++ [.int (ds.length : Int)])) = false := by
  have p : par (ds ++ [.int (ds.length : Int)]) ds.length = some ds.length := by
    unfold par
    simp [parD]
  have r : rooted (ds ++ [.int (ds.length : Int)]) = false := by
    unfold rooted
    rw [List.all_eq_false]
    refine ⟨ds.length, by simp, ?_⟩
    rw [p, upE_loop p]
    simp
  show (!(ds ++ [D.int (ds.length : Int)]).isEmpty && ((ds ++ [D.int (ds.length : Int)]).all (okE (ds ++ [D.int (ds.length : Int)]).length) && rooted (ds ++ [D.int (ds.length : Int)]))) = false
  rw [r]
  simp
theorem ring_not (r : List D) : isForest (.tup (.int 1 :: .int 0 :: r)) = false := by
  have p0 : par (.int 1 :: .int 0 :: r) 0 = some 1 := rfl
  have p1 : par (.int 1 :: .int 0 :: r) 1 = some 0 := rfl
  have go : ∀ k, upE (.int 1 :: .int 0 :: r) k (some 0) ≠ none ∧ upE (.int 1 :: .int 0 :: r) k (some 1) ≠ none := by
    intro k
    induction k with
    | zero => exact ⟨by simp [upE], by simp [upE]⟩
    | succ k ih => exact ⟨by rw [upE_succ, p0]; exact ih.2, by rw [upE_succ, p1]; exact ih.1⟩
  have q : rooted (.int 1 :: .int 0 :: r) = false := by
    unfold rooted
    rw [List.all_eq_false]
    refine ⟨0, by simp, ?_⟩
    rw [p0]
    have := (go (D.int 1 :: D.int 0 :: r).length).2
    simpa [Option.isNone_iff_eq_none] using this
  show (!(D.int 1 :: D.int 0 :: r).isEmpty && ((D.int 1 :: D.int 0 :: r).all (okE (D.int 1 :: D.int 0 :: r).length) && rooted (D.int 1 :: D.int 0 :: r))) = false
  rw [q]
  simp
def Sh (d : D) : Prop := Shown 6 6000 d
theorem sh_small {d : D} (h : Small d) : Sh d := h.shown.mono (by decide) (by decide)
theorem sh_tup {l : List D} (h : ∀ d ∈ l, Small d) (hl : l.length ≤ 62) : Sh (.tup l) := (shown_tup (n := 62) (fun d hd => (h d hd).shown) hl).mono (by decide) (by decide)
theorem sh_lst {l : List D} (h : ∀ d ∈ l, Small d) (hl : l.length ≤ 62) : Sh (.lst l) := (shown_lst (n := 62) (fun d hd => (h d hd).shown) hl).mono (by decide) (by decide)
theorem fine_small {ds : List D} (h : Fine ds) (hl : ds.length ≤ 60) : ∀ d ∈ ds, Small d := fun d hd => by
  rcases h d hd with e | ⟨i, e, hi⟩ <;> subst e
  · exact small_non
  · exact small_int (by omega)
theorem ask_tup {l : List D} (h : ∀ d ∈ l, Small d) (hl : l.length ≤ 62) : Ask (.tup l) := ⟨rfl, fun es e => by cases e; exact ⟨by omega, fun d hd => (h d hd).1⟩⟩
theorem ask_one {d : D} (h : noFrz d = true) (n : ∀ ds, d ≠ .tup ds) : Ask d := ⟨h, fun ds e => (n ds e).elim⟩
theorem small_app {ds : List D} {d : D} (h : ∀ d ∈ ds, Small d) (k : Small d) : ∀ e ∈ ds ++ [d], Small e := fun e he => by
  rcases List.mem_append.mp he with he | he
  · exact h e he
  · simp only [List.mem_cons, List.not_mem_nil, or_false] at he
    subst he; exact k
theorem sm_str {x : PySem.Str} (h : noFrz (.str x) = true ∧ reprOk (.str x) = true ∧ (toPy (.str x)).showable = true ∧ (toPy (.str x)).depth ≤ 2 ∧ (toPy (.str x)).shown.length ≤ 60) : Small (.str x) := h
theorem sm_0 : Small (.str ("0" : PySem.Str)) := ⟨rfl, rfl, rfl, by decide, by decide +kernel⟩
theorem sm_e : Small (.str ("" : PySem.Str)) := ⟨rfl, rfl, rfl, by decide, by decide +kernel⟩
theorem sm_m : Small (.str ("-" : PySem.Str)) := ⟨rfl, rfl, rfl, by decide, by decide +kernel⟩
theorem sm_t0 : Small (.tup [.int 0]) := ⟨rfl, rfl, by decide +kernel, by decide, by decide +kernel⟩
theorem sm_l0 : Small (.lst [.int 0]) := ⟨rfl, rfl, by decide +kernel, by decide, by decide +kernel⟩
theorem sm_ln : Small (.lst [.non]) := ⟨rfl, rfl, by decide +kernel, by decide, by decide +kernel⟩
theorem sm_dk : Small (.dK [] []) := ⟨rfl, rfl, rfl, by decide, by decide +kernel⟩
theorem sm_i {i : Int} (h : i.natAbs < 1000) : Small (.int i) := small_int (by
  have : 1000 < 10 ^ 40 := by decide
  omega)
def brkL (ds : List D) : List D := [.non, .tup [], .lst ds, .dK [] [], .str ("-" : PySem.Str), .int 5, .bl true, .tup (ds ++ [.int (ds.length : Int)]), .tup (ds ++ [.int ((ds.length : Int) + 1)]), .tup (ds ++ [.int (-1)]),
  .tup (ds ++ [.bl true]), .tup (ds ++ [.str ("0" : PySem.Str)]), .tup (ds ++ [.tup [.int 0]]), .tup (ds ++ [.lst [.non]]), .tup [.tup ds],
  .tup (.int 1 :: .int 0 :: ds.drop 2), .tup [.int 1, .int 2, .int 0], .tup [.non, .int 2, .int 3, .int 1], .tup [.non, .non, .int 2]]
theorem brk_not {ds : List D} (h : Fst ds) (hl : ds.length ≤ 60) {d : D} (k : d ∈ brkL ds) : (Ask d ∧ isForest d = false) ∧ Sh d := by
  have sm := fine_small h.fine hl
  have two : ∀ {d : D}, Small d → okE (ds.length + 1) d = false → (Ask (.tup (ds ++ [d])) ∧ isForest (.tup (ds ++ [d])) = false) ∧ Sh (.tup (ds ++ [d])) := fun s o => ⟨⟨ask_tup (small_app sm s) (by simp; omega), app_not o⟩, sh_tup (small_app sm s) (by simp; omega)⟩
  simp only [brkL, List.mem_cons, List.not_mem_nil, or_false] at k
  rcases k with rfl | rfl | rfl | rfl | rfl | rfl | rfl | rfl | rfl | rfl | rfl | rfl | rfl | rfl | rfl | rfl | rfl | rfl | rfl
  · exact ⟨⟨ask_one rfl (fun _ z => nomatch z), rfl⟩, sh_small small_non⟩
  · exact ⟨⟨ask_tup (fun _ z => nomatch z) (by simp), rfl⟩, sh_tup (fun _ z => nomatch z) (by simp)⟩
  · exact ⟨⟨ask_one rfl (fun _ z => nomatch z), rfl⟩, sh_lst sm (by omega)⟩
  · exact ⟨⟨ask_one rfl (fun _ z => nomatch z), rfl⟩, sh_small sm_dk⟩
  · exact ⟨⟨ask_one rfl (fun _ z => nomatch z), rfl⟩, sh_small sm_m⟩
  · exact ⟨⟨ask_one rfl (fun _ z => nomatch z), rfl⟩, sh_small (sm_i (by decide))⟩
  · exact ⟨⟨ask_one rfl (fun _ z => nomatch z), rfl⟩, sh_small (small_bl _)⟩
  · exact ⟨⟨ask_tup (small_app sm (sm_i (by omega))) (by simp; omega), self_not⟩, sh_tup (small_app sm (sm_i (by omega))) (by simp; omega)⟩
  · exact two (sm_i (by omega)) (by simp [okE, isNon, isI]; omega)
  · exact two (sm_i (by decide)) (by simp [okE, isNon, isI])
  · exact two (small_bl _) rfl
  · exact two sm_0 rfl
  · exact two sm_t0 rfl
  · exact two sm_ln rfl
  · refine ⟨⟨⟨rfl, fun es e => by cases e; exact ⟨by simp, by simp [noFrz]⟩⟩, by simp [isForest, okE, isNon, isI]⟩, (shown_tup (c := 3) (b := 3723) (n := 1) (fun d hd => ?_) (by simp)).mono (by decide) (by decide)⟩
    simp only [List.mem_cons, List.not_mem_nil, or_false] at hd
    subst hd
    exact fine_shown60 h.fine hl
  · have s : ∀ e ∈ D.int 1 :: .int 0 :: ds.drop 2, Small e := fun e he => by
      simp only [List.mem_cons] at he
      rcases he with rfl | rfl | he
      · exact sm_i (by decide)
      · exact sm_i (by decide)
      · exact sm e (List.mem_of_mem_drop he)
    exact ⟨⟨ask_tup s (by simp; omega), ring_not _⟩, sh_tup s (by simp; omega)⟩
  all_goals
    refine ⟨⟨ask_tup ?_ (by simp), by decide +kernel⟩, sh_tup ?_ (by simp)⟩ <;>
    · intro e he
      simp only [List.mem_cons, List.not_mem_nil, or_false] at he
      rcases he with rfl | rfl | rfl | rfl <;> first | exact small_non | exact sm_i (by decide)
def oddL (n : Nat) : List D := [.non, .int (-1), .int (n : Int), .bl true, .bl false, .str ("0" : PySem.Str), .str ("" : PySem.Str), .lst [.int 0], .tup [.int 0], .dK [] [], .int (10 ^ 39), .int (0 - 10 ^ 39)]
theorem odd_not {n : Nat} (hn : n ≤ 60) {d : D} (h : d ∈ oddL n) : (noFrz d = true ∧ isI d 0 ((n : Int) - 1) = false) ∧ Sh d := by
  have b1 : (1000 : Int) < 10 ^ 39 := by decide
  simp only [oddL, List.mem_cons, List.not_mem_nil, or_false] at h
  rcases h with rfl | rfl | rfl | rfl | rfl | rfl | rfl | rfl | rfl | rfl | rfl | rfl
  · exact ⟨⟨rfl, rfl⟩, sh_small small_non⟩
  · exact ⟨⟨rfl, by simp [isI]⟩, sh_small (sm_i (by decide))⟩
  · exact ⟨⟨rfl, by simp [isI]; omega⟩, sh_small (sm_i (by omega))⟩
  · exact ⟨⟨rfl, rfl⟩, sh_small (small_bl _)⟩
  · exact ⟨⟨rfl, rfl⟩, sh_small (small_bl _)⟩
  · exact ⟨⟨rfl, rfl⟩, sh_small sm_0⟩
  · exact ⟨⟨rfl, rfl⟩, sh_small sm_e⟩
  · exact ⟨⟨rfl, rfl⟩, sh_small sm_l0⟩
  · exact ⟨⟨rfl, rfl⟩, sh_small sm_t0⟩
  · exact ⟨⟨rfl, rfl⟩, sh_small sm_dk⟩
  · refine ⟨⟨rfl, ?_⟩, sh_small (small_int (by decide))⟩
    simp only [isI, Bool.and_eq_false_imp, decide_eq_true_eq, decide_eq_false_iff_not]
    intro _
    omega
  · refine ⟨⟨rfl, ?_⟩, sh_small (small_int (by decide))⟩
    simp only [isI, Bool.and_eq_false_imp, decide_eq_true_eq, decide_eq_false_iff_not]
    intro z
    omega
/-! rows of arguments -/
def Good (ds : List D) (b : Bool) (j : Nat) (d : D) : Prop := if b = true then (if j = 0 then d = .tup ds else ∃ es, d = .tup es ∧ Fst es ∧ es.length ≤ 60) else ∃ x : Nat, d = .int (x : Int) ∧ x < ds.length
def Bad (ds : List D) (b : Bool) (d : D) : Prop := if b = true then Ask d ∧ isForest d = false else noFrz d = true ∧ isI d 0 ((ds.length : Int) - 1) = false
def Chain (ds : List D) : List Bool → Nat → List D → PySem.Str → Prop
  | [], _, r, s => r = [] ∧ s = sN
  | b :: K, j, r, s => ∃ d r', r = d :: r' ∧ ((Bad ds b d ∧ s = sK b ∧ r'.length = K.length) ∨ (Good ds b j d ∧ Chain ds K (j + 1) r' s))
theorem chain_good {ds : List D} {b : Bool} {d : D} : ∀ {K : List Bool} {j : Nat} {r : List D} {s : PySem.Str}, Chain ds K j r s → Good ds b (j + K.length) d → Chain ds (K ++ [b]) j (r ++ [d]) s
  | [], j, r, s, ⟨h1, h2⟩, g => by subst h1; exact ⟨d, [], rfl, .inr ⟨by simpa using g, rfl, h2⟩⟩
  | c :: K, j, r, s, ⟨e, r', h1, h2⟩, g => by
    subst h1
    refine ⟨e, r' ++ [d], rfl, ?_⟩
    rcases h2 with ⟨a1, a2, a3⟩ | ⟨a1, a2⟩
    · exact .inl ⟨a1, a2, by simp [a3]⟩
    · exact .inr ⟨a1, chain_good a2 (by rw [List.length_cons] at g; rw [show j + 1 + K.length = j + (K.length + 1) by omega]; exact g)⟩
theorem chain_bad {ds : List D} {b : Bool} {d : D} : ∀ {K : List Bool} {j : Nat} {r : List D} {s : PySem.Str}, Chain ds K j r s → Bad ds b d → Chain ds (K ++ [b]) j (r ++ [d]) (if s = sN then sK b else s)
  | [], j, r, s, ⟨h1, h2⟩, g => by subst h1; exact ⟨d, [], rfl, .inl ⟨g, by rw [if_pos h2], rfl⟩⟩
  | c :: K, j, r, s, ⟨e, r', h1, h2⟩, g => by
    subst h1
    refine ⟨e, r' ++ [d], rfl, ?_⟩
    rcases h2 with ⟨a1, a2, a3⟩ | ⟨a1, a2⟩
    · exact .inl ⟨a1, by rw [if_neg (by rw [a2]; exact sK_ne c), a2], by simp [a3]⟩
    · exact .inr ⟨a1, chain_bad a2 g⟩
def Kw : Nat → List Bool
  | 0 => [true, true]
  | 1 => [true, false, true]
  | 2 => [true, false]
  | 3 => [true, false]
  | 4 => [true, false, false]
  | 5 => [true, true]
  | 6 => [true, false, true]
  | 7 => [true, false]
  | _ => [true, false, false]
def sameB : List D → Bool
  | [_, .int a, .int b] => decide (a = b)
  | _ => false
/-- what is due in the end -/
def fin47 (ds : List D) (w : Nat) (r : List D) (s : PySem.Str) : PySem.Str :=
  if s = sN ∧ (w = 3 ∨ w = 7) ∧ ds.length = 1 then sO else if s = sN ∧ (w = 4 ∨ w = 8) ∧ sameB r = true then sS else s
/-- how a call's end is told -/
inductive OS : FOut → PySem.Str → Prop where
  | ok : OS (.ok (.val .non) none) sN
  | no : OS (.ex 11) sN
  | f : OS (.ex 1) sF
  | t : OS (.ex 2) sT
  | o : OS (.ex 15) sO
  | s : OS (.ex 6) sS
section
variable {Φ : Fn} {wn : Nat}
theorem told_two (ds : List D) (x y : Nat) : (∃ v, toldF ds x y = .ok (.val v) none) ∨ toldF ds x y = .ex 11 := by
  unfold toldF
  split
  · exact .inl ⟨_, rfl⟩
  · split
    · exact .inl ⟨_, rfl⟩
    · split
      · split
        · exact .inl ⟨_, rfl⟩
        · exact .inr rfl
      · exact .inl ⟨_, rfl⟩
def Sp_called47 (φ : FO) : Prop := ∀ ds (w : Nat) r s, w < 9 → Fst ds → Chain ds (Kw w) 0 r s → ∃ O, φ none [.int (w : Int), .lst r] = some O ∧ OS O (fin47 ds w r s)
theorem good_f0 {ds : List D} {d : D} (h : Good ds true 0 d) : d = .tup ds := by simpa [Good] using h
theorem good_f {ds : List D} {d : D} {j : Nat} (hj : j ≠ 0) (h : Good ds true j d) : ∃ es, d = .tup es ∧ Fst es ∧ es.length ≤ 60 := by simpa [Good, hj] using h
theorem good_t {ds : List D} {d : D} {j : Nat} (h : Good ds false j d) : ∃ x : Nat, d = .int (x : Int) ∧ x < ds.length := by simpa [Good] using h
theorem bad_f {ds : List D} {d : D} (h : Bad ds true d) : Ask d ∧ isForest d = false := by simpa [Bad] using h
theorem bad_t {ds : List D} {d : D} (h : Bad ds false d) : noFrz d = true ∧ isI d 0 ((ds.length : Int) - 1) = false := by simpa [Bad] using h
theorem fin_id {ds : List D} {w : Nat} {r : List D} {s : PySem.Str} (h : s ≠ sN ∨ (w ≠ 3 ∧ w ≠ 7 ∧ w ≠ 4 ∧ w ≠ 8)) : fin47 ds w r s = s := by
  unfold fin47
  rw [if_neg, if_neg]
  · rintro ⟨h1, h2, _⟩
    rcases h with h | h
    · exact h h1
    · omega
  · rintro ⟨h1, h2, _⟩
    rcases h with h | h
    · exact h h1
    · omega
theorem sF_ne : sF ≠ sN := by decide
theorem sT_ne : sT ≠ sN := by decide
theorem len1 {α : Type} {l : List α} (h : l.length = 1) : ∃ a, l = [a] := by
  cases l with
  | nil => simp at h
  | cons a l => cases l with
    | nil => exact ⟨a, rfl⟩
    | cons b l => simp at h
theorem len2 {α : Type} {l : List α} (h : l.length = 2) : ∃ a b, l = [a, b] := by
  cases l with
  | nil => simp at h
  | cons a l =>
    obtain ⟨b, rfl⟩ := len1 (l := l) (by simpa using h)
    exact ⟨a, b, rfl⟩
theorem r_beside {ds : List D} {r : List D} {s : PySem.Str} {φ : FO} (hb : Sp_beside φ) (F : Fst ds) (C : Chain ds [true, true] 0 r s) : ∃ a b, r = [a, b] ∧ ((∃ v, φ none [a, b] = some (.ok v none) ∧ s = sN) ∨ (φ none [a, b] = some (.ex 1) ∧ s = sF)) := by
  obtain ⟨a, r1, rfl, ⟨A1, rfl, A3⟩ | ⟨A1, b, r2, rfl, ⟨B1, rfl, B3⟩ | ⟨B1, rfl, rfl⟩⟩⟩ := C
  · obtain ⟨b, rfl⟩ := len1 A3
    obtain ⟨q1, q2⟩ := bad_f A1
    exact ⟨a, b, rfl, .inr ⟨hb.n1 a b q1 q2, rfl⟩⟩
  · obtain rfl := good_f0 A1
    obtain rfl := List.length_eq_zero_iff.mp B3
    obtain ⟨q1, q2⟩ := bad_f B1
    exact ⟨_, b, rfl, .inr ⟨hb.n2 ds b F q1 q2, rfl⟩⟩
  · obtain rfl := good_f0 A1
    obtain ⟨es, rfl, k, _⟩ := good_f (by decide) B1
    exact ⟨_, _, rfl, .inl ⟨_, hb.yes ds es F k, rfl⟩⟩
theorem r_grafted {ds : List D} {r : List D} {s : PySem.Str} {φ : FO} (hg : Sp_grafted φ) (F : Fst ds) (C : Chain ds [true, false, true] 0 r s) : ∃ a b c, r = [a, b, c] ∧ ((∃ v, φ none [a, b, c] = some (.ok v none) ∧ s = sN) ∨ (φ none [a, b, c] = some (.ex 1) ∧ s = sF) ∨ (φ none [a, b, c] = some (.ex 2) ∧ s = sT)) := by
  obtain ⟨a, r1, rfl, ⟨A1, rfl, A3⟩ | ⟨A1, b, r2, rfl, ⟨B1, rfl, B3⟩ | ⟨B1, c, r3, rfl, ⟨C1, rfl, C3⟩ | ⟨C1, rfl, rfl⟩⟩⟩⟩ := C
  · obtain ⟨b, c, rfl⟩ := len2 A3
    obtain ⟨q1, q2⟩ := bad_f A1
    exact ⟨a, b, c, rfl, .inr (.inl ⟨hg.n1 a b c q1 q2, rfl⟩)⟩
  · obtain rfl := good_f0 A1
    obtain ⟨c, rfl⟩ := len1 B3
    obtain ⟨q1, q2⟩ := bad_t B1
    exact ⟨_, b, c, rfl, .inr (.inr ⟨hg.n2 ds b c F q1 q2, rfl⟩)⟩
  · obtain rfl := good_f0 A1
    obtain ⟨x, rfl, hx⟩ := good_t B1
    obtain rfl := List.length_eq_zero_iff.mp C3
    obtain ⟨q1, q2⟩ := bad_f C1
    exact ⟨_, _, c, rfl, .inr (.inl ⟨hg.n3 ds x c F hx q1 q2, rfl⟩)⟩
  · obtain rfl := good_f0 A1
    obtain ⟨x, rfl, hx⟩ := good_t B1
    obtain ⟨es, rfl, k, _⟩ := good_f (by decide) C1
    exact ⟨_, _, _, rfl, .inl ⟨_, hg.yes ds es x F k hx, rfl⟩⟩
theorem r_part {ds : List D} {r : List D} {s : PySem.Str} {φ : FO} (hp : Sp_part φ) (F : Fst ds) (C : Chain ds [true, false] 0 r s) : ∃ a b, r = [a, b] ∧ ((∃ v, φ none [a, b] = some (.ok v none) ∧ s = sN) ∨ (φ none [a, b] = some (.ex 1) ∧ s = sF) ∨ (φ none [a, b] = some (.ex 2) ∧ s = sT)) := by
  obtain ⟨a, r1, rfl, ⟨A1, rfl, A3⟩ | ⟨A1, b, r2, rfl, ⟨B1, rfl, B3⟩ | ⟨B1, rfl, rfl⟩⟩⟩ := C
  · obtain ⟨b, rfl⟩ := len1 A3
    obtain ⟨q1, q2⟩ := bad_f A1
    exact ⟨a, b, rfl, .inr (.inl ⟨hp.n1 a b q1 q2, rfl⟩)⟩
  · obtain rfl := good_f0 A1
    obtain rfl := List.length_eq_zero_iff.mp B3
    obtain ⟨q1, q2⟩ := bad_t B1
    exact ⟨_, b, rfl, .inr (.inr ⟨hp.n2 ds b F q1 q2, rfl⟩)⟩
  · obtain rfl := good_f0 A1
    obtain ⟨x, rfl, hx⟩ := good_t B1
    exact ⟨_, _, rfl, .inl ⟨_, hp.yes ds x F hx, rfl⟩⟩
theorem r_without {ds : List D} {r : List D} {s : PySem.Str} {φ : FO} (hp : Sp_without φ) (F : Fst ds) (C : Chain ds [true, false] 0 r s) : ∃ a b, r = [a, b] ∧ ((∃ v, φ none [a, b] = some (.ok v none) ∧ s = sN ∧ ds.length ≠ 1) ∨ (φ none [a, b] = some (.ex 15) ∧ s = sN ∧ ds.length = 1) ∨ (φ none [a, b] = some (.ex 1) ∧ s = sF) ∨ (φ none [a, b] = some (.ex 2) ∧ s = sT)) := by
  obtain ⟨a, r1, rfl, ⟨A1, rfl, A3⟩ | ⟨A1, b, r2, rfl, ⟨B1, rfl, B3⟩ | ⟨B1, rfl, rfl⟩⟩⟩ := C
  · obtain ⟨b, rfl⟩ := len1 A3
    obtain ⟨q1, q2⟩ := bad_f A1
    exact ⟨a, b, rfl, .inr (.inr (.inl ⟨hp.n1 a b q1 q2, rfl⟩))⟩
  · obtain rfl := good_f0 A1
    obtain rfl := List.length_eq_zero_iff.mp B3
    obtain ⟨q1, q2⟩ := bad_t B1
    exact ⟨_, b, rfl, .inr (.inr (.inr ⟨hp.n2 ds b F q1 q2, rfl⟩))⟩
  · obtain rfl := good_f0 A1
    obtain ⟨x, rfl, hx⟩ := good_t B1
    by_cases h1 : ds.length = 1
    · exact ⟨_, _, rfl, .inr (.inl ⟨hp.n3 ds x F hx h1, rfl, h1⟩)⟩
    · exact ⟨_, _, rfl, .inl ⟨_, hp.yes ds x F hx (by omega), rfl, h1⟩⟩
theorem r_told {ds : List D} {r : List D} {s : PySem.Str} {φ : FO} (hp : Sp_told_ahead φ) (F : Fst ds) (C : Chain ds [true, false, false] 0 r s) : ∃ a b c, r = [a, b, c] ∧ ((∃ v, φ none [a, b, c] = some (.ok v none) ∧ s = sN ∧ sameB r = false) ∨ (φ none [a, b, c] = some (.ex 11) ∧ s = sN ∧ sameB r = false) ∨ (φ none [a, b, c] = some (.ex 6) ∧ s = sN ∧ sameB r = true) ∨ (φ none [a, b, c] = some (.ex 1) ∧ s = sF) ∨ (φ none [a, b, c] = some (.ex 2) ∧ s = sT)) := by
  obtain ⟨a, r1, rfl, ⟨A1, rfl, A3⟩ | ⟨A1, b, r2, rfl, ⟨B1, rfl, B3⟩ | ⟨B1, c, r3, rfl, ⟨C1, rfl, C3⟩ | ⟨C1, rfl, rfl⟩⟩⟩⟩ := C
  · obtain ⟨b, c, rfl⟩ := len2 A3
    obtain ⟨q1, q2⟩ := bad_f A1
    exact ⟨a, b, c, rfl, .inr (.inr (.inr (.inl ⟨hp.n1 a b c q1 q2, rfl⟩)))⟩
  · obtain rfl := good_f0 A1
    obtain ⟨c, rfl⟩ := len1 B3
    obtain ⟨q1, q2⟩ := bad_t B1
    exact ⟨_, b, c, rfl, .inr (.inr (.inr (.inr ⟨hp.n2 ds b c F q1 q2, rfl⟩)))⟩
  · obtain rfl := good_f0 A1
    obtain ⟨x, rfl, hx⟩ := good_t B1
    obtain rfl := List.length_eq_zero_iff.mp C3
    obtain ⟨q1, q2⟩ := bad_t C1
    exact ⟨_, _, c, rfl, .inr (.inr (.inr (.inr ⟨hp.n3 ds x c F hx q1 q2, rfl⟩)))⟩
  · obtain rfl := good_f0 A1
    obtain ⟨x, rfl, hx⟩ := good_t B1
    obtain ⟨y, rfl, hy⟩ := good_t C1
    by_cases e : x = y
    · subst e
      exact ⟨_, _, _, rfl, .inr (.inr (.inl ⟨hp.n4 ds x F hx, rfl, by simp [sameB]⟩))⟩
    · have e' : ¬ ((x : Int) = (y : Int)) := by omega
      have sb : sameB [.tup ds, .int (x : Int), .int (y : Int)] = false := by simp [sameB, e, e']
      have h := hp.yes ds x y F hx hy e
      rcases told_two ds x y with ⟨v, hv⟩ | hv
      · rw [hv] at h; exact ⟨_, _, _, rfl, .inl ⟨_, h, rfl, sb⟩⟩
      · rw [hv] at h; exact ⟨_, _, _, rfl, .inr (.inl ⟨h, rfl, sb⟩)⟩
theorem ok_called47 (hb : Sp_beside (Φ 320)) (hg : Sp_grafted (Φ 321)) (hp : Sp_part (Φ 322)) (hw : Sp_without (Φ 323)) (ht : Sp_told_ahead (Φ 422)) : Sp_called47 (runD Φ wn g_law_called_v10) := by
  intro ds w r s h9 F C
  have two : w = 0 ∨ w = 5 ∨ w = 1 ∨ w = 6 ∨ w = 2 ∨ w = 3 ∨ w = 7 ∨ w = 4 ∨ w = 8 := by omega
  rcases two with rfl | rfl | rfl | rfl | rfl | rfl | rfl | rfl | rfl
  iterate 2
    · obtain ⟨a, b, rfl, ⟨v, e, rfl⟩ | ⟨e, rfl⟩⟩ := r_beside hb F C
      · exact ⟨_, by simp [ev, evA, evO, evC, evI, evF, exS, exB, Ms.seq, Mo.bnd, Mo.ret, Mo.lift, Mo.opd, RV.opd, Mo.set, RV.set, Mo.tst, Mo.imm, Mo.imms, Mo.nox, opds, OB.toD, atD, cmpD, binD, bltD, prepR, preps, storeR, storesR, nxOf, Mo.fl, isNon, tysD, tyD, intD, intsD, seqD, lstD, methD, isMut, mutD, callD, permL, bindT, slcD, startE, ioE, runD, setID, setOB, get1D, get2D, keyD, keyR, g_law_called_v10, eq_int, e]; rfl, by rw [fin_id (.inr (by decide))]; exact .ok⟩
      · exact ⟨_, by simp [ev, evA, evO, evC, evI, evF, exS, exB, Ms.seq, Mo.bnd, Mo.ret, Mo.lift, Mo.opd, RV.opd, Mo.set, RV.set, Mo.tst, Mo.imm, Mo.imms, Mo.nox, opds, OB.toD, atD, cmpD, binD, bltD, prepR, preps, storeR, storesR, nxOf, Mo.fl, isNon, tysD, tyD, intD, intsD, seqD, lstD, methD, isMut, mutD, callD, permL, bindT, slcD, startE, ioE, runD, setID, setOB, get1D, get2D, keyD, keyR, g_law_called_v10, eq_int, e]; rfl, by rw [fin_id (.inl sF_ne)]; exact .f⟩
  iterate 2
    · obtain ⟨a, b, c, rfl, ⟨v, e, rfl⟩ | ⟨e, rfl⟩ | ⟨e, rfl⟩⟩ := r_grafted hg F C
      · exact ⟨_, by simp [ev, evA, evO, evC, evI, evF, exS, exB, Ms.seq, Mo.bnd, Mo.ret, Mo.lift, Mo.opd, RV.opd, Mo.set, RV.set, Mo.tst, Mo.imm, Mo.imms, Mo.nox, opds, OB.toD, atD, cmpD, binD, bltD, prepR, preps, storeR, storesR, nxOf, Mo.fl, isNon, tysD, tyD, intD, intsD, seqD, lstD, methD, isMut, mutD, callD, permL, bindT, slcD, startE, ioE, runD, setID, setOB, get1D, get2D, keyD, keyR, g_law_called_v10, eq_int, e]; rfl, by rw [fin_id (.inr (by decide))]; exact .ok⟩
      · exact ⟨_, by simp [ev, evA, evO, evC, evI, evF, exS, exB, Ms.seq, Mo.bnd, Mo.ret, Mo.lift, Mo.opd, RV.opd, Mo.set, RV.set, Mo.tst, Mo.imm, Mo.imms, Mo.nox, opds, OB.toD, atD, cmpD, binD, bltD, prepR, preps, storeR, storesR, nxOf, Mo.fl, isNon, tysD, tyD, intD, intsD, seqD, lstD, methD, isMut, mutD, callD, permL, bindT, slcD, startE, ioE, runD, setID, setOB, get1D, get2D, keyD, keyR, g_law_called_v10, eq_int, e]; rfl, by rw [fin_id (.inl sF_ne)]; exact .f⟩
      · exact ⟨_, by simp [ev, evA, evO, evC, evI, evF, exS, exB, Ms.seq, Mo.bnd, Mo.ret, Mo.lift, Mo.opd, RV.opd, Mo.set, RV.set, Mo.tst, Mo.imm, Mo.imms, Mo.nox, opds, OB.toD, atD, cmpD, binD, bltD, prepR, preps, storeR, storesR, nxOf, Mo.fl, isNon, tysD, tyD, intD, intsD, seqD, lstD, methD, isMut, mutD, callD, permL, bindT, slcD, startE, ioE, runD, setID, setOB, get1D, get2D, keyD, keyR, g_law_called_v10, eq_int, e]; rfl, by rw [fin_id (.inl sT_ne)]; exact .t⟩
  · obtain ⟨a, b, rfl, ⟨v, e, rfl⟩ | ⟨e, rfl⟩ | ⟨e, rfl⟩⟩ := r_part hp F C
    · exact ⟨_, by simp [ev, evA, evO, evC, evI, evF, exS, exB, Ms.seq, Mo.bnd, Mo.ret, Mo.lift, Mo.opd, RV.opd, Mo.set, RV.set, Mo.tst, Mo.imm, Mo.imms, Mo.nox, opds, OB.toD, atD, cmpD, binD, bltD, prepR, preps, storeR, storesR, nxOf, Mo.fl, isNon, tysD, tyD, intD, intsD, seqD, lstD, methD, isMut, mutD, callD, permL, bindT, slcD, startE, ioE, runD, setID, setOB, get1D, get2D, keyD, keyR, g_law_called_v10, eq_int, e]; rfl, by rw [fin_id (.inr (by decide))]; exact .ok⟩
    · exact ⟨_, by simp [ev, evA, evO, evC, evI, evF, exS, exB, Ms.seq, Mo.bnd, Mo.ret, Mo.lift, Mo.opd, RV.opd, Mo.set, RV.set, Mo.tst, Mo.imm, Mo.imms, Mo.nox, opds, OB.toD, atD, cmpD, binD, bltD, prepR, preps, storeR, storesR, nxOf, Mo.fl, isNon, tysD, tyD, intD, intsD, seqD, lstD, methD, isMut, mutD, callD, permL, bindT, slcD, startE, ioE, runD, setID, setOB, get1D, get2D, keyD, keyR, g_law_called_v10, eq_int, e]; rfl, by rw [fin_id (.inl sF_ne)]; exact .f⟩
    · exact ⟨_, by simp [ev, evA, evO, evC, evI, evF, exS, exB, Ms.seq, Mo.bnd, Mo.ret, Mo.lift, Mo.opd, RV.opd, Mo.set, RV.set, Mo.tst, Mo.imm, Mo.imms, Mo.nox, opds, OB.toD, atD, cmpD, binD, bltD, prepR, preps, storeR, storesR, nxOf, Mo.fl, isNon, tysD, tyD, intD, intsD, seqD, lstD, methD, isMut, mutD, callD, permL, bindT, slcD, startE, ioE, runD, setID, setOB, get1D, get2D, keyD, keyR, g_law_called_v10, eq_int, e]; rfl, by rw [fin_id (.inl sT_ne)]; exact .t⟩
  iterate 2
    · obtain ⟨a, b, rfl, ⟨v, e, rfl, n1⟩ | ⟨e, rfl, n1⟩ | ⟨e, rfl⟩ | ⟨e, rfl⟩⟩ := r_without hw F C
      · exact ⟨_, by simp [ev, evA, evO, evC, evI, evF, exS, exB, Ms.seq, Mo.bnd, Mo.ret, Mo.lift, Mo.opd, RV.opd, Mo.set, RV.set, Mo.tst, Mo.imm, Mo.imms, Mo.nox, opds, OB.toD, atD, cmpD, binD, bltD, prepR, preps, storeR, storesR, nxOf, Mo.fl, isNon, tysD, tyD, intD, intsD, seqD, lstD, methD, isMut, mutD, callD, permL, bindT, slcD, startE, ioE, runD, setID, setOB, get1D, get2D, keyD, keyR, g_law_called_v10, eq_int, e]; rfl, by simp [fin47, n1]; exact .ok⟩
      · exact ⟨_, by simp [ev, evA, evO, evC, evI, evF, exS, exB, Ms.seq, Mo.bnd, Mo.ret, Mo.lift, Mo.opd, RV.opd, Mo.set, RV.set, Mo.tst, Mo.imm, Mo.imms, Mo.nox, opds, OB.toD, atD, cmpD, binD, bltD, prepR, preps, storeR, storesR, nxOf, Mo.fl, isNon, tysD, tyD, intD, intsD, seqD, lstD, methD, isMut, mutD, callD, permL, bindT, slcD, startE, ioE, runD, setID, setOB, get1D, get2D, keyD, keyR, g_law_called_v10, eq_int, e]; rfl, by simp [fin47, n1]; exact .o⟩
      · exact ⟨_, by simp [ev, evA, evO, evC, evI, evF, exS, exB, Ms.seq, Mo.bnd, Mo.ret, Mo.lift, Mo.opd, RV.opd, Mo.set, RV.set, Mo.tst, Mo.imm, Mo.imms, Mo.nox, opds, OB.toD, atD, cmpD, binD, bltD, prepR, preps, storeR, storesR, nxOf, Mo.fl, isNon, tysD, tyD, intD, intsD, seqD, lstD, methD, isMut, mutD, callD, permL, bindT, slcD, startE, ioE, runD, setID, setOB, get1D, get2D, keyD, keyR, g_law_called_v10, eq_int, e]; rfl, by rw [fin_id (.inl sF_ne)]; exact .f⟩
      · exact ⟨_, by simp [ev, evA, evO, evC, evI, evF, exS, exB, Ms.seq, Mo.bnd, Mo.ret, Mo.lift, Mo.opd, RV.opd, Mo.set, RV.set, Mo.tst, Mo.imm, Mo.imms, Mo.nox, opds, OB.toD, atD, cmpD, binD, bltD, prepR, preps, storeR, storesR, nxOf, Mo.fl, isNon, tysD, tyD, intD, intsD, seqD, lstD, methD, isMut, mutD, callD, permL, bindT, slcD, startE, ioE, runD, setID, setOB, get1D, get2D, keyD, keyR, g_law_called_v10, eq_int, e]; rfl, by rw [fin_id (.inl sT_ne)]; exact .t⟩
  iterate 2
    · obtain ⟨a, b, c, rfl, ⟨v, e, rfl, n1⟩ | ⟨e, rfl, n1⟩ | ⟨e, rfl, n1⟩ | ⟨e, rfl⟩ | ⟨e, rfl⟩⟩ := r_told ht F C
      · exact ⟨_, by simp [ev, evA, evO, evC, evI, evF, exS, exB, Ms.seq, Mo.bnd, Mo.ret, Mo.lift, Mo.opd, RV.opd, Mo.set, RV.set, Mo.tst, Mo.imm, Mo.imms, Mo.nox, opds, OB.toD, atD, cmpD, binD, bltD, prepR, preps, storeR, storesR, nxOf, Mo.fl, isNon, tysD, tyD, intD, intsD, seqD, lstD, methD, isMut, mutD, callD, permL, bindT, slcD, startE, ioE, runD, setID, setOB, get1D, get2D, keyD, keyR, g_law_called_v10, eq_int, e]; rfl, by simp [fin47, n1]; exact .ok⟩
      · exact ⟨_, by simp [ev, evA, evO, evC, evI, evF, exS, exB, Ms.seq, Mo.bnd, Mo.ret, Mo.lift, Mo.opd, RV.opd, Mo.set, RV.set, Mo.tst, Mo.imm, Mo.imms, Mo.nox, opds, OB.toD, atD, cmpD, binD, bltD, prepR, preps, storeR, storesR, nxOf, Mo.fl, isNon, tysD, tyD, intD, intsD, seqD, lstD, methD, isMut, mutD, callD, permL, bindT, slcD, startE, ioE, runD, setID, setOB, get1D, get2D, keyD, keyR, g_law_called_v10, eq_int, e]; rfl, by simp [fin47, n1]; exact .no⟩
      · exact ⟨_, by simp [ev, evA, evO, evC, evI, evF, exS, exB, Ms.seq, Mo.bnd, Mo.ret, Mo.lift, Mo.opd, RV.opd, Mo.set, RV.set, Mo.tst, Mo.imm, Mo.imms, Mo.nox, opds, OB.toD, atD, cmpD, binD, bltD, prepR, preps, storeR, storesR, nxOf, Mo.fl, isNon, tysD, tyD, intD, intsD, seqD, lstD, methD, isMut, mutD, callD, permL, bindT, slcD, startE, ioE, runD, setID, setOB, get1D, get2D, keyD, keyR, g_law_called_v10, eq_int, e]; rfl, by simp [fin47, n1]; exact .s⟩
      · exact ⟨_, by simp [ev, evA, evO, evC, evI, evF, exS, exB, Ms.seq, Mo.bnd, Mo.ret, Mo.lift, Mo.opd, RV.opd, Mo.set, RV.set, Mo.tst, Mo.imm, Mo.imms, Mo.nox, opds, OB.toD, atD, cmpD, binD, bltD, prepR, preps, storeR, storesR, nxOf, Mo.fl, isNon, tysD, tyD, intD, intsD, seqD, lstD, methD, isMut, mutD, callD, permL, bindT, slcD, startE, ioE, runD, setID, setOB, get1D, get2D, keyD, keyR, g_law_called_v10, eq_int, e]; rfl, by rw [fin_id (.inl sF_ne)]; exact .f⟩
      · exact ⟨_, by simp [ev, evA, evO, evC, evI, evF, exS, exB, Ms.seq, Mo.bnd, Mo.ret, Mo.lift, Mo.opd, RV.opd, Mo.set, RV.set, Mo.tst, Mo.imm, Mo.imms, Mo.nox, opds, OB.toD, atD, cmpD, binD, bltD, prepR, preps, storeR, storesR, nxOf, Mo.fl, isNon, tysD, tyD, intD, intsD, seqD, lstD, methD, isMut, mutD, callD, permL, bindT, slcD, startE, ioE, runD, setID, setOB, get1D, get2D, keyD, keyR, g_law_called_v10, eq_int, e]; rfl, by rw [fin_id (.inl sT_ne)]; exact .t⟩
/-! the call, and what is caught -/
def mk5 (a b c d e : Bool) : D := .lst [.bl a, .bl b, .bl c, .bl d, .bl e]
theorem caught {w : D} {r : List D} {t s : PySem.Str} {O : FOut} (h : Φ 431 none [w, .lst r] = some O) (hs : OS O s) (hr : reprD (.lst r) = some t) : runD Φ wn g_law_caught_v2 none [w, .lst r] = some (.ok (.val (.str s)) none) := by
  have e1 : eqD (.str t) (.str t) = some true := by simp [eqD]
  have c1 : mthD .count (.lst [.bl true, .bl false, .bl false, .bl false, .bl false]) [.bl true] = some (.int 1) := rfl
  have c2 : mthD .count (.lst [.bl false, .bl true, .bl false, .bl false, .bl false]) [.bl true] = some (.int 1) := rfl
  have c3 : mthD .count (.lst [.bl false, .bl false, .bl true, .bl false, .bl false]) [.bl true] = some (.int 1) := rfl
  have c4 : mthD .count (.lst [.bl false, .bl false, .bl false, .bl true, .bl false]) [.bl true] = some (.int 1) := rfl
  have c5 : mthD .count (.lst [.bl false, .bl false, .bl false, .bl false, .bl true]) [.bl true] = some (.int 1) := rfl
  have i1 : mthD .index (.lst [.bl true, .bl false, .bl false, .bl false, .bl false]) [.bl true] = some (.int 0) := rfl
  have i2 : mthD .index (.lst [.bl false, .bl true, .bl false, .bl false, .bl false]) [.bl true] = some (.int 1) := rfl
  have i3 : mthD .index (.lst [.bl false, .bl false, .bl true, .bl false, .bl false]) [.bl true] = some (.int 2) := rfl
  have i4 : mthD .index (.lst [.bl false, .bl false, .bl false, .bl true, .bl false]) [.bl true] = some (.int 3) := rfl
  have i5 : mthD .index (.lst [.bl false, .bl false, .bl false, .bl false, .bl true]) [.bl true] = some (.int 4) := rfl
  have a3 : ∀ (x y z : D) (l : List D), L2.atI (x :: y :: z :: l) 2 = some z := fun x y z l => atI_2
  have a4 : ∀ (x y z u : D) (l : List D), L2.atI (x :: y :: z :: u :: l) 3 = some u := fun x y z u l => atI_nat (i := 3)
  have a5 : ∀ (x y z u v : D) (l : List D), L2.atI (x :: y :: z :: u :: v :: l) 4 = some v := fun x y z u v l => atI_nat (i := 4)
  cases hs with
  | ok => simp [ev, evA, evO, evC, evI, evF, exS, exB, Ms.seq, Mo.bnd, Mo.ret, Mo.lift, Mo.opd, RV.opd, Mo.set, RV.set, Mo.tst, Mo.imm, Mo.imms, Mo.nox, opds, OB.toD, atD, cmpD, binD, bltD, prepR, preps, storeR, storesR, nxOf, Mo.fl, isNon, tysD, tyD, intD, intsD, seqD, lstD, methD, isMut, mutD, callD, permL, bindT, slcD, startE, ioE, runD, setID, setOB, get1D, get2D, keyD, keyR, g_law_caught_v2, h, hr, e1, sN]
  | no => simp [ev, evA, evO, evC, evI, evF, exS, exB, Ms.seq, Mo.bnd, Mo.ret, Mo.lift, Mo.opd, RV.opd, Mo.set, RV.set, Mo.tst, Mo.imm, Mo.imms, Mo.nox, opds, OB.toD, atD, cmpD, binD, bltD, prepR, preps, storeR, storesR, nxOf, Mo.fl, isNon, tysD, tyD, intD, intsD, seqD, lstD, methD, isMut, mutD, callD, permL, bindT, slcD, startE, ioE, runD, setID, setOB, get1D, get2D, keyD, keyR, g_law_caught_v2, h, hr, sN, Ms.noex, Ms.fin, unown, c3, i3, eq_int, LIM, a3]
  | f => simp [ev, evA, evO, evC, evI, evF, exS, exB, Ms.seq, Mo.bnd, Mo.ret, Mo.lift, Mo.opd, RV.opd, Mo.set, RV.set, Mo.tst, Mo.imm, Mo.imms, Mo.nox, opds, OB.toD, atD, cmpD, binD, bltD, prepR, preps, storeR, storesR, nxOf, Mo.fl, isNon, tysD, tyD, intD, intsD, seqD, lstD, methD, isMut, mutD, callD, permL, bindT, slcD, startE, ioE, runD, setID, setOB, get1D, get2D, keyD, keyR, g_law_caught_v2, h, hr, sF, Ms.noex, Ms.fin, unown, c1, i1, eq_int, LIM]
  | t => simp [ev, evA, evO, evC, evI, evF, exS, exB, Ms.seq, Mo.bnd, Mo.ret, Mo.lift, Mo.opd, RV.opd, Mo.set, RV.set, Mo.tst, Mo.imm, Mo.imms, Mo.nox, opds, OB.toD, atD, cmpD, binD, bltD, prepR, preps, storeR, storesR, nxOf, Mo.fl, isNon, tysD, tyD, intD, intsD, seqD, lstD, methD, isMut, mutD, callD, permL, bindT, slcD, startE, ioE, runD, setID, setOB, get1D, get2D, keyD, keyR, g_law_caught_v2, h, hr, sT, Ms.noex, Ms.fin, unown, c2, i2, eq_int, LIM]
  | o => simp [ev, evA, evO, evC, evI, evF, exS, exB, Ms.seq, Mo.bnd, Mo.ret, Mo.lift, Mo.opd, RV.opd, Mo.set, RV.set, Mo.tst, Mo.imm, Mo.imms, Mo.nox, opds, OB.toD, atD, cmpD, binD, bltD, prepR, preps, storeR, storesR, nxOf, Mo.fl, isNon, tysD, tyD, intD, intsD, seqD, lstD, methD, isMut, mutD, callD, permL, bindT, slcD, startE, ioE, runD, setID, setOB, get1D, get2D, keyD, keyR, g_law_caught_v2, h, hr, sO, Ms.noex, Ms.fin, unown, c4, i4, eq_int, LIM, a4]
  | s => simp [ev, evA, evO, evC, evI, evF, exS, exB, Ms.seq, Mo.bnd, Mo.ret, Mo.lift, Mo.opd, RV.opd, Mo.set, RV.set, Mo.tst, Mo.imm, Mo.imms, Mo.nox, opds, OB.toD, atD, cmpD, binD, bltD, prepR, preps, storeR, storesR, nxOf, Mo.fl, isNon, tysD, tyD, intD, intsD, seqD, lstD, methD, isMut, mutD, callD, permL, bindT, slcD, startE, ioE, runD, setID, setOB, get1D, get2D, keyD, keyR, g_law_caught_v2, h, hr, sS, Ms.noex, Ms.fin, unown, c5, i5, eq_int, LIM, a5]
def Sp_caught47 (φ : FO) : Prop := ∀ ds (w : Nat) r s, w < 9 → Fst ds → Chain ds (Kw w) 0 r s → r.length ≤ 3 → (∀ d ∈ r, Sh d) → φ none [.int (w : Int), .lst r] = some (.ok (.val (.str (fin47 ds w r s))) none)
theorem ok_caught47 (h : Sp_called47 (Φ 431)) : Sp_caught47 (runD Φ wn g_law_caught_v2) := fun ds w r s hw F C hl hs => by
  obtain ⟨O, h1, h2⟩ := h ds w r s hw F C
  obtain ⟨t, ht⟩ := (shown_lst (n := 3) hs hl).repr (by decide) (by decide)
  exact caught h1 h2 ht
end
/-! the row of arguments is drawn -/
section
variable {Φ : Fn} {wn : Nat} {env env1 env2 : Evn} {N C C' Bk : Evn → Prop} {R : RV → Evn → Prop}
theorem asgN2_vf {w : Nat} {io : Bool} {i j : Nat} {a b : IE} {d1 : D} {o2 : OB} (h1 : ev Φ a env = some (.ok (.val d1) env1)) (h2 : ev Φ b env1 = some (.ok (.fr o2) env2)) (hi : (i == 0 && io) = false ∧ i < env2.length) (hj : (j == 0 && io) = false ∧ j < env2.length)
    (k : N ((env2.set i (.im d1)).set j (.im o2.toD))) : GoX N C Bk R (exS Φ w io (.asgN [i, j] [false, false] (.cons a (.cons b .nil))) env) := by
  rw [exS]
  refine fl_go (a := [.val d1, .val o2.toD]) (e := env2) (by simp [evF, Mo.bnd, Mo.nox, h1, h2, Mo.ret, preps, prepR, RV.set, Mo.imm]) ?_
  have e : storesR io [i, j] [.val d1, .val o2.toD] env2 = some ((env2.set i (.im d1)).set j (.im o2.toD)) := by
    simp [storesR, storeR, hi.1, hi.2, hj.1, hj.2]
  show GoX N C Bk R (nxOf (storesR io [i, j] [.val d1, .val o2.toD] env2))
  rw [e]
  exact k
theorem asgN2_ov {w : Nat} {io : Bool} {i j : Nat} {a b : IE} {o1 : OB} {d2 : D} (h1 : ev Φ a env = some (.ok (.fr o1) env1)) (h2 : ev Φ b env1 = some (.ok (.val d2) env2)) (hi : (i == 0 && io) = false ∧ i < env2.length) (hj : (j == 0 && io) = false ∧ j < env2.length)
    (k : N ((env2.set i (.ow o1)).set j (.im d2))) : GoX N C Bk R (exS Φ w io (.asgN [i, j] [true, false] (.cons a (.cons b .nil))) env) := by
  rw [exS]
  refine fl_go (a := [.fr o1, .val d2]) (e := env2) (by simp [evF, Mo.bnd, Mo.nox, h1, h2, Mo.ret, preps, prepR, RV.set, Mo.imm]) ?_
  have e : storesR io [i, j] [.fr o1, .val d2] env2 = some ((env2.set i (.ow o1)).set j (.im d2)) := by
    simp [storesR, storeR, hi.1, hi.2, hj.1, hj.2]
  show GoX N C Bk R (nxOf (storesR io [i, j] [.fr o1, .val d2] env2))
  rw [e]
  exact k
theorem big_m {m : Int} (h : m ≤ 1000) : m < 2 ^ 1000 := by
  have : (1000 : Int) < 2 ^ 1000 := by decide +kernel
  omega
def Sp_broken (φ : FO) : Prop := ∀ (n : Nat) (o : OB) ds, Well n o → n ≤ 900000 → Fst ds → ds.length ≤ 60 → ∃ d o', φ (some o) [.tup ds] = some (.ok (.val d) (some o')) ∧ (Ask d ∧ isForest d = false) ∧ Sh d ∧ Well (n + 1) o'
theorem ok_broken (h : DrawOk (Φ 4)) : Sp_broken (runD Φ wn g_law_broken) := fun n o ds hw hn F hl => by
  obtain ⟨z, o', e, z0, z1, w1⟩ := h n o 19 hw (by omega) (by decide) (big_m (by decide))
  obtain ⟨d, hd, md⟩ := at_some (ds := brkL ds) z0 (by simpa [brkL] using z1)
  obtain ⟨k1, k2⟩ := brk_not F hl md
  refine ⟨d, o', ?_, k1, k2, w1⟩
  have c2 : cutD ds (some 2) none = ds.drop 2 := by
    unfold cutD
    have e2 : (2 : Int) = ((2 : Nat) : Int) := rfl
    rw [HT.sIx_none, e2, HT.sIx_nat]
    by_cases hm : 2 ≤ ds.length
    · rw [Nat.min_eq_left hm]
      exact List.take_of_length_le (by rw [List.length_drop]; omega)
    · rw [Nat.min_eq_right (by omega), List.drop_length, List.drop_eq_nil_of_le (by omega)]
      simp
  have l1 : ds.length + 1 ≤ 100000 := by omega
  have l2 : (ds.drop 2).length + 2 ≤ 100000 := by rw [List.length_drop]; omega
  have l3 : 2 + (ds.drop 2).length ≤ 100000 := by rw [List.length_drop]; omega
  have l4 : 2 + (ds.length - 2) ≤ 100000 := by omega
  have hd2 := hd
  simp only [brkL] at hd2
  simp [ev, evA, evO, evC, evI, evF, exS, exB, Ms.seq, Mo.bnd, Mo.ret, Mo.lift, Mo.opd, RV.opd, Mo.set, RV.set, Mo.tst, Mo.imm, Mo.imms, Mo.nox, opds, OB.toD, atD, cmpD, binD, bltD, prepR, preps, storeR, storesR, nxOf, Mo.fl, isNon, tysD, tyD, intD, intsD, seqD, lstD, methD, isMut, mutD, callD, permL, bindT, slcD, startE, ioE, runD, setID, setOB, get1D, get2D, keyD, keyR, g_law_broken, LIM, l1, l2, l3, l4, c2, e, hd2]
def Sp_odd (φ : FO) : Prop := ∀ (n : Nat) (o : OB) (S : Nat), Well n o → n ≤ 900000 → S ≤ 60 → ∃ d o', φ (some o) [.int (S : Int)] = some (.ok (.val d) (some o')) ∧ (noFrz d = true ∧ isI d 0 ((S : Int) - 1) = false) ∧ Sh d ∧ Well (n + 1) o'
theorem ok_odd (h : DrawOk (Φ 4)) : Sp_odd (runD Φ wn g_law_odd) := fun n o S hw hn hl => by
  obtain ⟨z, o', e, z0, z1, w1⟩ := h n o 12 hw (by omega) (by decide) (big_m (by decide))
  obtain ⟨d, hd, md⟩ := at_some (ds := oddL S) z0 (by simpa [oddL] using z1)
  obtain ⟨k1, k2⟩ := odd_not hl md
  refine ⟨d, o', ?_, k1, k2, w1⟩
  have pw : (Builtin.Int.intBits 10 : Int) * 39 ≤ 134217728 := by decide +kernel
  have hd2 := hd
  simp [oddL] at hd2
  simp [ev, evA, evO, evC, evI, evF, exS, exB, Ms.seq, Mo.bnd, Mo.ret, Mo.lift, Mo.opd, RV.opd, Mo.set, RV.set, Mo.tst, Mo.imm, Mo.imms, Mo.nox, opds, OB.toD, atD, cmpD, binD, bltD, prepR, preps, storeR, storesR, nxOf, Mo.fl, isNon, tysD, tyD, intD, intsD, seqD, lstD, methD, isMut, mutD, callD, permL, bindT, slcD, startE, ioE, runD, setID, setOB, get1D, get2D, keyD, keyR, g_law_odd, LIM, pw, e, hd2]
def kindD (w : Nat) : List D := (Kw w).map fun b => D.str (sK b)
theorem eq_F (b : Bool) : eqD (.str (sK b)) (.str ("forest" : PySem.Str)) = some b := by cases b <;> decide +kernel
theorem eq_N (s : PySem.Str) : eqD (.str s) (.str ("none" : PySem.Str)) = some (s == sN) := rfl
structure E47 (Φ : Fn) : Prop where
  drw : DrawOk (Φ 4)
  pln : Sp_forest (Φ 5)
  brk : Sp_broken (Φ 280)
  odd : Sp_odd (Φ 430)
  cgt : Sp_caught47 (Φ 432)
theorem Kw_len (w : Nat) : (Kw w).length ≤ 3 ∧ 2 ≤ (Kw w).length := by
  unfold Kw
  split <;> decide
theorem step47 (E : E47 Φ) {n w k X : Nat} {o : OB} {ds W r : List D} {b bad : Bool} {due : PySem.Str} {s6 s10 : Sl} (hw : Well n o) (hn : n ≤ 400000) (F : Fst ds) (hl : ds.length ≤ 60) (hX : X < ds.length) (hb : (Kw w)[k]? = some b) (hW : W[k]? = some (.bl bad)) (hr : r.length = k) (hC : Chain ds ((Kw w).take k) 0 r due) (hs : ∀ d ∈ r, Sh d)
    (q : ∀ o' r due d, Well (n + 1000) o' → Chain ds ((Kw w).take (k + 1)) 0 r due → r.length = k + 1 → (∀ d ∈ r, Sh d) → N [.ow o', .im (.int (w : Int)), .im (.tup ds), .im (.int (X : Int)), .im (.lst W), .im (.int (k : Int)), s6, .im (.lst (kindD w)), .ow (.lst r), .im (.str due), .im d]) :
    GoX N C Bk R (exB Φ wn true g_law_right_v17_b1 [.ow o, .im (.int (w : Int)), .im (.tup ds), .im (.int (X : Int)), .im (.lst W), .im (.int (k : Int)), s6, .im (.lst (kindD w)), .ow (.lst r), .im (.str due), s10]) := by
  have hk : k < (Kw w).length := lt_of_get hb
  have K3 := (Kw_len w).1
  have hkd : L2.atI (kindD w) (k : Int) = some (.str (sK b)) := by
    rw [atI_nat]
    unfold kindD
    rw [List.getElem?_map, hb]
    rfl
  have hWk : L2.atI W (k : Int) = some (.bl bad) := by rw [atI_nat, hW]
  have lk : (kindD w).length = (Kw w).length := by simp [kindD]
  have pos : 0 < ds.length := by omega
  have eF := eq_F b
  have fs : ∀ d ∈ ds, Small d := fine_small F.fine hl
  have shp : Sh (.tup ds) := sh_tup fs (by omega)
  have tk : (Kw w).take (k + 1) = (Kw w).take k ++ [b] := by
    rw [List.take_succ, hb]; rfl
  have tl : ((Kw w).take k).length = k := by rw [List.length_take]; omega
  -- the end: what is good or bad is put behind the others
  have last : ∀ (o' : OB) (n' : Nat) (d : D) (due' : PySem.Str), Well n' o' → n' ≤ n + 1000 → Sh d → Chain ds ((Kw w).take (k + 1)) 0 (r ++ [d]) due' →
      GoX N C Bk R (exB Φ wn true [.expr (.meth .append (.var 8) (.cons (.var 10) .nil))] [.ow o', .im (.int (w : Int)), .im (.tup ds), .im (.int (X : Int)), .im (.lst W), .im (.int (k : Int)), s6, .im (.lst (kindD w)), .ow (.lst r), .im (.str due'), .im d]) := by
    intro o' n' d due' hw' hn' hd hC'
    have lr : r.length < LIM := by unfold LIM; omega
    generalize kindD w = KD at *
    refine ex_cons (expr_go (r := .val .non) (env1 := [.ow o', .im (.int (w : Int)), .im (.tup ds), .im (.int (X : Int)), .im (.lst W), .im (.int (k : Int)), s6, .im (.lst KD), .ow (.lst (r ++ [d])), .im (.str due'), .im d]) (by simp [ev, evA, evO, evC, evI, evF, exS, exB, Ms.seq, Mo.bnd, Mo.ret, Mo.lift, Mo.opd, RV.opd, Mo.set, RV.set, Mo.tst, Mo.imm, Mo.imms, Mo.nox, opds, OB.toD, atD, cmpD, binD, bltD, prepR, preps, storeR, storesR, nxOf, Mo.fl, isNon, tysD, tyD, intD, intsD, seqD, lstD, methD, isMut, mutD, callD, permL, bindT, slcD, startE, ioE, runD, setID, setOB, get1D, get2D, keyD, keyR, lr]) ?_)
    refine ex_nil (q o' (r ++ [d]) due' d (hw'.mono hn') hC' (by simp [hr]) fun e he => ?_)
    rcases List.mem_append.mp he with he | he
    · exact hs e he
    · simp only [List.mem_cons, List.not_mem_nil, or_false] at he
      subst he; exact hd
  -- then: it is kept, or one that is none comes instead
  have mid : ∀ (o' : OB) (n' : Nat) (d : D), Well n' o' → n' ≤ n + 900 → Sh d → Good ds b k d →
      GoX N C Bk R (exB Φ wn true (g_law_right_v17_b1.drop 2) [.ow o', .im (.int (w : Int)), .im (.tup ds), .im (.int (X : Int)), .im (.lst W), .im (.int (k : Int)), s6, .im (.lst (kindD w)), .ow (.lst r), .im (.str due), .im d]) := by
    intro o' n' d hw' hn' hd hg
    show GoX N C Bk R (exB Φ wn true (_ :: _) _)
    cases bad with
    | false =>
      refine ex_cons (if_go (b := false) (env1 := [.ow o', .im (.int (w : Int)), .im (.tup ds), .im (.int (X : Int)), .im (.lst W), .im (.int (k : Int)), s6, .im (.lst (kindD w)), .ow (.lst r), .im (.str due), .im d]) (by simp [ev, evA, evO, evC, evI, evF, exS, exB, Ms.seq, Mo.bnd, Mo.ret, Mo.lift, Mo.opd, RV.opd, Mo.set, RV.set, Mo.tst, Mo.imm, Mo.imms, Mo.nox, opds, OB.toD, atD, cmpD, binD, bltD, prepR, preps, storeR, storesR, nxOf, Mo.fl, isNon, tysD, tyD, intD, intsD, seqD, lstD, methD, isMut, mutD, callD, permL, bindT, slcD, startE, ioE, runD, setID, setOB, get1D, get2D, keyD, keyR, hWk]) ?_)
      rw [if_neg Bool.false_ne_true]
      refine ex_nil (last o' n' d due hw' (by omega) hd ?_)
      rw [tk]
      exact chain_good hC (by rw [tl, Nat.zero_add]; exact hg)
    | true =>
      refine ex_cons (if_go (b := true) (env1 := [.ow o', .im (.int (w : Int)), .im (.tup ds), .im (.int (X : Int)), .im (.lst W), .im (.int (k : Int)), s6, .im (.lst (kindD w)), .ow (.lst r), .im (.str due), .im d]) (by simp [ev, evA, evO, evC, evI, evF, exS, exB, Ms.seq, Mo.bnd, Mo.ret, Mo.lift, Mo.opd, RV.opd, Mo.set, RV.set, Mo.tst, Mo.imm, Mo.imms, Mo.nox, opds, OB.toD, atD, cmpD, binD, bltD, prepR, preps, storeR, storesR, nxOf, Mo.fl, isNon, tysD, tyD, intD, intsD, seqD, lstD, methD, isMut, mutD, callD, permL, bindT, slcD, startE, ioE, runD, setID, setOB, get1D, get2D, keyD, keyR, hWk]) ?_)
      rw [if_pos rfl]
      obtain ⟨d2, o2, e2, hB, hS, w2⟩ : ∃ d2 o2, ev Φ (.ite (.cmp .eq (.idx (.var 7) (.var 5)) (.cst (.str ("forest" : PySem.Str)))) (.call 280 true (.cons (.var 0) (.cons (.var 2) .nil))) (.call 430 true (.cons (.var 0) (.cons (.blt .len (.cons (.var 2) .nil)) .nil)))) [.ow o', .im (.int (w : Int)), .im (.tup ds), .im (.int (X : Int)), .im (.lst W), .im (.int (k : Int)), s6, .im (.lst (kindD w)), .ow (.lst r), .im (.str due), .im d] = some (.ok (.val d2) [.ow o2, .im (.int (w : Int)), .im (.tup ds), .im (.int (X : Int)), .im (.lst W), .im (.int (k : Int)), s6, .im (.lst (kindD w)), .ow (.lst r), .im (.str due), .im d]) ∧ Bad ds b d2 ∧ Sh d2 ∧ Well (n' + 1) o2 := by
        cases b with
        | true =>
          obtain ⟨d2, o2, e2, h1, h2, h3⟩ := E.brk n' o' ds hw' (by omega) F hl
          exact ⟨d2, o2, by simp [ev, evA, evO, evC, evI, evF, exS, exB, Ms.seq, Mo.bnd, Mo.ret, Mo.lift, Mo.opd, RV.opd, Mo.set, RV.set, Mo.tst, Mo.imm, Mo.imms, Mo.nox, opds, OB.toD, atD, cmpD, binD, bltD, prepR, preps, storeR, storesR, nxOf, Mo.fl, isNon, tysD, tyD, intD, intsD, seqD, lstD, methD, isMut, mutD, callD, permL, bindT, slcD, startE, ioE, runD, setID, setOB, get1D, get2D, keyD, keyR, hkd, eF, e2], by simpa [Bad] using h1, h2, h3⟩
        | false =>
          obtain ⟨d2, o2, e2, h1, h2, h3⟩ := E.odd n' o' ds.length hw' (by omega) hl
          exact ⟨d2, o2, by simp [ev, evA, evO, evC, evI, evF, exS, exB, Ms.seq, Mo.bnd, Mo.ret, Mo.lift, Mo.opd, RV.opd, Mo.set, RV.set, Mo.tst, Mo.imm, Mo.imms, Mo.nox, opds, OB.toD, atD, cmpD, binD, bltD, prepR, preps, storeR, storesR, nxOf, Mo.fl, isNon, tysD, tyD, intD, intsD, seqD, lstD, methD, isMut, mutD, callD, permL, bindT, slcD, startE, ioE, runD, setID, setOB, get1D, get2D, keyD, keyR, hkd, eF, e2], by simpa [Bad] using h1, h2, h3⟩
      refine ex_cons (asg_val e2 ⟨rfl, by simp⟩ ?_)
      have eN := eq_N due
      refine ex_cons (asg_val (d := .str (if due = sN then sK b else due)) (env1 := [.ow o2, .im (.int (w : Int)), .im (.tup ds), .im (.int (X : Int)), .im (.lst W), .im (.int (k : Int)), s6, .im (.lst (kindD w)), .ow (.lst r), .im (.str due), .im d2]) ?_ ⟨rfl, by simp⟩ ?_)
      · by_cases e : due = sN
        · have e' : (due == sN) = true := by simp [e]
          rw [e'] at eN
          rw [if_pos e]
          simp [ev, evA, evO, evC, evI, evF, exS, exB, Ms.seq, Mo.bnd, Mo.ret, Mo.lift, Mo.opd, RV.opd, Mo.set, RV.set, Mo.tst, Mo.imm, Mo.imms, Mo.nox, opds, OB.toD, atD, cmpD, binD, bltD, prepR, preps, storeR, storesR, nxOf, Mo.fl, isNon, tysD, tyD, intD, intsD, seqD, lstD, methD, isMut, mutD, callD, permL, bindT, slcD, startE, ioE, runD, setID, setOB, get1D, get2D, keyD, keyR, eN, hkd]
        · have e' : (due == sN) = false := by simp [e]
          rw [e'] at eN
          rw [if_neg e]
          simp [ev, evA, evO, evC, evI, evF, exS, exB, Ms.seq, Mo.bnd, Mo.ret, Mo.lift, Mo.opd, RV.opd, Mo.set, RV.set, Mo.tst, Mo.imm, Mo.imms, Mo.nox, opds, OB.toD, atD, cmpD, binD, bltD, prepR, preps, storeR, storesR, nxOf, Mo.fl, isNon, tysD, tyD, intD, intsD, seqD, lstD, methD, isMut, mutD, callD, permL, bindT, slcD, startE, ioE, runD, setID, setOB, get1D, get2D, keyD, keyR, eN]
      · refine ex_nil (last o2 (n' + 1) d2 _ w2 (by omega) hS ?_)
        rw [tk]
        exact chain_bad hC hB
  -- first
  unfold g_law_right_v17_b1
  refine ex_cons (asg_val (d := if b = true then .tup ds else .int (X : Int)) (env1 := [.ow o, .im (.int (w : Int)), .im (.tup ds), .im (.int (X : Int)), .im (.lst W), .im (.int (k : Int)), s6, .im (.lst (kindD w)), .ow (.lst r), .im (.str due), s10]) (by cases b <;> simp [ev, evA, evO, evC, evI, evF, exS, exB, Ms.seq, Mo.bnd, Mo.ret, Mo.lift, Mo.opd, RV.opd, Mo.set, RV.set, Mo.tst, Mo.imm, Mo.imms, Mo.nox, opds, OB.toD, atD, cmpD, binD, bltD, prepR, preps, storeR, storesR, nxOf, Mo.fl, isNon, tysD, tyD, intD, intsD, seqD, lstD, methD, isMut, mutD, callD, permL, bindT, slcD, startE, ioE, runD, setID, setOB, get1D, get2D, keyD, keyR, hkd, eF, LIM]) ⟨rfl, by simp⟩ ?_)
  by_cases lt : k + 1 = (Kw w).length ∧ 0 < k
  · have t1 : (k : Int) = ((Kw w).length : Int) - 1 := by omega
    have t2 : (0 : Int) < (k : Int) := by omega
    refine ex_cons (if_go (b := true) (env1 := [.ow o, .im (.int (w : Int)), .im (.tup ds), .im (.int (X : Int)), .im (.lst W), .im (.int (k : Int)), s6, .im (.lst (kindD w)), .ow (.lst r), .im (.str due), .im (if b = true then .tup ds else .int (X : Int))]) (by
      have e5 : eqD (.int (k : Int)) (.int (((Kw w).length : Int) - 1)) = some true := by rw [eq_int]; simp [t1]
      simp [ev, evA, evO, evC, evI, evF, exS, exB, Ms.seq, Mo.bnd, Mo.ret, Mo.lift, Mo.opd, RV.opd, Mo.set, RV.set, Mo.tst, Mo.imm, Mo.imms, Mo.nox, opds, OB.toD, atD, cmpD, binD, bltD, prepR, preps, storeR, storesR, nxOf, Mo.fl, isNon, tysD, tyD, intD, intsD, seqD, lstD, methD, isMut, mutD, callD, permL, bindT, slcD, startE, ioE, runD, setID, setOB, get1D, get2D, keyD, keyR, e5, lk, lt.2]) ?_)
    rw [if_pos rfl]
    obtain ⟨y, o2, e2, y0, y1, w2⟩ := E.drw n o (ds.length : Int) hw (by omega) (by omega) (big_m (by omega))
    obtain ⟨es, o3, e3, f3, n3, l3, i3, w3⟩ := E.pln (n + 1) o2 9 w2 (by omega) (by decide)
    have F3 : Fst es := Fst.of f3 (by omega) i3
    obtain ⟨Y, rfl⟩ := Int.eq_ofNat_of_zero_le y0
    refine ex_cons (asg_val (d := if b = true then .tup es else .int (Y : Int)) (env1 := [.ow o3, .im (.int (w : Int)), .im (.tup ds), .im (.int (X : Int)), .im (.lst W), .im (.int (k : Int)), s6, .im (.lst (kindD w)), .ow (.lst r), .im (.str due), .im (if b = true then .tup ds else .int (X : Int))]) (by cases b <;> simp [ev, evA, evO, evC, evI, evF, exS, exB, Ms.seq, Mo.bnd, Mo.ret, Mo.lift, Mo.opd, RV.opd, Mo.set, RV.set, Mo.tst, Mo.imm, Mo.imms, Mo.nox, opds, OB.toD, atD, cmpD, binD, bltD, prepR, preps, storeR, storesR, nxOf, Mo.fl, isNon, tysD, tyD, intD, intsD, seqD, lstD, methD, isMut, mutD, callD, permL, bindT, slcD, startE, ioE, runD, setID, setOB, get1D, get2D, keyD, keyR, hkd, eF, e2, e3, LIM]) ⟨rfl, by simp⟩ ?_)
    refine ex_nil (mid o3 _ _ w3 (by omega) ?_ ?_)
    · cases b with
      | true => exact sh_tup (fine_small f3 l3) (by omega)
      | false => exact sh_small (sm_i (by omega))
    · cases b with
      | true => simpa [Good, Nat.ne_of_gt lt.2] using ⟨F3, l3⟩
      | false =>
        show Good ds false k (D.int (Y : Int))
        unfold Good
        rw [if_neg Bool.false_ne_true]
        exact ⟨Y, rfl, by omega⟩
  · refine ex_cons (if_go (b := false) (env1 := [.ow o, .im (.int (w : Int)), .im (.tup ds), .im (.int (X : Int)), .im (.lst W), .im (.int (k : Int)), s6, .im (.lst (kindD w)), .ow (.lst r), .im (.str due), .im (if b = true then .tup ds else .int (X : Int))]) ?_ ?_)
    · by_cases z : k + 1 = (Kw w).length
      · have k0 : k = 0 := by omega
        subst k0
        have := (Kw_len w).2
        omega
      · have t1 : ¬ ((k : Int) = ((Kw w).length : Int) - 1) := by omega
        simp [ev, evA, evO, evC, evI, evF, exS, exB, Ms.seq, Mo.bnd, Mo.ret, Mo.lift, Mo.opd, RV.opd, Mo.set, RV.set, Mo.tst, Mo.imm, Mo.imms, Mo.nox, opds, OB.toD, atD, cmpD, binD, bltD, prepR, preps, storeR, storesR, nxOf, Mo.fl, isNon, tysD, tyD, intD, intsD, seqD, lstD, methD, isMut, mutD, callD, permL, bindT, slcD, startE, ioE, runD, setID, setOB, get1D, get2D, keyD, keyR, eq_int, lk, t1]
    · rw [if_neg Bool.false_ne_true]
      refine ex_nil (mid o n _ hw (by omega) ?_ ?_)
      · cases b with
        | true => exact shp
        | false => exact sh_small (sm_i (by omega))
      · cases b with
        | true =>
          by_cases k0 : k = 0
          · simp [Good, k0]
          · simpa [Good, k0] using ⟨F, hl⟩
        | false =>
          show Good ds false k (D.int (X : Int))
          unfold Good
          rw [if_neg Bool.false_ne_true]
          exact ⟨X, rfl, hX⟩
/-! the whole of one call -/
theorem flags_ok (E : E47 Φ) {n : Nat} {o : OB} (hw : Well n o) (hn : n ≤ 400000) {s1 s2 s3 s4 s5 s6 s7 s8 s9 s10 : Sl} :
    ∃ a b c o', ev Φ g_law_right_v17_c1 [.ow o, s1, s2, s3, s4, s5, s6, s7, s8, s9, s10] = some (.ok (.fr (.lst [.bl a, .bl b, .bl c])) [.ow o', s1, s2, s3, s4, s5, s6, s7, s8, s9, s10]) ∧ Well (n + 3) o' := by
  obtain ⟨ys, env', h1, s5', o', he, ha, hl3, hw'⟩ := comp_st (Φ := Φ) (own := [5]) (t := [5]) (it := .rng1 (.cst (.int 3))) (c := .no) (e := .cmp .eq (.call 4 true (.cons (.var 0) (.cons (.cst (.int 3)) .nil))) (.cst (.int 0))) (env := [.ow o, s1, s2, s3, s4, s5, s6, s7, s8, s9, s10]) (env1 := [.ow o, s1, s2, s3, s4, s5, s6, s7, s8, s9, s10]) ((List.range 3).map fun (k : Nat) => D.int (0 + (k : Int)))
    (fun i acc env => ∃ (s5' : Sl) (o' : OB), env = [.ow o', s1, s2, s3, s4, s5', s6, s7, s8, s9, s10] ∧ (∀ d ∈ acc, ∃ b : Bool, d = .bl b) ∧ acc.length = i ∧ Well (n + i) o') (by simp [ev, evA, evO, evC, evI, evF, exS, exB, Ms.seq, Mo.bnd, Mo.ret, Mo.lift, Mo.opd, RV.opd, Mo.set, RV.set, Mo.tst, Mo.imm, Mo.imms, Mo.nox, opds, OB.toD, atD, cmpD, binD, bltD, prepR, preps, storeR, storesR, nxOf, Mo.fl, isNon, tysD, tyD, intD, intsD, seqD, lstD, methD, isMut, mutD, callD, permL, bindT, slcD, startE, ioE, runD, setID, setOB, get1D, get2D, keyD, keyR]) (by simp [LIM]) ⟨s5, o, rfl, (fun d hd => nomatch hd), rfl, hw⟩ (by
      rintro i d acc env hd ⟨s5', o', rfl, ha, hl3, hw'⟩
      obtain ⟨hi, rfl⟩ := rng_get hd
      obtain ⟨y, o2, e1, y0, y1, w1⟩ := E.drw (n + i) o' 3 hw' (by omega) (by decide) (big_m (by decide))
      refine ⟨[.ow o', s1, s2, s3, s4, .im (.int (i : Int)), s6, s7, s8, s9, s10], by simp [unown, bindT], .inr ⟨[.ow o', s1, s2, s3, s4, .im (.int (i : Int)), s6, s7, s8, s9, s10], [.ow o2, s1, s2, s3, s4, .im (.int (i : Int)), s6, s7, s8, s9, s10], .bl (y == 0), by simp [ev, evA, evO, evC, evI, evF, exS, exB, Ms.seq, Mo.bnd, Mo.ret, Mo.lift, Mo.opd, RV.opd, Mo.set, RV.set, Mo.tst, Mo.imm, Mo.imms, Mo.nox, opds, OB.toD, atD, cmpD, binD, bltD, prepR, preps, storeR, storesR, nxOf, Mo.fl, isNon, tysD, tyD, intD, intsD, seqD, lstD, methD, isMut, mutD, callD, permL, bindT, slcD, startE, ioE, runD, setID, setOB, get1D, get2D, keyD, keyR], by simp [ev, evA, evO, evC, evI, evF, exS, exB, Ms.seq, Mo.bnd, Mo.ret, Mo.lift, Mo.opd, RV.opd, Mo.set, RV.set, Mo.tst, Mo.imm, Mo.imms, Mo.nox, opds, OB.toD, atD, cmpD, binD, bltD, prepR, preps, storeR, storesR, nxOf, Mo.fl, isNon, tysD, tyD, intD, intsD, seqD, lstD, methD, isMut, mutD, callD, permL, bindT, slcD, startE, ioE, runD, setID, setOB, get1D, get2D, keyD, keyR, e1, eq_int], ?_⟩⟩
      refine ⟨_, o2, rfl, fun d hd => ?_, by rw [List.length_append]; simp [hl3], w1⟩
      rcases List.mem_append.mp hd with hd | hd
      · exact ha d hd
      · simp only [List.mem_cons, List.not_mem_nil, or_false] at hd
        exact ⟨_, hd⟩)
  subst he
  have l3 : ys.length = 3 := by simpa using hl3
  obtain ⟨a, r1, rfl⟩ : ∃ a r, ys = a :: r := by cases ys with
    | nil => simp at l3
    | cons a r => exact ⟨a, r, rfl⟩
  obtain ⟨b, c, rfl⟩ := len2 (l := r1) (by simpa using l3)
  obtain ⟨x, rfl⟩ := ha a (by simp)
  obtain ⟨y, rfl⟩ := ha b (by simp)
  obtain ⟨z, rfl⟩ := ha c (by simp)
  refine ⟨x, y, z, o', ?_, by simpa using hw'⟩
  unfold g_law_right_v17_c1
  rw [h1]
  simp [unown, back]
def words47 : List D := [.lst (kindD 0), .lst (kindD 1), .lst (kindD 2), .lst (kindD 3), .lst (kindD 4), .lst (kindD 0), .lst (kindD 1), .lst (kindD 3), .lst (kindD 8)]
theorem words_at {w : Nat} (h : w < 9) : L2.atI words47 (w : Int) = some (.lst (kindD w)) := by
  rw [atI_nat]
  have : w = 0 ∨ w = 1 ∨ w = 2 ∨ w = 3 ∨ w = 4 ∨ w = 5 ∨ w = 6 ∨ w = 7 ∨ w = 8 := by omega
  rcases this with rfl | rfl | rfl | rfl | rfl | rfl | rfl | rfl | rfl <;> rfl
theorem chain_two {ds r : List D} (C : Chain ds [true, false, false] 0 r sN) : ∃ x y : Nat, r = [.tup ds, .int (x : Int), .int (y : Int)] := by
  obtain ⟨a, r1, rfl, ⟨A1, A2, A3⟩ | ⟨A1, b, r2, rfl, ⟨B1, B2, B3⟩ | ⟨B1, c, r3, rfl, ⟨C1, C2, C3⟩ | ⟨C1, rfl, _⟩⟩⟩⟩ := C
  · exact (sK_ne _ A2.symm).elim
  · exact (sK_ne _ B2.symm).elim
  · exact (sK_ne _ C2.symm).elim
  · obtain rfl := good_f0 A1
    obtain ⟨x, rfl, hx⟩ := good_t B1
    obtain ⟨y, rfl, hy⟩ := good_t C1
    exact ⟨x, y, rfl⟩
theorem mem_two (w a b : Nat) : memD (.int (w : Int)) [.int (a : Int), .int (b : Int)] = some (decide (w = a ∨ w = b)) := by
  have := mem_dI0 w [a, b]
  have e : dI [a, b] = [.int (a : Int), .int (b : Int)] := rfl
  rw [e] at this
  rw [this]
  simp
def tail47 : List IS := [.if_ (.and (.cmp .eq (.var 9) (.cst (.str ("none" : PySem.Str)))) (.and (.cmp .mem (.var 1) (.tup (.cons (.cst (.int 3)) (.cons (.cst (.int 7)) .nil)))) (.cmp .eq (.blt .len (.cons (.var 2) .nil)) (.cst (.int 1))))) [.asg 9 false (.cst (.str ("only" : PySem.Str)))] [], .if_ (.and (.cmp .eq (.var 9) (.cst (.str ("none" : PySem.Str)))) (.and (.cmp .mem (.var 1) (.tup (.cons (.cst (.int 4)) (.cons (.cst (.int 8)) .nil)))) (.cmp .eq (.idx (.var 8) (.cst (.int 1))) (.idx (.var 8) (.cst (.int 2)))))) [.asg 9 false (.cst (.str ("same" : PySem.Str)))] [], .ret (.cmp .eq (.call 432 false (.cons (.var 1) (.cons (.var 8) .nil))) (.var 9))]
theorem tail_ok {o' : OB} {w X : Nat} {ds r : List D} {due : PySem.Str} {s4 s5 s6 s7 : Sl} (h9 : w < 9) (C : Chain ds (Kw w) 0 r due) (hc : Φ 432 none [.int (w : Int), .lst r] = some (.ok (.val (.str (fin47 ds w r due))) none)) (q : ∀ e, e[0]? = some (.ow o') → R (.val (.bl true)) e) :
    GoX N C' Bk R (exB Φ wn true tail47 [.ow o', .im (.int (w : Int)), .im (.tup ds), .im (.int (X : Int)), s4, s5, s6, s7, .ow (.lst r), .im (.str due), .un]) := by
  have m1 : memD (.int (w : Int)) [.int 3, .int 7] = some (decide (w = 3 ∨ w = 7)) := mem_two w 3 7
  have m2 : memD (.int (w : Int)) [.int 4, .int 8] = some (decide (w = 4 ∨ w = 8)) := mem_two w 4 8
  have last : ∀ (d2 : PySem.Str), fin47 ds w r due = d2 → GoX N C' Bk R (exB Φ wn true [.ret (.cmp .eq (.call 432 false (.cons (.var 1) (.cons (.var 8) .nil))) (.var 9))] [.ow o', .im (.int (w : Int)), .im (.tup ds), .im (.int (X : Int)), s4, s5, s6, s7, .ow (.lst r), .im (.str d2), .un]) := by
    intro d2 hd
    rw [hd] at hc
    have es : eqD (.str d2) (.str d2) = some true := by simp [eqD]
    exact ex_cons (ret_val (d := .bl true) (env1 := [.ow o', .im (.int (w : Int)), .im (.tup ds), .im (.int (X : Int)), s4, s5, s6, s7, .im (.lst r), .im (.str d2), .un]) (by simp [ev, evA, evO, evC, evI, evF, exS, exB, Ms.seq, Mo.bnd, Mo.ret, Mo.lift, Mo.opd, RV.opd, Mo.set, RV.set, Mo.tst, Mo.imm, Mo.imms, Mo.nox, opds, OB.toD, atD, cmpD, binD, bltD, prepR, preps, storeR, storesR, nxOf, Mo.fl, isNon, tysD, tyD, intD, intsD, seqD, lstD, methD, isMut, mutD, callD, permL, bindT, slcD, startE, ioE, runD, setID, setOB, get1D, get2D, keyD, keyR, hc, es]) (q _ rfl))
  have skip2 : ∀ (d2 : PySem.Str), d2 ≠ sN → fin47 ds w r due = d2 → GoX N C' Bk R (exB Φ wn true (tail47.drop 1) [.ow o', .im (.int (w : Int)), .im (.tup ds), .im (.int (X : Int)), s4, s5, s6, s7, .ow (.lst r), .im (.str d2), .un]) := by
    intro d2 hn hd
    have eN := eq_N d2
    have e' : (d2 == sN) = false := by simp [hn]
    rw [e'] at eN
    show GoX N C' Bk R (exB Φ wn true (_ :: _) _)
    refine ex_cons (if_go (b := false) (env1 := [.ow o', .im (.int (w : Int)), .im (.tup ds), .im (.int (X : Int)), s4, s5, s6, s7, .ow (.lst r), .im (.str d2), .un]) (by simp [ev, evA, evO, evC, evI, evF, exS, exB, Ms.seq, Mo.bnd, Mo.ret, Mo.lift, Mo.opd, RV.opd, Mo.set, RV.set, Mo.tst, Mo.imm, Mo.imms, Mo.nox, opds, OB.toD, atD, cmpD, binD, bltD, prepR, preps, storeR, storesR, nxOf, Mo.fl, isNon, tysD, tyD, intD, intsD, seqD, lstD, methD, isMut, mutD, callD, permL, bindT, slcD, startE, ioE, runD, setID, setOB, get1D, get2D, keyD, keyR, eN]) ?_)
    rw [if_neg Bool.false_ne_true]
    exact ex_nil (last d2 hd)
  by_cases p : due = sN
  · subst p
    have eN : eqD (.str sN) (.str ("none" : PySem.Str)) = some true := by rw [eq_N]; simp
    by_cases p1 : (w = 3 ∨ w = 7) ∧ ds.length = 1
    · have p2 : (ds.length : Int) = 1 := by omega
      refine ex_cons (if_go (b := true) (env1 := [.ow o', .im (.int (w : Int)), .im (.tup ds), .im (.int (X : Int)), s4, s5, s6, s7, .ow (.lst r), .im (.str sN), .un]) (by simp [ev, evA, evO, evC, evI, evF, exS, exB, Ms.seq, Mo.bnd, Mo.ret, Mo.lift, Mo.opd, RV.opd, Mo.set, RV.set, Mo.tst, Mo.imm, Mo.imms, Mo.nox, opds, OB.toD, atD, cmpD, binD, bltD, prepR, preps, storeR, storesR, nxOf, Mo.fl, isNon, tysD, tyD, intD, intsD, seqD, lstD, methD, isMut, mutD, callD, permL, bindT, slcD, startE, ioE, runD, setID, setOB, get1D, get2D, keyD, keyR, eN, m1, p1.1, p1.2, p2, eq_int, LIM]) ?_)
      rw [if_pos rfl]
      refine ex_cons (asg_val (d := .str sO) (env1 := [.ow o', .im (.int (w : Int)), .im (.tup ds), .im (.int (X : Int)), s4, s5, s6, s7, .ow (.lst r), .im (.str sN), .un]) (by simp [ev, evA, evO, evC, evI, evF, exS, exB, Ms.seq, Mo.bnd, Mo.ret, Mo.lift, Mo.opd, RV.opd, Mo.set, RV.set, Mo.tst, Mo.imm, Mo.imms, Mo.nox, opds, OB.toD, atD, cmpD, binD, bltD, prepR, preps, storeR, storesR, nxOf, Mo.fl, isNon, tysD, tyD, intD, intsD, seqD, lstD, methD, isMut, mutD, callD, permL, bindT, slcD, startE, ioE, runD, setID, setOB, get1D, get2D, keyD, keyR, sO]) ⟨rfl, by simp⟩ ?_)
      exact ex_nil (skip2 sO (by decide) (by simp [fin47, p1.1, p1.2]))
    · refine ex_cons (if_go (b := false) (env1 := [.ow o', .im (.int (w : Int)), .im (.tup ds), .im (.int (X : Int)), s4, s5, s6, s7, .ow (.lst r), .im (.str sN), .un]) ?_ ?_)
      · by_cases p3 : w = 3 ∨ w = 7
        · have p4 : ¬ ((ds.length : Int) = 1) := fun z => p1 ⟨p3, by omega⟩
          have p5 : ¬ (ds.length = 1) := fun z => p1 ⟨p3, z⟩
          simp [ev, evA, evO, evC, evI, evF, exS, exB, Ms.seq, Mo.bnd, Mo.ret, Mo.lift, Mo.opd, RV.opd, Mo.set, RV.set, Mo.tst, Mo.imm, Mo.imms, Mo.nox, opds, OB.toD, atD, cmpD, binD, bltD, prepR, preps, storeR, storesR, nxOf, Mo.fl, isNon, tysD, tyD, intD, intsD, seqD, lstD, methD, isMut, mutD, callD, permL, bindT, slcD, startE, ioE, runD, setID, setOB, get1D, get2D, keyD, keyR, eN, m1, p3, p4, p5, eq_int, LIM]
        · simp [ev, evA, evO, evC, evI, evF, exS, exB, Ms.seq, Mo.bnd, Mo.ret, Mo.lift, Mo.opd, RV.opd, Mo.set, RV.set, Mo.tst, Mo.imm, Mo.imms, Mo.nox, opds, OB.toD, atD, cmpD, binD, bltD, prepR, preps, storeR, storesR, nxOf, Mo.fl, isNon, tysD, tyD, intD, intsD, seqD, lstD, methD, isMut, mutD, callD, permL, bindT, slcD, startE, ioE, runD, setID, setOB, get1D, get2D, keyD, keyR, eN, m1, p3, LIM]
      · rw [if_neg Bool.false_ne_true]
        have f1 : ¬ (sN = sN ∧ (w = 3 ∨ w = 7) ∧ ds.length = 1) := fun z => p1 z.2
        refine ex_nil ?_
        by_cases p6 : w = 4 ∨ w = 8
        · have C2 : Chain ds [true, false, false] 0 r sN := by
            rcases p6 with rfl | rfl
            · exact C
            · exact C
          obtain ⟨x, y, rfl⟩ := chain_two C2
          by_cases e : x = y
          · subst e
            refine ex_cons (if_go (b := true) (env1 := [.ow o', .im (.int (w : Int)), .im (.tup ds), .im (.int (X : Int)), s4, s5, s6, s7, .ow (.lst [.tup ds, .int (x : Int), .int (x : Int)]), .im (.str sN), .un]) (by simp [ev, evA, evO, evC, evI, evF, exS, exB, Ms.seq, Mo.bnd, Mo.ret, Mo.lift, Mo.opd, RV.opd, Mo.set, RV.set, Mo.tst, Mo.imm, Mo.imms, Mo.nox, opds, OB.toD, atD, cmpD, binD, bltD, prepR, preps, storeR, storesR, nxOf, Mo.fl, isNon, tysD, tyD, intD, intsD, seqD, lstD, methD, isMut, mutD, callD, permL, bindT, slcD, startE, ioE, runD, setID, setOB, get1D, get2D, keyD, keyR, eN, m2, p6, eq_int, LIM]) ?_)
            rw [if_pos rfl]
            refine ex_cons (asg_val (d := .str sS) (env1 := [.ow o', .im (.int (w : Int)), .im (.tup ds), .im (.int (X : Int)), s4, s5, s6, s7, .ow (.lst [.tup ds, .int (x : Int), .int (x : Int)]), .im (.str sN), .un]) (by simp [ev, evA, evO, evC, evI, evF, exS, exB, Ms.seq, Mo.bnd, Mo.ret, Mo.lift, Mo.opd, RV.opd, Mo.set, RV.set, Mo.tst, Mo.imm, Mo.imms, Mo.nox, opds, OB.toD, atD, cmpD, binD, bltD, prepR, preps, storeR, storesR, nxOf, Mo.fl, isNon, tysD, tyD, intD, intsD, seqD, lstD, methD, isMut, mutD, callD, permL, bindT, slcD, startE, ioE, runD, setID, setOB, get1D, get2D, keyD, keyR, sS]) ⟨rfl, by simp⟩ ?_)
            exact ex_nil (last sS (by unfold fin47; rw [if_neg f1, if_pos ⟨rfl, p6, by simp [sameB]⟩]))
          · have e' : ¬ ((x : Int) = (y : Int)) := by omega
            refine ex_cons (if_go (b := false) (env1 := [.ow o', .im (.int (w : Int)), .im (.tup ds), .im (.int (X : Int)), s4, s5, s6, s7, .ow (.lst [.tup ds, .int (x : Int), .int (y : Int)]), .im (.str sN), .un]) (by simp [ev, evA, evO, evC, evI, evF, exS, exB, Ms.seq, Mo.bnd, Mo.ret, Mo.lift, Mo.opd, RV.opd, Mo.set, RV.set, Mo.tst, Mo.imm, Mo.imms, Mo.nox, opds, OB.toD, atD, cmpD, binD, bltD, prepR, preps, storeR, storesR, nxOf, Mo.fl, isNon, tysD, tyD, intD, intsD, seqD, lstD, methD, isMut, mutD, callD, permL, bindT, slcD, startE, ioE, runD, setID, setOB, get1D, get2D, keyD, keyR, eN, m2, p6, eq_int, LIM, e, e']) ?_)
            rw [if_neg Bool.false_ne_true]
            exact ex_nil (last sN (by unfold fin47; rw [if_neg f1, if_neg (by simp [sameB, e, e'])]))
        · refine ex_cons (if_go (b := false) (env1 := [.ow o', .im (.int (w : Int)), .im (.tup ds), .im (.int (X : Int)), s4, s5, s6, s7, .ow (.lst r), .im (.str sN), .un]) (by simp [ev, evA, evO, evC, evI, evF, exS, exB, Ms.seq, Mo.bnd, Mo.ret, Mo.lift, Mo.opd, RV.opd, Mo.set, RV.set, Mo.tst, Mo.imm, Mo.imms, Mo.nox, opds, OB.toD, atD, cmpD, binD, bltD, prepR, preps, storeR, storesR, nxOf, Mo.fl, isNon, tysD, tyD, intD, intsD, seqD, lstD, methD, isMut, mutD, callD, permL, bindT, slcD, startE, ioE, runD, setID, setOB, get1D, get2D, keyD, keyR, eN, m2, p6, LIM]) ?_)
          rw [if_neg Bool.false_ne_true]
          exact ex_nil (last sN (by unfold fin47; rw [if_neg f1, if_neg (fun z => p6 z.2.1)]))
  · have eN := eq_N due
    have e' : (due == sN) = false := by simp [p]
    rw [e'] at eN
    refine ex_cons (if_go (b := false) (env1 := [.ow o', .im (.int (w : Int)), .im (.tup ds), .im (.int (X : Int)), s4, s5, s6, s7, .ow (.lst r), .im (.str due), .un]) (by simp [ev, evA, evO, evC, evI, evF, exS, exB, Ms.seq, Mo.bnd, Mo.ret, Mo.lift, Mo.opd, RV.opd, Mo.set, RV.set, Mo.tst, Mo.imm, Mo.imms, Mo.nox, opds, OB.toD, atD, cmpD, binD, bltD, prepR, preps, storeR, storesR, nxOf, Mo.fl, isNon, tysD, tyD, intD, intsD, seqD, lstD, methD, isMut, mutD, callD, permL, bindT, slcD, startE, ioE, runD, setID, setOB, get1D, get2D, keyD, keyR, eN]) ?_)
    rw [if_neg Bool.false_ne_true]
    exact ex_nil (skip2 due p (fin_id (.inl p)))
def Sp_right47 (φ : FO) : Prop := ∀ (w : Nat) (o : OB), w < 9 → Well 0 o → ∃ o', φ (some o) [.int (w : Int)] = some (.ok (.val (.bl true)) (some o'))
theorem ok_right47 (E : E47 Φ) : Sp_right47 (runD Φ wn g_law_right_v17) := by
  intro w o h9 w0
  obtain ⟨y, o1, e1, y0, y1, w1⟩ := E.drw 0 o 3 w0 (by omega) (by decide) (big_m (by decide))
  obtain ⟨m, hm, mm⟩ := at_some (ds := [.int 9, .int 1, .int 2]) y0 (by simpa using y1)
  obtain ⟨mi, hmi, rfl⟩ : ∃ mi : Int, (0 < mi ∧ mi ≤ 60) ∧ m = .int mi := by
    simp only [List.mem_cons, List.not_mem_nil, or_false] at mm
    rcases mm with rfl | rfl | rfl
    · exact ⟨9, by decide, rfl⟩
    · exact ⟨1, by decide, rfl⟩
    · exact ⟨2, by decide, rfl⟩
  obtain ⟨ds, o2, e2, f2, n2, l2, i2, w2⟩ := E.pln (0 + 1) o1 mi w1 (by omega) hmi
  have F : Fst ds := Fst.of f2 (by omega) i2
  have pos : 0 < ds.length := by cases ds with
    | nil => exact (n2 rfl).elim
    | cons x xs => simp
  obtain ⟨x, o3, e3, x0, x1, w3⟩ := E.drw _ o2 (ds.length : Int) w2 (by omega) (by omega) (big_m (by omega))
  obtain ⟨X, rfl⟩ := Int.eq_ofNat_of_zero_le x0
  have hX : X < ds.length := by omega
  obtain ⟨fa, fb, fc, o4, e4, w4⟩ := flags_ok E (s1 := .im (.int (w : Int))) (s2 := .im (.tup ds)) (s3 := .un) (s4 := .un) (s5 := .un) (s6 := .un) (s7 := .un) (s8 := .un) (s9 := .un) (s10 := .un) w3 (by omega)
  have wa := words_at h9
  have K3 := Kw_len w
  have lk : (kindD w).length = (Kw w).length := by simp [kindD]
  obtain ⟨r, q, e, rfl, o', rfl⟩ := run_go (Φ := Φ) (wn := wn) (d := g_law_right_v17) (io := some o) (ds := [.int (w : Int)]) (env := [.ow o, .im (.int (w : Int)), .un, .un, .un, .un, .un, .un, .un, .un, .un]) (Q := fun r q => r = .val (.bl true) ∧ ∃ o', q = some o') rfl (by
    refine ex_cons (asg_val (d := .tup ds) (env1 := [.ow o2, .im (.int (w : Int)), .un, .un, .un, .un, .un, .un, .un, .un, .un]) (by simp [ev, evA, evO, evC, evI, evF, exS, exB, Ms.seq, Mo.bnd, Mo.ret, Mo.lift, Mo.opd, RV.opd, Mo.set, RV.set, Mo.tst, Mo.imm, Mo.imms, Mo.nox, opds, OB.toD, atD, cmpD, binD, bltD, prepR, preps, storeR, storesR, nxOf, Mo.fl, isNon, tysD, tyD, intD, intsD, seqD, lstD, methD, isMut, mutD, callD, permL, bindT, slcD, startE, ioE, runD, setID, setOB, get1D, get2D, keyD, keyR, e1, hm, e2, LIM]) ⟨rfl, by simp⟩ ?_)
    refine ex_cons (asgN2_vf (d1 := .int (X : Int)) (o2 := .lst [.bl fa, .bl fb, .bl fc]) (env1 := [.ow o3, .im (.int (w : Int)), .im (.tup ds), .un, .un, .un, .un, .un, .un, .un, .un]) (env2 := [.ow o4, .im (.int (w : Int)), .im (.tup ds), .un, .un, .un, .un, .un, .un, .un, .un]) (by simp [ev, evA, evO, evC, evI, evF, exS, exB, Ms.seq, Mo.bnd, Mo.ret, Mo.lift, Mo.opd, RV.opd, Mo.set, RV.set, Mo.tst, Mo.imm, Mo.imms, Mo.nox, opds, OB.toD, atD, cmpD, binD, bltD, prepR, preps, storeR, storesR, nxOf, Mo.fl, isNon, tysD, tyD, intD, intsD, seqD, lstD, methD, isMut, mutD, callD, permL, bindT, slcD, startE, ioE, runD, setID, setOB, get1D, get2D, keyD, keyR, e3]) e4 ⟨rfl, by simp⟩ ⟨rfl, by simp⟩ ?_)
    refine ex_cons (asg_fi (o := .lst [.lst (kindD 0), .lst (kindD 1), .lst (kindD 2), .lst (kindD 3)]) (env1 := [.ow o4, .im (.int (w : Int)), .im (.tup ds), .im (.int (X : Int)), .im (.lst [.bl fa, .bl fb, .bl fc]), .un, .un, .un, .un, .un, .un]) (by simp [ev, evA, evO, evC, evI, evF, exS, exB, Ms.seq, Mo.bnd, Mo.ret, Mo.lift, Mo.opd, RV.opd, Mo.set, RV.set, Mo.tst, Mo.imm, Mo.imms, Mo.nox, opds, OB.toD, atD, cmpD, binD, bltD, prepR, preps, storeR, storesR, nxOf, Mo.fl, isNon, tysD, tyD, intD, intsD, seqD, lstD, methD, isMut, mutD, callD, permL, bindT, slcD, startE, ioE, runD, setID, setOB, get1D, get2D, keyD, keyR, kindD, Kw, sK, sF, sT, LIM]) ⟨rfl, by simp⟩ ?_)
    refine ex_cons (asg_fi (o := .lst words47) (env1 := [.ow o4, .im (.int (w : Int)), .im (.tup ds), .im (.int (X : Int)), .im (.lst [.bl fa, .bl fb, .bl fc]), .un, .im (.lst [.lst (kindD 0), .lst (kindD 1), .lst (kindD 2), .lst (kindD 3)]), .un, .un, .un, .un]) (by
      have a3 : ∀ (x y z u : D), L2.atI [x, y, z, u] 3 = some u := fun x y z u => atI_nat (i := 3)
      simp [ev, evA, evO, evC, evI, evF, exS, exB, Ms.seq, Mo.bnd, Mo.ret, Mo.lift, Mo.opd, RV.opd, Mo.set, RV.set, Mo.tst, Mo.imm, Mo.imms, Mo.nox, opds, OB.toD, atD, cmpD, binD, bltD, prepR, preps, storeR, storesR, nxOf, Mo.fl, isNon, tysD, tyD, intD, intsD, seqD, lstD, methD, isMut, mutD, callD, permL, bindT, slcD, startE, ioE, runD, setID, setOB, get1D, get2D, keyD, keyR, words47, kindD, Kw, sK, sF, sT, LIM, a3]) ⟨rfl, by simp⟩ ?_)
    refine ex_cons (asg_val (d := .lst (kindD w)) (env1 := [.ow o4, .im (.int (w : Int)), .im (.tup ds), .im (.int (X : Int)), .im (.lst [.bl fa, .bl fb, .bl fc]), .un, .im (.lst words47), .un, .un, .un, .un]) (by simp [ev, evA, evO, evC, evI, evF, exS, exB, Ms.seq, Mo.bnd, Mo.ret, Mo.lift, Mo.opd, RV.opd, Mo.set, RV.set, Mo.tst, Mo.imm, Mo.imms, Mo.nox, opds, OB.toD, atD, cmpD, binD, bltD, prepR, preps, storeR, storesR, nxOf, Mo.fl, isNon, tysD, tyD, intD, intsD, seqD, lstD, methD, isMut, mutD, callD, permL, bindT, slcD, startE, ioE, runD, setID, setOB, get1D, get2D, keyD, keyR, wa]) ⟨rfl, by simp⟩ ?_)
    refine ex_cons (asgN2_ov (o1 := .lst []) (d2 := .str sN) (env1 := [.ow o4, .im (.int (w : Int)), .im (.tup ds), .im (.int (X : Int)), .im (.lst [.bl fa, .bl fb, .bl fc]), .un, .im (.lst words47), .im (.lst (kindD w)), .un, .un, .un]) (env2 := [.ow o4, .im (.int (w : Int)), .im (.tup ds), .im (.int (X : Int)), .im (.lst [.bl fa, .bl fb, .bl fc]), .un, .im (.lst words47), .im (.lst (kindD w)), .un, .un, .un]) (by simp [ev, evA, evO, evC, evI, evF, exS, exB, Ms.seq, Mo.bnd, Mo.ret, Mo.lift, Mo.opd, RV.opd, Mo.set, RV.set, Mo.tst, Mo.imm, Mo.imms, Mo.nox, opds, OB.toD, atD, cmpD, binD, bltD, prepR, preps, storeR, storesR, nxOf, Mo.fl, isNon, tysD, tyD, intD, intsD, seqD, lstD, methD, isMut, mutD, callD, permL, bindT, slcD, startE, ioE, runD, setID, setOB, get1D, get2D, keyD, keyR, LIM]) (by simp [ev, evA, evO, evC, evI, evF, exS, exB, Ms.seq, Mo.bnd, Mo.ret, Mo.lift, Mo.opd, RV.opd, Mo.set, RV.set, Mo.tst, Mo.imm, Mo.imms, Mo.nox, opds, OB.toD, atD, cmpD, binD, bltD, prepR, preps, storeR, storesR, nxOf, Mo.fl, isNon, tysD, tyD, intD, intsD, seqD, lstD, methD, isMut, mutD, callD, permL, bindT, slcD, startE, ioE, runD, setID, setOB, get1D, get2D, keyD, keyR, sN]) ⟨rfl, by simp⟩ ⟨rfl, by simp⟩ ?_)
    refine ex_cons (for_in (ds := (List.range (Kw w).length).map fun (k : Nat) => D.int (0 + (k : Int))) (env1 := [.ow o4, .im (.int (w : Int)), .im (.tup ds), .im (.int (X : Int)), .im (.lst [.bl fa, .bl fb, .bl fc]), .un, .im (.lst words47), .im (.lst (kindD w)), .ow (.lst []), .im (.str sN), .un])
      (fun k env => ∃ o' r due s5, env = [.ow o', .im (.int (w : Int)), .im (.tup ds), .im (.int (X : Int)), .im (.lst [.bl fa, .bl fb, .bl fc]), s5, .im (.lst words47), .im (.lst (kindD w)), .ow (.lst r), .im (.str due), .un] ∧ Well (1000 + 1000 * k) o' ∧ Chain ds ((Kw w).take k) 0 r due ∧ r.length = k ∧ ∀ d ∈ r, Sh d) (by
        have hr : -100000 ≤ ((Kw w).length : Int) ∧ ((Kw w).length : Int) ≤ 100000 := by omega
        simp [ev, evA, evO, evC, evI, evF, exS, exB, Ms.seq, Mo.bnd, Mo.ret, Mo.lift, Mo.opd, RV.opd, Mo.set, RV.set, Mo.tst, Mo.imm, Mo.imms, Mo.nox, opds, OB.toD, atD, cmpD, binD, bltD, prepR, preps, storeR, storesR, nxOf, Mo.fl, isNon, tysD, tyD, intD, intsD, seqD, lstD, methD, isMut, mutD, callD, permL, bindT, slcD, startE, ioE, runD, setID, setOB, get1D, get2D, keyD, keyR, lk, hr]) ⟨o4, [], sN, .un, rfl, w4.mono (by omega), ⟨rfl, rfl⟩, rfl, fun d hd => nomatch hd⟩ ?_ ?_)
    · rintro k d env hd ⟨o', r, due, s5, rfl, hw, hC, hr, hs⟩
      obtain ⟨hk, rfl⟩ := rng_get hd
      have k3 : k < 3 := by omega
      obtain ⟨bad, hW⟩ : ∃ bad, [D.bl fa, .bl fb, .bl fc][k]? = some (.bl bad) := by
        have : k = 0 ∨ k = 1 ∨ k = 2 := by omega
        rcases this with rfl | rfl | rfl
        · exact ⟨_, rfl⟩
        · exact ⟨_, rfl⟩
        · exact ⟨_, rfl⟩
      refine ⟨[.ow o', .im (.int (w : Int)), .im (.tup ds), .im (.int (X : Int)), .im (.lst [.bl fa, .bl fb, .bl fc]), .im (.int (k : Int)), .im (.lst words47), .im (.lst (kindD w)), .ow (.lst r), .im (.str due), .un], by simp [bindT], ?_⟩
      exact step47 E (b := (Kw w)[k]) hw (by omega) F l2 hX (List.getElem?_eq_getElem hk) hW hr hC hs fun o2 r2 due2 d2 a1 a2 a3 a4 => ⟨o2, r2, due2, _, by simp [unown]; exact rfl, a1.mono (by omega), a2, a3, a4⟩
    · rintro env ⟨o', r, due, s5, rfl, hw, hC, hr, hs⟩
      have ll : ((List.range (Kw w).length).map fun (k : Nat) => D.int (0 + (k : Int))).length = (Kw w).length := by simp
      rw [ll] at hC hr
      rw [List.take_length] at hC
      have c := E.cgt ds w r due h9 F hC (by omega) hs
      exact tail_ok h9 hC c fun e he => ⟨some o', by
        cases e with
        | nil => simp at he
        | cons z t =>
          have : z = .ow o' := by simpa using he
          subst this
          rfl, rfl, o', rfl⟩)
  exact ⟨o', e⟩
theorem ok_law47 (hw : Sp_well (Φ 3)) (hr : Sp_right47 (Φ 433)) : Sp_law (runD Φ wn g_law_v45) := by
  intro zs h
  obtain ⟨K, hK, hK2⟩ : ∃ K : Nat, (if (36 : Int) < (if (zs.length : Int) < 54 then (zs.length : Int) else 54) then (if (zs.length : Int) < 54 then (zs.length : Int) else 54) else 36) = (K : Int) ∧ K ≤ 54 := by
    refine ⟨max 36 (min 54 zs.length), ?_, by omega⟩
    omega
  have hrg : -100000 ≤ (K : Int) ∧ (K : Int) ≤ 100000 := by omega
  refine run_val (env := [.im (.frz (zs.map .int)), .un]) rfl rfl ?_
  refine ex_cons (for_in (ds := (List.range K).map fun (k : Nat) => D.int (0 + (k : Int))) (env1 := [.im (.frz (zs.map .int)), .un]) (fun i env => env = [.im (.frz (zs.map .int)), .un]) (by simp [ev, evA, evO, evC, evI, evF, exS, exB, Ms.seq, Mo.bnd, Mo.ret, Mo.lift, Mo.opd, RV.opd, Mo.set, RV.set, Mo.tst, Mo.imm, Mo.imms, Mo.nox, opds, OB.toD, atD, cmpD, binD, bltD, prepR, preps, storeR, storesR, nxOf, Mo.fl, isNon, tysD, tyD, intD, intsD, seqD, lstD, methD, isMut, mutD, callD, permL, bindT, slcD, startE, ioE, runD, setID, setOB, get1D, get2D, keyD, keyR, hK, hrg]) rfl ?_ ?_)
  · rintro i d env hd rfl
    obtain ⟨hi, rfl⟩ := rng_get hd
    obtain ⟨o, e, w0⟩ := hw zs i (by omega)
    generalize zs.map D.int = zd at *
    obtain ⟨v, hv⟩ : ∃ v : Nat, (i : Int) % 9 = (v : Int) := ⟨i % 9, by omega⟩
    obtain ⟨o', e2⟩ := hr v o (by omega) w0
    refine ⟨[.im (.frz zd), .im (.int (i : Int))], by simp [bindT], ?_⟩
    refine ex_cons (if_go (b := false) (env1 := [.im (.frz zd), .im (.int (i : Int))]) (by simp [ev, evA, evO, evC, evI, evF, exS, exB, Ms.seq, Mo.bnd, Mo.ret, Mo.lift, Mo.opd, RV.opd, Mo.set, RV.set, Mo.tst, Mo.imm, Mo.imms, Mo.nox, opds, OB.toD, atD, cmpD, binD, bltD, prepR, preps, storeR, storesR, nxOf, Mo.fl, isNon, tysD, tyD, intD, intsD, seqD, lstD, methD, isMut, mutD, callD, permL, bindT, slcD, startE, ioE, runD, setID, setOB, get1D, get2D, keyD, keyR, e, hv, callFD, valsD, e2]) ?_)
    rw [if_neg Bool.false_ne_true]
    exact ex_nil (ex_nil (by simp [unown]))
  · rintro env rfl
    exact ex_cons (ret_val (d := .bl true) (env1 := [.im (.frz (zs.map .int)), .un]) (by simp [ev, evA, evO, evC, evI, evF, exS, exB, Ms.seq, Mo.bnd, Mo.ret, Mo.lift, Mo.opd, RV.opd, Mo.set, RV.set, Mo.tst, Mo.imm, Mo.imms, Mo.nox, opds, OB.toD, atD, cmpD, binD, bltD, prepR, preps, storeR, storesR, nxOf, Mo.fl, isNon, tysD, tyD, intD, intsD, seqD, lstD, methD, isMut, mutD, callD, permL, bindT, slcD, startE, ioE, runD, setID, setOB, get1D, get2D, keyD, keyR]) rfl)
theorem ok_r47 (h1 : DrawOk (Φ 4)) (h2 : Sp_forest (Φ 5)) (h3 : Sp_broken (Φ 280)) (h4 : Sp_odd (Φ 430)) (h5 : Sp_caught47 (Φ 432)) : Sp_right47 (runD Φ wn g_law_right_v17) := ok_right47 ⟨h1, h2, h3, h4, h5⟩
end

abbrev R : PySem.W.OpenRow := PySem.W.OpenLaw.row PySem.Challenge.rw_heldbehind_k47_errors_of_changes
def top (i : Nat) : Stmt := PySem.Challenge.pw_heldbehind_k47_errors_of_changes.main.body.getD i (.Pass ⟨0, 0, 0, 0⟩)
def d_is_integer : DefI := { name := ("is_integer" : PySem.Str), st := top 8, N := [("value" : PySem.Str), ("least" : PySem.Str), ("most" : PySem.Str)], ps := [("value" : PySem.Str), ("least" : PySem.Str), ("most" : PySem.Str)], own := [], kl := [], df := f_is_integer, num := 0 }
def d_is_rooted : DefI := { name := ("is_rooted" : PySem.Str), st := top 10, N := [("forest" : PySem.Str), ("thing" : PySem.Str), ("here" : PySem.Str), ("step" : PySem.Str)], ps := [("forest" : PySem.Str)], own := [], kl := [], df := f_is_rooted, num := 1 }
def d_is_forest : DefI := { name := ("is_forest" : PySem.Str), st := top 11, N := [("value" : PySem.Str), ("holder" : PySem.Str)], ps := [("value" : PySem.Str)], own := [], kl := [], df := f_is_forest 0 1, num := 2 }
def d_check_forest : DefI := { name := ("check_forest" : PySem.Str), st := top 12, N := [("forest" : PySem.Str)], ps := [("forest" : PySem.Str)], own := [], kl := [], df := g_check_forest, num := 10 }
def d_check_thing : DefI := { name := ("check_thing" : PySem.Str), st := top 13, N := [("forest" : PySem.Str), ("thing" : PySem.Str)], ps := [("forest" : PySem.Str), ("thing" : PySem.Str)], own := [], kl := [], df := g_check_thing, num := 11 }
def d_above_of : DefI := { name := ("above_of" : PySem.Str), st := top 14, N := [("forest" : PySem.Str), ("thing" : PySem.Str), ("found" : PySem.Str), ("here" : PySem.Str)], ps := [("forest" : PySem.Str), ("thing" : PySem.Str)], own := [("found" : PySem.Str)], kl := [], df := f_above_of, num := 12 }
def d_moved : DefI := { name := ("moved" : PySem.Str), st := top 16, N := [("forest" : PySem.Str), ("many" : PySem.Str), ("holder" : PySem.Str)], ps := [("forest" : PySem.Str), ("many" : PySem.Str)], own := [], kl := [], df := f_moved, num := 318 }
def d_renamed : DefI := { name := ("renamed" : PySem.Str), st := top 17, N := [("forest" : PySem.Str), ("things" : PySem.Str), ("numbers" : PySem.Str), ("number" : PySem.Str), ("thing" : PySem.Str)], ps := [("forest" : PySem.Str), ("things" : PySem.Str)], own := [], kl := [], df := f_renamed, num := 319 }
def d_beside : DefI := { name := ("beside" : PySem.Str), st := top 18, N := [("forest" : PySem.Str), ("other" : PySem.Str)], ps := [("forest" : PySem.Str), ("other" : PySem.Str)], own := [], kl := [([("other" : PySem.Str), ("forest" : PySem.Str)], [1, 0])], df := f_beside 10 318, num := 320 }
def d_grafted : DefI := { name := ("grafted" : PySem.Str), st := top 19, N := [("forest" : PySem.Str), ("thing" : PySem.Str), ("other" : PySem.Str), ("behind" : PySem.Str), ("holder" : PySem.Str)], ps := [("forest" : PySem.Str), ("thing" : PySem.Str), ("other" : PySem.Str)], own := [], kl := [([("other" : PySem.Str), ("thing" : PySem.Str), ("forest" : PySem.Str)], [2, 1, 0])], df := f_grafted 10 11 318, num := 321 }
def d_part : DefI := { name := ("part" : PySem.Str), st := top 20, N := [("forest" : PySem.Str), ("thing" : PySem.Str), ("things" : PySem.Str), ("one" : PySem.Str)], ps := [("forest" : PySem.Str), ("thing" : PySem.Str)], own := [], kl := [([("thing" : PySem.Str), ("forest" : PySem.Str)], [1, 0])], df := f_part 10 11 12 319, num := 322 }
def d_without : DefI := { name := ("without" : PySem.Str), st := top 21, N := [("forest" : PySem.Str), ("thing" : PySem.Str), ("lifted" : PySem.Str), ("holder" : PySem.Str), ("one" : PySem.Str)], ps := [("forest" : PySem.Str), ("thing" : PySem.Str)], own := [], kl := [([("thing" : PySem.Str), ("forest" : PySem.Str)], [1, 0])], df := g_without, num := 323 }
def d_told_ahead : DefI := { name := ("told_ahead" : PySem.Str), st := top 22, N := [("forest" : PySem.Str), ("thing" : PySem.Str), ("other" : PySem.Str)], ps := [("forest" : PySem.Str), ("thing" : PySem.Str), ("other" : PySem.Str)], own := [], kl := [([("other" : PySem.Str), ("thing" : PySem.Str), ("forest" : PySem.Str)], [2, 1, 0])], df := g_told_ahead, num := 422 }
def d__law_well : DefI := { name := ("_law_well" : PySem.Str), st := top 24, N := [("script" : PySem.Str), ("at" : PySem.Str), ("cell" : PySem.Str)], ps := [("script" : PySem.Str), ("at" : PySem.Str)], own := [], kl := [], df := f_well, num := 3 }
def d__law_draw : DefI := { name := ("_law_draw" : PySem.Str), st := top 25, N := [("well" : PySem.Str), ("most" : PySem.Str), ("digit" : PySem.Str), ("blend" : PySem.Str)], ps := [("well" : PySem.Str), ("most" : PySem.Str)], own := [], kl := [], df := f_draw, num := 4 }
def d__law_forest : DefI := { name := ("_law_forest" : PySem.Str), st := top 26, N := [("well" : PySem.Str), ("most" : PySem.Str), ("size" : PySem.Str), ("way" : PySem.Str), ("found" : PySem.Str), ("k" : PySem.Str), ("some" : PySem.Str), ("names" : PySem.Str), ("left" : PySem.Str), ("turned_here" : PySem.Str)], ps := [("well" : PySem.Str), ("most" : PySem.Str)], own := [("found" : PySem.Str), ("names" : PySem.Str), ("left" : PySem.Str), ("turned_here" : PySem.Str)], kl := [], df := f_law_forest 4, num := 5 }
def d__law_broken : DefI := { name := ("_law_broken" : PySem.Str), st := top 27, N := [("well" : PySem.Str), ("plan" : PySem.Str), ("size" : PySem.Str), ("some" : PySem.Str)], ps := [("well" : PySem.Str), ("plan" : PySem.Str)], own := [], kl := [], df := g_law_broken, num := 280 }
def d__law_odd : DefI := { name := ("_law_odd" : PySem.Str), st := top 28, N := [("well" : PySem.Str), ("size" : PySem.Str), ("some" : PySem.Str)], ps := [("well" : PySem.Str), ("size" : PySem.Str)], own := [], kl := [], df := g_law_odd, num := 430 }
def d__law_called : DefI := { name := ("_law_called" : PySem.Str), st := top 29, N := [("way" : PySem.Str), ("row" : PySem.Str)], ps := [("way" : PySem.Str), ("row" : PySem.Str)], own := [], kl := [], df := g_law_called_v10, num := 431 }
def d__law_caught : DefI := { name := ("_law_caught" : PySem.Str), st := top 30, N := [("way" : PySem.Str), ("row" : PySem.Str), ("before" : PySem.Str), ("marks" : PySem.Str), ("e" : PySem.Str)], ps := [("way" : PySem.Str), ("row" : PySem.Str)], own := [], kl := [], df := g_law_caught_v2, num := 432 }
def d__law_right : DefI := { name := ("_law_right" : PySem.Str), st := top 31, N := [("well" : PySem.Str), ("way" : PySem.Str), ("plan" : PySem.Str), ("one" : PySem.Str), ("wrong" : PySem.Str), ("k" : PySem.Str), ("words" : PySem.Str), ("kinds" : PySem.Str), ("row" : PySem.Str), ("due" : PySem.Str), ("good" : PySem.Str)], ps := [("well" : PySem.Str), ("way" : PySem.Str)], own := [("row" : PySem.Str)], kl := [], df := g_law_right_v17, num := 433, ks := [(168, [10])] }
def d_law : DefI := { name := ("law" : PySem.Str), st := top 32, N := [("script" : PySem.Str), ("at" : PySem.Str)], ps := [("script" : PySem.Str)], own := [], kl := [], df := g_law_v45, num := 434, ks := [(182, [1])] }
def defs : List DefI := [d_is_integer, d_is_rooted, d_is_forest, d_check_forest, d_check_thing, d_above_of, d_moved, d_renamed, d_beside, d_grafted, d_part, d_without, d_told_ahead, d__law_well, d__law_draw, d__law_forest, d__law_broken, d__law_odd, d__law_called, d__law_caught, d__law_right, d_law]
def cls : List (PySem.Str × Nat) := [(("HolderError" : PySem.Str), 0), (("InvalidForest" : PySem.Str), 1), (("InvalidThing" : PySem.Str), 2), (("SameThing" : PySem.Str), 6), (("NoForest" : PySem.Str), 11), (("OnlyThing" : PySem.Str), 15)]
def sub : List (Nat × List Nat) := [(0, [0, 1, 2, 6, 11, 15]), (1, [1]), (2, [2]), (6, [6]), (11, [11]), (15, [15])]
def bls : List PySem.Str := [("range" : PySem.Str), ("len" : PySem.Str), ("isinstance" : PySem.Str), ("int" : PySem.Str), ("bool" : PySem.Str), ("list" : PySem.Str), ("tuple" : PySem.Str), ("abs" : PySem.Str), ("max" : PySem.Str), ("min" : PySem.Str), ("all" : PySem.Str), ("repr" : PySem.Str), ("enumerate" : PySem.Str), ("ValueError" : PySem.Str)]
def T : Tab := ⟨tabOf defs, cls, bls, sub⟩
theorem dok_is_integer : d_is_integer.Ok T := ⟨by kernel_rfl, ⟨rfl, rfl, rfl, by decide +kernel, rfl, by decide +kernel, by decide +kernel⟩, rfl, rfl, fun _ _ _ _ _ _ us hl => match us, hl with | [_, _, _], _ => rfl, fun q hq => nomatch hq⟩
theorem dok_is_rooted : d_is_rooted.Ok T := ⟨by kernel_rfl, ⟨rfl, rfl, rfl, by decide +kernel, rfl, by decide +kernel, by decide +kernel⟩, rfl, rfl, fun _ _ _ _ _ _ us hl => match us, hl with | [_], _ => rfl, fun q hq => nomatch hq⟩
theorem dok_is_forest : d_is_forest.Ok T := ⟨by kernel_rfl, ⟨rfl, rfl, rfl, by decide +kernel, rfl, by decide +kernel, by decide +kernel⟩, rfl, rfl, fun _ _ _ _ _ _ us hl => match us, hl with | [_], _ => rfl, fun q hq => nomatch hq⟩
theorem dok_check_forest : d_check_forest.Ok T := ⟨by kernel_rfl, ⟨rfl, rfl, rfl, by decide +kernel, rfl, by decide +kernel, by decide +kernel⟩, rfl, rfl, fun _ _ _ _ _ _ us hl => match us, hl with | [_], _ => rfl, fun q hq => nomatch hq⟩
theorem dok_check_thing : d_check_thing.Ok T := ⟨by kernel_rfl, ⟨rfl, rfl, rfl, by decide +kernel, rfl, by decide +kernel, by decide +kernel⟩, rfl, rfl, fun _ _ _ _ _ _ us hl => match us, hl with | [_, _], _ => rfl, fun q hq => nomatch hq⟩
theorem dok_above_of : d_above_of.Ok T := ⟨by kernel_rfl, ⟨rfl, rfl, rfl, by decide +kernel, rfl, by decide +kernel, by decide +kernel⟩, rfl, rfl, fun _ _ _ _ _ _ us hl => match us, hl with | [_, _], _ => rfl, fun q hq => nomatch hq⟩
theorem dok_moved : d_moved.Ok T := ⟨by kernel_rfl, ⟨rfl, rfl, rfl, by decide +kernel, rfl, by decide +kernel, by decide +kernel⟩, rfl, rfl, fun _ _ _ _ _ _ us hl => match us, hl with | [_, _], _ => rfl, fun q hq => nomatch hq⟩
theorem dok_renamed : d_renamed.Ok T := ⟨by kernel_rfl, ⟨rfl, rfl, rfl, by decide +kernel, rfl, by decide +kernel, by decide +kernel⟩, rfl, rfl, fun _ _ _ _ _ _ us hl => match us, hl with | [_, _], _ => rfl, fun q hq => nomatch hq⟩
theorem dok_beside : d_beside.Ok T := ⟨by kernel_rfl, ⟨rfl, rfl, rfl, by decide +kernel, rfl, by decide +kernel, by decide +kernel⟩, rfl, rfl, fun _ _ _ _ _ _ us hl => match us, hl with | [_, _], _ => rfl, fun q hq => by
    simp only [d_beside, List.mem_cons, List.not_mem_nil, or_false] at hq
    rcases hq with rfl
    all_goals exact fun _ _ _ _ _ _ us ws hl hp => match us, hl with
      | [a0, a1], _ => by
        cases hp
        rfl⟩
theorem dok_grafted : d_grafted.Ok T := ⟨by kernel_rfl, ⟨rfl, rfl, rfl, by decide +kernel, rfl, by decide +kernel, by decide +kernel⟩, rfl, rfl, fun _ _ _ _ _ _ us hl => match us, hl with | [_, _, _], _ => rfl, fun q hq => by
    simp only [d_grafted, List.mem_cons, List.not_mem_nil, or_false] at hq
    rcases hq with rfl
    all_goals exact fun _ _ _ _ _ _ us ws hl hp => match us, hl with
      | [a0, a1, a2], _ => by
        cases hp
        rfl⟩
theorem dok_part : d_part.Ok T := ⟨by kernel_rfl, ⟨rfl, rfl, rfl, by decide +kernel, rfl, by decide +kernel, by decide +kernel⟩, rfl, rfl, fun _ _ _ _ _ _ us hl => match us, hl with | [_, _], _ => rfl, fun q hq => by
    simp only [d_part, List.mem_cons, List.not_mem_nil, or_false] at hq
    rcases hq with rfl
    all_goals exact fun _ _ _ _ _ _ us ws hl hp => match us, hl with
      | [a0, a1], _ => by
        cases hp
        rfl⟩
theorem dok_without : d_without.Ok T := ⟨by kernel_rfl, ⟨rfl, rfl, rfl, by decide +kernel, rfl, by decide +kernel, by decide +kernel⟩, rfl, rfl, fun _ _ _ _ _ _ us hl => match us, hl with | [_, _], _ => rfl, fun q hq => by
    simp only [d_without, List.mem_cons, List.not_mem_nil, or_false] at hq
    rcases hq with rfl
    all_goals exact fun _ _ _ _ _ _ us ws hl hp => match us, hl with
      | [a0, a1], _ => by
        cases hp
        rfl⟩
theorem dok_told_ahead : d_told_ahead.Ok T := ⟨by kernel_rfl, ⟨rfl, rfl, rfl, by decide +kernel, rfl, by decide +kernel, by decide +kernel⟩, rfl, rfl, fun _ _ _ _ _ _ us hl => match us, hl with | [_, _, _], _ => rfl, fun q hq => by
    simp only [d_told_ahead, List.mem_cons, List.not_mem_nil, or_false] at hq
    rcases hq with rfl
    all_goals exact fun _ _ _ _ _ _ us ws hl hp => match us, hl with
      | [a0, a1, a2], _ => by
        cases hp
        rfl⟩
theorem dok__law_well : d__law_well.Ok T := ⟨by kernel_rfl, ⟨rfl, rfl, rfl, by decide +kernel, rfl, by decide +kernel, by decide +kernel⟩, rfl, rfl, fun _ _ _ _ _ _ us hl => match us, hl with | [_, _], _ => rfl, fun q hq => nomatch hq⟩
theorem dok__law_draw : d__law_draw.Ok T := ⟨by kernel_rfl, ⟨rfl, rfl, rfl, by decide +kernel, rfl, by decide +kernel, by decide +kernel⟩, rfl, rfl, fun _ _ _ _ _ _ us hl => match us, hl with | [_, _], _ => rfl, fun q hq => nomatch hq⟩
theorem dok__law_forest : d__law_forest.Ok T := ⟨by kernel_rfl, ⟨rfl, rfl, rfl, by decide +kernel, rfl, by decide +kernel, by decide +kernel⟩, rfl, rfl, fun _ _ _ _ _ _ us hl => match us, hl with | [_, _], _ => rfl, fun q hq => nomatch hq⟩
theorem dok__law_broken : d__law_broken.Ok T := ⟨by kernel_rfl, ⟨rfl, rfl, rfl, by decide +kernel, rfl, by decide +kernel, by decide +kernel⟩, rfl, rfl, fun _ _ _ _ _ _ us hl => match us, hl with | [_, _], _ => rfl, fun q hq => nomatch hq⟩
theorem dok__law_odd : d__law_odd.Ok T := ⟨by kernel_rfl, ⟨rfl, rfl, rfl, by decide +kernel, rfl, by decide +kernel, by decide +kernel⟩, rfl, rfl, fun _ _ _ _ _ _ us hl => match us, hl with | [_, _], _ => rfl, fun q hq => nomatch hq⟩
theorem dok__law_called : d__law_called.Ok T := ⟨by kernel_rfl, ⟨rfl, rfl, rfl, by decide +kernel, rfl, by decide +kernel, by decide +kernel⟩, rfl, rfl, fun _ _ _ _ _ _ us hl => match us, hl with | [_, _], _ => rfl, fun q hq => nomatch hq⟩
theorem dok__law_caught : d__law_caught.Ok T := ⟨by kernel_rfl, ⟨rfl, rfl, rfl, by decide +kernel, rfl, by decide +kernel, by decide +kernel⟩, rfl, rfl, fun _ _ _ _ _ _ us hl => match us, hl with | [_, _], _ => rfl, fun q hq => nomatch hq⟩
theorem dok__law_right : d__law_right.Ok T := ⟨by kernel_rfl, ⟨rfl, rfl, rfl, by decide +kernel, rfl, by decide +kernel, by decide +kernel⟩, rfl, rfl, fun _ _ _ _ _ _ us hl => match us, hl with | [_, _], _ => rfl, fun q hq => nomatch hq⟩
theorem dok_law : d_law.Ok T := ⟨by kernel_rfl, ⟨rfl, rfl, rfl, by decide +kernel, rfl, by decide +kernel, by decide +kernel⟩, rfl, rfl, fun _ _ _ _ _ _ us hl => match us, hl with | [_], _ => rfl, fun q hq => nomatch hq⟩
theorem oks : ∀ d ∈ defs, d.Ok T := by
  intro d hd
  simp only [defs, List.mem_cons, List.not_mem_nil, or_false] at hd
  rcases hd with rfl | rfl | rfl | rfl | rfl | rfl | rfl | rfl | rfl | rfl | rfl | rfl | rfl | rfl | rfl | rfl | rfl | rfl | rfl | rfl | rfl | rfl
  · exact dok_is_integer
  · exact dok_is_rooted
  · exact dok_is_forest
  · exact dok_check_forest
  · exact dok_check_thing
  · exact dok_above_of
  · exact dok_moved
  · exact dok_renamed
  · exact dok_beside
  · exact dok_grafted
  · exact dok_part
  · exact dok_without
  · exact dok_told_ahead
  · exact dok__law_well
  · exact dok__law_draw
  · exact dok__law_forest
  · exact dok__law_broken
  · exact dok__law_odd
  · exact dok__law_called
  · exact dok__law_caught
  · exact dok__law_right
  · exact dok_law
def loose0 : List PySem.Str := [("HolderError" : PySem.Str), ("InvalidForest" : PySem.Str), ("InvalidThing" : PySem.Str), ("SameThing" : PySem.Str), ("NoForest" : PySem.Str), ("OnlyThing" : PySem.Str), ("is_integer" : PySem.Str), ("is_rooted" : PySem.Str), ("is_forest" : PySem.Str), ("check_forest" : PySem.Str), ("check_thing" : PySem.Str), ("above_of" : PySem.Str), ("moved" : PySem.Str), ("renamed" : PySem.Str), ("beside" : PySem.Str), ("grafted" : PySem.Str), ("part" : PySem.Str), ("without" : PySem.Str), ("told_ahead" : PySem.Str), ("_law_well" : PySem.Str), ("_law_draw" : PySem.Str), ("_law_forest" : PySem.Str), ("_law_broken" : PySem.Str), ("_law_odd" : PySem.Str), ("_law_called" : PySem.Str), ("_law_caught" : PySem.Str), ("_law_right" : PySem.Str)]
def loose : List PySem.Str := loose0
abbrev fa : List He.Fa := faOf defs bls
abbrev fn : List He.DefD := fnOfs defs
abbrev hk : PySem.W.Hook := hookS 4 fa fn T
def ob (s : PySem.W.SharedT) : He.AlD × Bool × Bool := obsS 4 fa fn T s
theorem ob_eq (s : PySem.W.SharedT) : ob s = hk.obs s.abs := obsS_eq s
theorem run (w : World) : HandSHeadRun.RunEq R (PySem.W.view R.prog [32]) hk ob 6000 loose w := by
  intro os
  kernel_rfl
def F (n : Nat) : Fn := runF (prgOf defs) 4000 n
theorem run_at (n i : Nat) (d : Df) (h : prgOf defs i = some d) : F (n + 1) i = runD (F n) 4000 d := by
  funext o ds
  show (match prgOf defs i with
    | some d => runD (runF (prgOf defs) 4000 n) 4000 d o ds
    | none => none) = _
  rw [h]
  rfl
section
variable (n : Nat)
theorem t__law_well : Sp_well (F (n + 1) 3) := by
  rw [run_at _ 3 _ rfl]
  exact ok_well 
theorem t__law_draw : DrawOk (F (n + 1) 4) := by
  rw [run_at _ 4 _ rfl]
  exact draw_ok 
theorem t__law_forest : Sp_forest (F (n + 2) 5) := by
  rw [run_at _ 5 _ rfl]
  exact ok_forest (t__law_draw (n + 0))
theorem t__law_broken : Sp_broken (F (n + 2) 280) := by
  rw [run_at _ 280 _ rfl]
  exact ok_broken (t__law_draw (n + 0))
theorem t__law_odd : Sp_odd (F (n + 2) 430) := by
  rw [run_at _ 430 _ rfl]
  exact ok_odd (t__law_draw (n + 0))
theorem t_is_integer : Sp_is_integer (F (n + 1) 0) := by
  rw [run_at _ 0 _ rfl]
  exact ok_is_integer 
theorem t_is_rooted : Sp_is_rooted (F (n + 1) 1) := by
  rw [run_at _ 1 _ rfl]
  exact ok_is_rooted 
theorem t_is_forest : Sp_is_forest (F (n + 2) 2) := by
  rw [run_at _ 2 _ rfl]
  exact ok_is_forest (t_is_integer (n + 0)) (t_is_rooted (n + 0))
theorem t_check_forest : Sp_check_forest (F (n + 3) 10) := by
  rw [run_at _ 10 _ rfl]
  exact ok_check_forest (t_is_forest (n + 0))
theorem t_moved : Sp_moved (F (n + 1) 318) := by
  rw [run_at _ 318 _ rfl]
  exact ok_moved 
theorem t_beside : Sp_beside (F (n + 4) 320) := by
  rw [run_at _ 320 _ rfl]
  exact ok_beside (t_check_forest (n + 0)) (t_moved (n + 2))
theorem t_check_thing : Sp_check_thing (F (n + 2) 11) := by
  rw [run_at _ 11 _ rfl]
  exact ok_check_thing (t_is_integer (n + 0))
theorem t_grafted : Sp_grafted (F (n + 4) 321) := by
  rw [run_at _ 321 _ rfl]
  exact ok_grafted (t_check_forest (n + 0)) (t_check_thing (n + 1)) (t_moved (n + 2))
theorem t_above_of : Sp_above_of (F (n + 1) 12) := by
  rw [run_at _ 12 _ rfl]
  exact ok_above_of 
theorem t_renamed : RenOk (F (n + 1) 319) := by
  rw [run_at _ 319 _ rfl]
  exact ok_renamed 
theorem t_part : Sp_part (F (n + 4) 322) := by
  rw [run_at _ 322 _ rfl]
  exact ok_part (t_check_forest (n + 0)) (t_check_thing (n + 1)) (t_above_of (n + 2)) (t_renamed (n + 2))
theorem t_without : Sp_without (F (n + 4) 323) := by
  rw [run_at _ 323 _ rfl]
  exact ok_without (t_check_forest (n + 0)) (t_check_thing (n + 1)) (t_renamed (n + 2))
theorem t_told_ahead : Sp_told_ahead (F (n + 4) 422) := by
  rw [run_at _ 422 _ rfl]
  exact ok_told_ahead (t_check_forest (n + 0)) (t_check_thing (n + 1)) (t_above_of (n + 2))
theorem t__law_called : Sp_called47 (F (n + 5) 431) := by
  rw [run_at _ 431 _ rfl]
  exact ok_called47 (t_beside (n + 0)) (t_grafted (n + 0)) (t_part (n + 0)) (t_without (n + 0)) (t_told_ahead (n + 0))
theorem t__law_caught : Sp_caught47 (F (n + 6) 432) := by
  rw [run_at _ 432 _ rfl]
  exact ok_caught47 (t__law_called (n + 0))
theorem t__law_right : Sp_right47 (F (n + 7) 433) := by
  rw [run_at _ 433 _ rfl]
  exact ok_r47 (t__law_draw (n + 5)) (t__law_forest (n + 4)) (t__law_broken (n + 4)) (t__law_odd (n + 4)) (t__law_caught (n + 0))
theorem t_law : Sp_law (F (n + 8) 434) := by
  rw [run_at _ 434 _ rfl]
  exact ok_law47 (t__law_well (n + 6)) (t__law_right (n + 0))
end
theorem pure_law (zs : List Int) (h : zs.length ≤ 63) : runF (prgOf defs) 4000 (8 + 1) 434 none [.frz (zs.map .int)] = some (.ok (.val (.bl true)) none) :=
  t_law 1 zs h
end HB.k47
open PySem PySem.W PySem.Calls PyProof.Rows
theorem PySem.Challenge.cw_heldbehind_k47_errors_of_changes_holds : PySem.Challenge.rw_heldbehind_k47_errors_of_changes.Holds := by
  w_on; o_law
  refine HandSHeadRun.head_any (r := HB.k47.R) (q := view HB.k47.R.prog [32]) (H := HB.k47.hk) (ob := HB.k47.ob) (M := 6000) (loose := HB.k47.loose) (d := HandSHeadRun.topDef HB.k47.R.prog 32) (kwd := []) HB.k47.ob_eq
    (by kernel_rfl) (fun s => by kernel_rfl) HB.k47.run (by kernel_rfl) (by kernel_rfl) (by kernel_rfl) (by rfl) (by first | assumption | decide +kernel) (by decide +kernel) ⟨rfl, rfl, rfl, rfl, rfl, by decide +kernel⟩ ?hw ?hc
  case hw => w_witness2
  case hc =>
    exact HB.walk_hb (l := PySem.Challenge.rw_heldbehind_k47_errors_of_changes) (m := 63) 4 HB.k47.defs HB.k47.cls HB.k47.bls HB.k47.sub 4000 8 HB.k47.d_law rfl (by decide) (by kernel_rfl) ⟨rfl, by decide, by decide⟩ HB.k47.oks (by decide +kernel) (by decide +kernel) (by simp [HB.k47.defs]) rfl (by kernel_rfl) HB.k47.pure_law
