import PyProof.Rows.All
import Wide.All
import OpenK.AllK
import Wide.FinOn
import HandS.ForMost
import HandS.ForExc
import HandS.Flow
import HandS.TupAny
import HandS.Deep
import HandS.ExcCtx
import HandS.SetFor
import HandS.IsInst
import HandS.ExcIs
import HandS.SuiteRaise
import HandS.RaiseFrom
import KE.RegKIsAll
import KE.RegKTryMore
import PySem.Challenge.RW_tidinghall_k02_whole_covers
set_option Elab.async false
set_option linter.all false
set_option autoImplicit false
set_option maxRecDepth 100000
set_option maxHeartbeats 4000000
/-! A layer of values over the hand layer: data that never changes is a plain value (Dt), what changes stands in a store (Mo) by number. -/
namespace Pd
open PySem L2

inductive Dt where
  | non | bl (b : Bool) | int (i : Int) | str (x : Str) | tup (l : List Dt) | lst (l : List Dt) | lsk (l : List Dt) | obj (i : Nat) | exc (c : Nat)
inductive Mo where
  | lst (l : List Dt) | ins (c : Nat) (fs : List Dt) | dic (kvs : List (Key × Dt)) | dit (kvs : List (List Key × Dt))
abbrev Sto := List Mo
inductive Out (α : Type) where
  | ok (a : α) (s : Sto) | exc (c : Nat) (s : Sto) | bad
/-- the classes by number: name, attributes in the order of their first store -/
abbrev Cn := Nat → Str × List Str
structure Wd where
  K : PySem.W.Frag
  mg : Str → Option Value
  J : Cn
abbrev Wd.cl (Γ : Wd) (c : Nat) (C : Addr) : Prop := Γ.mg (Γ.J c).1 = some (.ref C)
def ExH (C : Addr) (a : Addr) : HO := .ext fun h => ∃ (oe : Obj) (vs : Array Value), h.get? a = some oe ∧ Zc (.ref C) none oe ∧ oe.data = .fields vs
/-- texts as they may be here -/
def sok (x : Str) : Bool := PyData.strOk x && decide (x.length ≤ 1000000)
section
variable (Γ : Wd) (ρ : List Addr) (F : Hp)
mutual
def Den : Dt → V → Prop
  | .non, v => v = .non
  | .bl b, v => v = .bl b
  | .int i, v => v = .int i
  | .str x, v => v = .str x ∧ sok x = true
  | .tup l, v => l.length ≤ sizeLine ∧ ∃ a xs, v = .ref a ∧ SqT Γ.K F a xs ∧ Dens l xs
  | .lst l, v => l.length ≤ sizeLine ∧ ∃ a xs, v = .ref a ∧ F a = some (.lst xs) ∧ Dens l xs
  | .lsk l, v => l.length ≤ sizeLine ∧ ∃ a xs, v = .ref a ∧ SqL Γ.K F a xs ∧ Dens l xs
  | .obj i, v => ∃ a, v = .ref a ∧ ρ[i]? = some a
  | .exc c, v => ∃ a C, v = .ref a ∧ Γ.cl c C ∧ F a = some (ExH C a)
def Dens : List Dt → List V → Prop
  | [], vs => vs = []
  | d :: ds, vs => ∃ v r, vs = v :: r ∧ Den d v ∧ Dens ds r
end
def DenK {κ : Type} : List (κ × Dt) → List (κ × V) → Prop
  | [], vs => vs = []
  | (f, d) :: ds, vs => ∃ v r, vs = (f, v) :: r ∧ Den Γ ρ F d v ∧ DenK ds r
def MoOk (H : Hp) (a : Addr) : Mo → Prop
  | .lst l => l.length ≤ sizeLine ∧ ∃ xs, H a = some (.lst xs) ∧ Dens Γ ρ F l xs
  | .ins c fs => ∃ C dx vs, Γ.cl c C ∧ H a = some (.ins C dx ((Γ.J c).2.zip vs)) ∧ Dens Γ ρ F fs vs ∧ fs.length ≤ (Γ.J c).2.length ∧ (Γ.J c).2.length < 1000
  | .dic kvs => kvs.length ≤ sizeLine ∧ ∃ vs, H a = some (.dK vs) ∧ DenK Γ ρ F kvs vs
  | .dit kvs => kvs.length ≤ sizeLine ∧ ∃ vs, H a = some (.dT vs) ∧ DenK Γ ρ F kvs vs
end
structure LD (ρ : List Addr) (F : Hp) (ρ' : List Addr) (F' : Hp) : Prop where
  pre : ∃ r, ρ' = ρ ++ r
  sub : ∀ a o, F a = some o → F' a = some o
theorem LD.refl {ρ : List Addr} {F : Hp} : LD ρ F ρ F := ⟨⟨[], by simp⟩, fun _ _ h => h⟩
theorem LD.trans {ρ ρ1 ρ2 : List Addr} {F F1 F2 : Hp} (a : LD ρ F ρ1 F1) (b : LD ρ1 F1 ρ2 F2) : LD ρ F ρ2 F2 := by
  obtain ⟨⟨r, e⟩, h⟩ := a
  obtain ⟨⟨r2, e2⟩, h2⟩ := b
  exact ⟨⟨r ++ r2, by rw [e2, e, List.append_assoc]⟩, fun a o q => h2 a o (h a o q)⟩
theorem LD.get {ρ ρ1 : List Addr} {F F1 : Hp} (a : LD ρ F ρ1 F1) {i : Nat} {x : Addr} (h : ρ[i]? = some x) : ρ1[i]? = some x := by
  obtain ⟨⟨r, e⟩, _⟩ := a
  rw [e, List.getElem?_append_left (List.getElem?_eq_some_iff.mp h).1]
  exact h
theorem rd_sub {F F1 : Hp} {a : Addr} {u : HO} (h : ∀ a o, F a = some o → F1 a = some o) (r : Rd F a u) : Rd F1 a u := by
  rcases r with r | ⟨o, r⟩
  · exact .inl (h _ _ r)
  · exact .inr ⟨o, h _ _ r⟩
theorem sqL_sub {K : PySem.W.Frag} {F F1 : Hp} {a : Addr} {xs : List V} (h : ∀ a o, F a = some o → F1 a = some o) (r : SqL K F a xs) : SqL K F1 a xs := by
  rcases r with r | r
  · exact .inl (rd_sub h r)
  · exact .inr r
theorem sqT_sub {K : PySem.W.Frag} {F F1 : Hp} {a : Addr} {xs : List V} (h : ∀ a o, F a = some o → F1 a = some o) (r : SqT K F a xs) : SqT K F1 a xs := by
  rcases r with r | r
  · exact .inl (rd_sub h r)
  · exact .inr r
section
variable {Γ : Wd} {ρ ρ1 : List Addr} {F F1 : Hp}
mutual
theorem Den.monoD (l : LD ρ F ρ1 F1) : ∀ (d : Dt) (v : V), Den Γ ρ F d v → Den Γ ρ1 F1 d v
  | .non, v, h => by simpa only [Den] using h
  | .bl b, v, h => by simpa only [Den] using h
  | .int i, v, h => by simpa only [Den] using h
  | .str x, v, h => by simpa only [Den] using h
  | .tup ds, v, h => by
    simp only [Den] at h ⊢
    obtain ⟨z, a, xs, e, q, r⟩ := h
    exact ⟨z, a, xs, e, sqT_sub l.sub q, Dens.monoD l ds xs r⟩
  | .lst ds, v, h => by
    simp only [Den] at h ⊢
    obtain ⟨z, a, xs, e, q, r⟩ := h
    exact ⟨z, a, xs, e, l.sub _ _ q, Dens.monoD l ds xs r⟩
  | .lsk ds, v, h => by
    simp only [Den] at h ⊢
    obtain ⟨z, a, xs, e, q, r⟩ := h
    exact ⟨z, a, xs, e, sqL_sub l.sub q, Dens.monoD l ds xs r⟩
  | .obj i, v, h => by
    simp only [Den] at h ⊢
    obtain ⟨a, e, q⟩ := h
    exact ⟨a, e, l.get q⟩
  | .exc c, v, h => by
    simp only [Den] at h ⊢
    obtain ⟨a, C, e, q, r⟩ := h
    exact ⟨a, C, e, q, l.sub _ _ r⟩
theorem Dens.monoD (l : LD ρ F ρ1 F1) : ∀ (ds : List Dt) (vs : List V), Dens Γ ρ F ds vs → Dens Γ ρ1 F1 ds vs
  | [], vs, h => by simpa only [Dens] using h
  | d :: ds, vs, h => by
    simp only [Dens] at h ⊢
    obtain ⟨v, r, e, q, t⟩ := h
    exact ⟨v, r, e, Den.monoD l d v q, Dens.monoD l ds r t⟩
end
theorem DenK.monoD {κ : Type} (l : LD ρ F ρ1 F1) : ∀ {ds : List (κ × Dt)} {vs : List (κ × V)}, DenK Γ ρ F ds vs → DenK Γ ρ1 F1 ds vs
  | [], vs, h => h
  | (f, d) :: ds, vs, h => by
    obtain ⟨v, r, e, q, t⟩ := h
    exact ⟨v, r, e, Den.monoD l d v q, DenK.monoD l t⟩
theorem MoOk.mono (l : LD ρ F ρ1 F1) {H H1 : Hp} {a : Addr} (e : H1 a = H a) : ∀ {mo : Mo}, MoOk Γ ρ F H a mo → MoOk Γ ρ1 F1 H1 a mo
  | .lst ds, ⟨z, xs, h, q⟩ => ⟨z, xs, by rw [e]; exact h, Dens.monoD l _ _ q⟩
  | .ins c fs, ⟨C, dx, vs, g, h, q, z⟩ => ⟨C, dx, vs, g, by rw [e]; exact h, Dens.monoD l _ _ q, z⟩
  | .dic kvs, ⟨z, vs, h, q⟩ => ⟨z, vs, by rw [e]; exact h, DenK.monoD l q⟩
  | .dit kvs, ⟨z, vs, h, q⟩ => ⟨z, vs, by rw [e]; exact h, DenK.monoD l q⟩
end
theorem MoOk.there {Γ : Wd} {ρ : List Addr} {F H : Hp} {a : Addr} : ∀ {mo : Mo}, MoOk Γ ρ F H a mo → ∃ o, H a = some o
  | .lst ds, ⟨_, xs, h, q⟩ => ⟨_, h⟩
  | .ins c fs, ⟨C, dx, vs, g, h, q⟩ => ⟨_, h⟩
  | .dic kvs, ⟨_, vs, h, q⟩ => ⟨_, h⟩
  | .dit kvs, ⟨_, vs, h, q⟩ => ⟨_, h⟩
structure G (Γ : Wd) (ρ : List Addr) (F : Hp) (s : Sto) (H : Hp) : Prop where
  sub : ∀ a o, F a = some o → H a = some o
  len : ρ.length = s.length
  nd : ρ.Nodup
  sep : ∀ a ∈ ρ, F a = none
  at_ : ∀ (i : Nat) (a : Addr) (mo : Mo), ρ[i]? = some a → s[i]? = some mo → MoOk Γ ρ F H a mo
section
variable {Γ : Wd} {ρ ρ1 : List Addr} {F F1 H : Hp} {s : Sto}
theorem G.ex (g : G Γ ρ F s H) {a : Addr} (h : a ∈ ρ) : ∃ o, H a = some o := by
  obtain ⟨i, hi, e⟩ := List.mem_iff_getElem.mp h
  have hs : i < s.length := by rw [← g.len]; exact hi
  exact (g.at_ i a s[i] (by rw [← e]; exact List.getElem?_eq_getElem hi) (List.getElem?_eq_getElem hs)).there
theorem G.new_ne (g : G Γ ρ F s H) {p : Addr} (hp : H p = none) {a : Addr} (h : a ∈ ρ) : a ≠ p := fun e => by
  obtain ⟨o, q⟩ := g.ex h
  rw [e, hp] at q
  cases q
theorem G.fnone (g : G Γ ρ F s H) {p : Addr} (hp : H p = none) : F p = none := by
  cases e : F p with
  | none => rfl
  | some o => rw [g.sub _ _ e] at hp; cases hp
theorem LD.upd {p : Addr} {o : HO} (h : F p = none) : LD ρ F ρ (upd F p o) := ⟨⟨[], by simp⟩, fun a u e => by rw [upd_ne (fun z => by rw [z, h] at e; cases e)]; exact e⟩
theorem LD.push {p : Addr} : LD ρ F (ρ ++ [p]) F := ⟨⟨[p], rfl⟩, fun _ _ e => e⟩
/-- a new object that never changes -/
theorem G.frz (g : G Γ ρ F s H) {p : Addr} (o : HO) (hp : H p = none) : G Γ ρ (upd F p o) s (upd H p o) where
  sub := fun a u e => by
    by_cases h : a = p
    · subst h; rw [upd_same] at e ⊢; exact e
    · rw [upd_ne h] at e ⊢; exact g.sub _ _ e
  len := g.len
  nd := g.nd
  sep := fun a h => by rw [upd_ne (g.new_ne hp h)]; exact g.sep a h
  at_ := fun i a mo h1 h2 => (g.at_ i a mo h1 h2).mono (LD.upd (g.fnone hp)) (upd_ne (g.new_ne hp (List.mem_of_getElem? h1)))
/-- a new object that is forgotten at once -/
theorem G.skip (g : G Γ ρ F s H) {p : Addr} (o : HO) (hp : H p = none) : G Γ ρ F s (upd H p o) where
  sub := fun a u e => by
    rw [upd_ne (fun z => by rw [z, g.fnone hp] at e; cases e)]; exact g.sub _ _ e
  len := g.len
  nd := g.nd
  sep := g.sep
  at_ := fun i a mo h1 h2 => (g.at_ i a mo h1 h2).mono LD.refl (upd_ne (g.new_ne hp (List.mem_of_getElem? h1)))
/-- a new object of the store -/
theorem G.new (g : G Γ ρ F s H) {p : Addr} {o : HO} {mo : Mo} (hp : H p = none) (hm : MoOk Γ (ρ ++ [p]) F (upd H p o) p mo) : G Γ (ρ ++ [p]) F (s ++ [mo]) (upd H p o) where
  sub := fun a u e => by
    rw [upd_ne (fun z => by rw [z, g.fnone hp] at e; cases e)]; exact g.sub _ _ e
  len := by simp [g.len]
  nd := by
    refine List.nodup_append.mpr ⟨g.nd, by simp, fun a ha b hb => ?_⟩
    rw [List.mem_singleton] at hb
    rw [hb]
    exact g.new_ne hp ha
  sep := fun a h => by
    rcases List.mem_append.mp h with h | h
    · exact g.sep a h
    · rw [List.mem_singleton] at h; rw [h]; exact g.fnone hp
  at_ := fun i a m h1 h2 => by
    by_cases hi : i < ρ.length
    · rw [List.getElem?_append_left hi] at h1
      rw [List.getElem?_append_left (by rw [← g.len]; exact hi)] at h2
      exact (g.at_ i a m h1 h2).mono LD.push (upd_ne (g.new_ne hp (List.mem_of_getElem? h1)))
    · rw [List.getElem?_append_right (by omega)] at h1
      rw [List.getElem?_append_right (by rw [← g.len]; omega)] at h2
      have e0 : i - ρ.length = 0 := by
        have := (List.getElem?_eq_some_iff.mp h1).1
        simp at this
        omega
      rw [e0] at h1
      rw [← g.len, e0] at h2
      have e1 : p = a := Option.some.inj h1
      have e2 : mo = m := Option.some.inj h2
      subst e1; subst e2
      exact hm
/-- an object of the store is written -/
theorem G.put (g : G Γ ρ F s H) {i : Nat} {a : Addr} {o : HO} {mo : Mo} (hi : ρ[i]? = some a) (hm : MoOk Γ ρ F (upd H a o) a mo) : G Γ ρ F (s.set i mo) (upd H a o) where
  sub := fun b u e => by
    rw [upd_ne (fun z => by rw [z, g.sep a (List.mem_of_getElem? hi)] at e; cases e)]; exact g.sub _ _ e
  len := by rw [List.length_set]; exact g.len
  nd := g.nd
  sep := g.sep
  at_ := fun j b m h1 h2 => by
    by_cases hj : i = j
    · subst hj
      have e : a = b := Option.some.inj (hi.symm.trans h1)
      subst e
      have hl : i < s.length := by rw [← g.len]; exact (List.getElem?_eq_some_iff.mp hi).1
      rw [List.getElem?_set_self hl] at h2
      cases h2
      exact hm
    · rw [List.getElem?_set_ne hj] at h2
      refine (g.at_ j b m h1 h2).mono LD.refl (upd_ne fun z => hj ?_)
      subst z
      exact nd_ix g.nd hi h1
end
/-- what may have come to pass: more is known, what was not the store's stands as it stood -/
structure LE (ρ : List Addr) (F H : Hp) (ρ' : List Addr) (F' H' : Hp) : Prop where
  ld : LD ρ F ρ' F'
  fr : ∀ a, a ∈ ρ' → a ∈ ρ ∨ H a = none
  ff : ∀ a o, F' a = some o → (∃ u, F a = some u) ∨ H a = none
  keep : ∀ a o, H a = some o → a ∉ ρ → H' a = some o
  there : ∀ a o, H a = some o → ∃ u, H' a = some u
theorem LE.refl {ρ : List Addr} {F H : Hp} : LE ρ F H ρ F H := ⟨LD.refl, fun _ h => .inl h, fun _ o h => .inl ⟨o, h⟩, fun _ _ h _ => h, fun _ o h => ⟨o, h⟩⟩
theorem LE.gone {ρ ρ1 : List Addr} {F H F1 H1 : Hp} (l : LE ρ F H ρ1 F1 H1) {a : Addr} (h : H1 a = none) : H a = none := by
  cases e : H a with
  | none => rfl
  | some o =>
    obtain ⟨u, q⟩ := l.there a o e
    rw [h] at q
    cases q
theorem LE.sub {ρ ρ1 : List Addr} {F H F1 H1 : Hp} (l : LE ρ F H ρ1 F1 H1) {a : Addr} (h : a ∈ ρ) : a ∈ ρ1 := by
  obtain ⟨r, e⟩ := l.ld.pre
  rw [e]
  exact List.mem_append_left _ h
theorem LE.trans {ρ ρ1 ρ2 : List Addr} {F F1 F2 H H1 H2 : Hp} (a : LE ρ F H ρ1 F1 H1) (b : LE ρ1 F1 H1 ρ2 F2 H2) : LE ρ F H ρ2 F2 H2 where
  ld := a.ld.trans b.ld
  fr := fun x h => by
    rcases b.fr x h with h | h
    · exact a.fr x h
    · exact .inr (a.gone h)
  ff := fun x o h => by
    rcases b.ff x o h with ⟨u, h⟩ | h
    · exact a.ff x u h
    · exact .inr (a.gone h)
  keep := fun x o h n => b.keep x o (a.keep x o h n) fun z => by
    rcases a.fr x z with z | z
    · exact n z
    · rw [h] at z; cases z
  there := fun x o h => by
    obtain ⟨u, q⟩ := a.there x o h
    exact b.there x u q
theorem Den.mono {Γ : Wd} {ρ ρ1 : List Addr} {F F1 H H1 : Hp} (l : LE ρ F H ρ1 F1 H1) (d : Dt) (v : V) (h : Den Γ ρ F d v) : Den Γ ρ1 F1 d v := Den.monoD l.ld d v h
theorem Dens.mono {Γ : Wd} {ρ ρ1 : List Addr} {F F1 H H1 : Hp} (l : LE ρ F H ρ1 F1 H1) (d : List Dt) (v : List V) (h : Dens Γ ρ F d v) : Dens Γ ρ1 F1 d v := Dens.monoD l.ld d v h
section
variable {Γ : Wd} {ρ : List Addr} {F H : Hp} {s : Sto}
theorem upd_keep {a p : Addr} {o u : HO} (hp : H p = none) (h : H a = some o) : upd H p u a = some o := by rw [upd_ne (ne_of_none h hp)]; exact h
theorem LE.frz (g : G Γ ρ F s H) {p : Addr} {o : HO} (hp : H p = none) : LE ρ F H ρ (upd F p o) (upd H p o) where
  ld := LD.upd (g.fnone hp)
  fr := fun _ h => .inl h
  ff := fun a u h => by
    by_cases e : a = p
    · subst e; exact .inr hp
    · rw [upd_ne e] at h; exact .inl ⟨u, h⟩
  keep := fun a u h _ => upd_keep hp h
  there := fun a u h => ⟨u, upd_keep hp h⟩
theorem LE.new {p : Addr} {o : HO} (hp : H p = none) : LE ρ F H (ρ ++ [p]) F (upd H p o) where
  ld := LD.push
  fr := fun a h => by
    rcases List.mem_append.mp h with h | h
    · exact .inl h
    · rw [List.mem_singleton] at h; rw [h]; exact .inr hp
  ff := fun a u h => .inl ⟨u, h⟩
  keep := fun a u h _ => upd_keep hp h
  there := fun a u h => ⟨u, upd_keep hp h⟩
theorem LE.skip {p : Addr} {o : HO} (hp : H p = none) : LE ρ F H ρ F (upd H p o) where
  ld := LD.refl
  fr := fun _ h => .inl h
  ff := fun a u h => .inl ⟨u, h⟩
  keep := fun a u h _ => upd_keep hp h
  there := fun a u h => ⟨u, upd_keep hp h⟩
theorem LE.put {a : Addr} {o : HO} (ha : a ∈ ρ) : LE ρ F H ρ F (upd H a o) where
  ld := LD.refl
  fr := fun _ h => .inl h
  ff := fun a u h => .inl ⟨u, h⟩
  keep := fun b u h n => by rw [upd_ne (fun e => n (by rw [e]; exact ha))]; exact h
  there := fun b u h => by
    by_cases e : b = a
    · subst e; exact ⟨o, upd_same⟩
    · exact ⟨u, by rw [upd_ne e]; exact h⟩
/-- an object that is neither the store's nor known is written -/
theorem G.other (g : G Γ ρ F s H) {p : Addr} (o : HO) (hp : p ∉ ρ) (hf : F p = none) : G Γ ρ F s (upd H p o) where
  sub := fun a u e => by
    rw [upd_ne (fun z => by rw [z, hf] at e; cases e)]; exact g.sub _ _ e
  len := g.len
  nd := g.nd
  sep := g.sep
  at_ := fun i a mo h1 h2 => (g.at_ i a mo h1 h2).mono LD.refl (upd_ne fun z => hp (by rw [← z]; exact List.mem_of_getElem? h1))
end
/-! ### meanings -/
abbrev En := List (Option Dt)
abbrev Ex := En → Sto → Out Dt
abbrev Tx := En → Sto → Out Bool
inductive Fl where
  | nx (e : En) | rt (d : Dt) | bk (e : En) | ct (e : En)
inductive Res where
  | fl (f : Fl) (s : Sto) | exc (c : Nat) (e : En) (s : Sto) | bad
abbrev Sx := En → Sto → Res
structure Sl (Γ : Wd) (ρ : List Addr) (F : Hp) (env : En) (σ : St) : Prop where
  len : env.length = σ.length
  at_ : ∀ (i : Nat) (d : Dt), env[i]? = some (some d) → ∃ v : V, σ[i]? = some (some v) ∧ Den Γ ρ F d v
theorem Sl.mono {Γ : Wd} {ρ ρ1 : List Addr} {F F1 H H1 : Hp} {env : En} {σ : St} (h : Sl Γ ρ F env σ) (l : LE ρ F H ρ1 F1 H1) : Sl Γ ρ1 F1 env σ :=
  ⟨h.len, fun i d e => by obtain ⟨v, q, r⟩ := h.at_ i d e; exact ⟨v, q, Den.mono l d v r⟩⟩
theorem Sl.set {Γ : Wd} {ρ : List Addr} {F : Hp} {env : En} {σ : St} (h : Sl Γ ρ F env σ) {d : Dt} {v : V} (r : Den Γ ρ F d v) (i : Nat) : Sl Γ ρ F (env.set i (some d)) (σ.set i (some v)) := by
  refine ⟨by rw [List.length_set, List.length_set]; exact h.len, fun j e q => ?_⟩
  by_cases hj : i = j
  · subst hj
    have hl : i < env.length := by
      have := (List.getElem?_eq_some_iff.mp q).1
      rw [List.length_set] at this
      exact this
    rw [List.getElem?_set_self hl] at q
    have e1 : d = e := by injection q with q; injection q
    subst e1
    exact ⟨v, List.getElem?_set_self (by rw [← h.len]; exact hl), r⟩
  · rw [List.getElem?_set_ne hj] at q
    rw [List.getElem?_set_ne hj]
    exact h.at_ j e q
theorem Sl.unset {Γ : Wd} {ρ : List Addr} {F : Hp} {env : En} {σ : St} (h : Sl Γ ρ F env σ) (i : Nat) : Sl Γ ρ F (env.set i none) (σ.set i none) := by
  refine ⟨by rw [List.length_set, List.length_set]; exact h.len, fun j e q => ?_⟩
  by_cases hj : i = j
  · subst hj
    have hl : i < env.length := by
      have := (List.getElem?_eq_some_iff.mp q).1
      rw [List.length_set] at this
      exact this
    rw [List.getElem?_set_self hl] at q
    injection q with q
    cases q
  · rw [List.getElem?_set_ne hj] at q
    rw [List.getElem?_set_ne hj]
    exact h.at_ j e q
/-- what is to be shown behind an outcome -/
def Po {α β : Type} (Γ : Wd) (Rl : List Addr → Hp → α → β → Prop) (ρ : List Addr) (F H : Hp) (Q : β → Hp → Prop) (E : Value → Hp → Prop) : Out α → Prop
  | .ok d s => ∀ ρ' F' H' v, LE ρ F H ρ' F' H' → G Γ ρ' F' s H' → Rl ρ' F' d v → Q v H'
  | .exc c s => ∀ ρ' F' H' C, LE ρ F H ρ' F' H' → G Γ ρ' F' s H' → Γ.cl c C → E (.ref C) H'
  | .bad => False
abbrev EPo (Γ : Wd) := Po Γ (Den Γ)
abbrev APo (Γ : Wd) := Po Γ (Dens Γ)
abbrev BPo (Γ : Wd) := Po Γ (fun _ _ (a : Bool) (b : Bool) => a = b)
theorem Po.mono {α β : Type} {Γ : Wd} {Rl : List Addr → Hp → α → β → Prop} {ρ ρ1 : List Addr} {F F1 H H1 : Hp} {Q Q' : β → Hp → Prop} {E E' : Value → Hp → Prop} (l : LE ρ F H ρ1 F1 H1) (hq : ∀ v H, Q v H → Q' v H) (he : ∀ v H, E v H → E' v H) :
    ∀ {o : Out α}, Po Γ Rl ρ F H Q E o → Po Γ Rl ρ1 F1 H1 Q' E' o
  | .ok d s, h => fun ρ' F' H' v l' g r => hq _ _ (h ρ' F' H' v (l.trans l') g r)
  | .exc c s, h => fun ρ' F' H' C l' g r => he _ _ (h ρ' F' H' C (l.trans l') g r)
  | .bad, h => h
/-- one computation behind another -/
def bnd {α β : Type} (m : Sto → Out α) (k : α → Sto → Out β) (s : Sto) : Out β := match m s with
  | .ok a s' => k a s'
  | .exc c s' => .exc c s'
  | .bad => .bad
@[simp] theorem bnd_ok {α β : Type} {m : Sto → Out α} {k : α → Sto → Out β} {s s' : Sto} {a : α} (h : m s = .ok a s') : bnd m k s = k a s' := by unfold bnd; rw [h]
theorem Po.bind {α β γ δ : Type} {Γ : Wd} {R1 : List Addr → Hp → α → β → Prop} {R2 : List Addr → Hp → γ → δ → Prop} {ρ : List Addr} {F H : Hp} {Q : δ → Hp → Prop} {Q1 : β → Hp → Prop} {E : Value → Hp → Prop} {m : Sto → Out α} {k : α → Sto → Out γ} {s : Sto}
    (h : Po Γ R2 ρ F H Q E (bnd m k s)) (hk : ∀ a s' ρ' F' H' v, m s = .ok a s' → LE ρ F H ρ' F' H' → G Γ ρ' F' s' H' → R1 ρ' F' a v → Po Γ R2 ρ' F' H' Q E (k a s') → Q1 v H') : Po Γ R1 ρ F H Q1 E (m s) := by
  unfold bnd at h
  cases e : m s with
  | ok a s' =>
    rw [e] at h
    exact fun ρ' F' H' v l g r => hk a s' ρ' F' H' v e l g r (h.mono l (fun _ _ q => q) fun _ _ q => q)
  | exc c s' => rw [e] at h; exact h
  | bad => rw [e] at h; exact h
/-- the readings that a meaning gives -/
def tE (Γ : Wd) (W : WX) (f : Ex) : TE := fun σ H Q => ∃ env ρ F s, G Γ ρ F s H ∧ Sl Γ ρ F env σ ∧ EPo Γ ρ F H Q (fun c H' => W c none σ H') (f env s)
def tT (Γ : Wd) (W : WX) (f : Tx) : TT := fun σ H Q => ∃ env ρ F s, G Γ ρ F s H ∧ Sl Γ ρ F env σ ∧ BPo Γ ρ F H Q (fun c H' => W c none σ H') (f env s)
/-- several, from the left -/
def evs : List Ex → En → Sto → Out (List Dt)
  | [], _, s => .ok [] s
  | f :: fs, env, s => bnd (f env) (fun d => bnd (evs fs env) fun ds s => .ok (d :: ds) s) s
def tA (Γ : Wd) (W : WX) (f : List Ex) : TA := fun σ H Q => ∃ env ρ F s, G Γ ρ F s H ∧ Sl Γ ρ F env σ ∧ APo Γ ρ F H Q (fun c H' => W c none σ H') (evs f env s)
def FPo (Γ : Wd) (W : WX) (ρ : List Addr) (F H : Hp) (D : Ends) : Res → Prop
  | .fl (.nx e) s => ∀ ρ' F' H' σ, LE ρ F H ρ' F' H' → G Γ ρ' F' s H' → Sl Γ ρ' F' e σ → D.nx σ H'
  | .fl (.rt d) s => ∀ ρ' F' H' v, LE ρ F H ρ' F' H' → G Γ ρ' F' s H' → Den Γ ρ' F' d v → D.rt v H'
  | .fl (.bk e) s => ∀ ρ' F' H' σ, LE ρ F H ρ' F' H' → G Γ ρ' F' s H' → Sl Γ ρ' F' e σ → D.bk σ H'
  | .fl (.ct e) s => ∀ ρ' F' H' σ, LE ρ F H ρ' F' H' → G Γ ρ' F' s H' → Sl Γ ρ' F' e σ → D.ct σ H'
  | .exc c e s => ∀ ρ' F' H' σ C, LE ρ F H ρ' F' H' → G Γ ρ' F' s H' → Sl Γ ρ' F' e σ → Γ.cl c C → W (.ref C) none σ H'
  | .bad => False
def tS (Γ : Wd) (W : WX) (f : Sx) : TS := fun D σ H => ∃ env ρ F s, G Γ ρ F s H ∧ Sl Γ ρ F env σ ∧ FPo Γ W ρ F H D (f env s)
theorem FPo.le {Γ : Wd} {W : WX} {ρ ρ1 : List Addr} {F F1 H H1 : Hp} {D : Ends} (l : LE ρ F H ρ1 F1 H1) : ∀ {r : Res}, FPo Γ W ρ F H D r → FPo Γ W ρ1 F1 H1 D r
  | .fl (.nx e) s, h => fun ρ' F' H' σ l' g r => h ρ' F' H' σ (l.trans l') g r
  | .fl (.rt d) s, h => fun ρ' F' H' σ l' g r => h ρ' F' H' σ (l.trans l') g r
  | .fl (.bk e) s, h => fun ρ' F' H' σ l' g r => h ρ' F' H' σ (l.trans l') g r
  | .fl (.ct e) s, h => fun ρ' F' H' σ l' g r => h ρ' F' H' σ (l.trans l') g r
  | .exc c e s, h => fun ρ' F' H' σ C l' g r => h ρ' F' H' σ C (l.trans l') g r
  | .bad, h => h
theorem PE.imp {X : Cx} {e : Expr} {t t' : TE} (h : PE X e t) (k : ∀ σ H Q, t' σ H Q → t σ H Q) : PE X e t' := ⟨fun pins s σ H Q I q => h.run pins s σ H Q I (k σ H Q q)⟩
theorem PT.imp {X : Cx} {e : Expr} {t t' : TT} (h : PT X e t) (k : ∀ σ H Q, t' σ H Q → t σ H Q) : PT X e t' := ⟨fun pins s σ H Q I q => h.run pins s σ H Q I (k σ H Q q)⟩
theorem PW.imp {X : Cx} {e : Expr} {t t' : TT} (h : PW X e t) (k : ∀ σ H Q, t' σ H Q → t σ H Q) : PW X e t' := ⟨fun wh pins s σ H Q I q => h.run wh pins s σ H Q I (k σ H Q q)⟩
theorem PA.imp {X : Cx} {e : List Expr} {t t' : TA} (h : PA X e t) (k : ∀ σ H Q, t' σ H Q → t σ H Q) : PA X e t' := ⟨fun pos pins s σ H Q I q => h.run pos pins s σ H Q I (k σ H Q q)⟩
theorem PS.imp {X : Cx} {e : Stmt} {t t' : TS} (h : PS X e t) (k : ∀ D σ H, t' D σ H → t D σ H) : PS X e t' := ⟨fun pins s σ H D I q => h.run pins s σ H D I (k D σ H q)⟩
theorem PSs.imp {X : Cx} {e : List Stmt} {t t' : TS} (h : PSs X e t) (k : ∀ D σ H, t' D σ H → t D σ H) : PSs X e t' := ⟨fun pins s σ H D I q => h.run pins s σ H D I (k D σ H q)⟩
abbrev wd (J : Cn) (X : Cx) : Wd := ⟨X.K, X.mg, J⟩
abbrev ES (J : Cn) (X : Cx) (W : WX) (e : Expr) (f : Ex) : Prop := PE X e (tE (wd J X) W f)
abbrev TSo (J : Cn) (X : Cx) (W : WX) (e : Expr) (f : Tx) : Prop := PT X e (tT (wd J X) W f)
abbrev WSo (J : Cn) (X : Cx) (W : WX) (e : Expr) (f : Tx) : Prop := PW X e (tT (wd J X) W f)
abbrev ASo (J : Cn) (X : Cx) (W : WX) (e : List Expr) (f : List Ex) : Prop := PA X e (tA (wd J X) W f)
abbrev SS (J : Cn) (X : Cx) (W : WX) (e : Stmt) (f : Sx) : Prop := PS X e (tS (wd J X) W f)
abbrev SSs (J : Cn) (X : Cx) (W : WX) (e : List Stmt) (f : Sx) : Prop := PSs X e (tS (wd J X) W f)
end Pd
namespace Pd
open PySem L2
/-! ### reading data -/
def asL (s : Sto) : Dt → Option (List Dt)
  | .lst l => some l
  | .lsk l => some l
  | .obj i => match s[i]? with
    | some (.lst l) => some l
    | _ => none
  | _ => none
def asT : Dt → Option (List Dt)
  | .tup l => some l
  | _ => none
def asQ (s : Sto) (d : Dt) : Option (List Dt) := match d with
  | .tup l => some l
  | _ => asL s d
section
variable {Γ : Wd} {ρ : List Addr} {F H : Hp} {s : Sto}
theorem G.sqL (g : G Γ ρ F s H) {d : Dt} {v : V} {l : List Dt} (r : Den Γ ρ F d v) (h : asL s d = some l) : ∃ a xs, v = .ref a ∧ SqL Γ.K H a xs ∧ Dens Γ ρ F l xs ∧ l.length ≤ sizeLine := by
  cases d with
  | lst l' =>
    simp only [Den] at r
    simp only [asL, Option.some.injEq] at h
    subst h
    obtain ⟨z, a, xs, e, q, t⟩ := r
    exact ⟨a, xs, e, SqL.of (g.sub _ _ q), t, z⟩
  | lsk l' =>
    simp only [Den] at r
    simp only [asL, Option.some.injEq] at h
    subst h
    obtain ⟨z, a, xs, e, q, t⟩ := r
    exact ⟨a, xs, e, sqL_sub g.sub q, t, z⟩
  | obj i =>
    simp only [Den] at r
    obtain ⟨a, e, q⟩ := r
    simp only [asL] at h
    split at h
    · rename_i l' hs
      cases h
      obtain ⟨z, xs, ha, t⟩ := g.at_ i a _ q hs
      exact ⟨a, xs, e, SqL.of ha, t, z⟩
    · cases h
  | _ => simp [asL] at h
theorem G.sqT (g : G Γ ρ F s H) {d : Dt} {v : V} {l : List Dt} (r : Den Γ ρ F d v) (h : asT d = some l) : ∃ a xs, v = .ref a ∧ SqT Γ.K H a xs ∧ Dens Γ ρ F l xs ∧ l.length ≤ sizeLine := by
  cases d with
  | tup l' =>
    simp only [Den] at r
    simp only [asT, Option.some.injEq] at h
    subst h
    obtain ⟨z, a, xs, e, q, t⟩ := r
    exact ⟨a, xs, e, sqT_sub g.sub q, t, z⟩
  | _ => simp [asT] at h
theorem G.sqQ (g : G Γ ρ F s H) {d : Dt} {v : V} {l : List Dt} (r : Den Γ ρ F d v) (h : asQ s d = some l) : ∃ a xs, v = .ref a ∧ (SqL Γ.K H a xs ∨ SqT Γ.K H a xs) ∧ Dens Γ ρ F l xs ∧ l.length ≤ sizeLine := by
  cases d with
  | tup l' =>
    obtain ⟨a, xs, e, q, t⟩ := g.sqT r (l := l) (by simpa [asQ, asT] using h)
    exact ⟨a, xs, e, .inr q, t⟩
  | _ =>
    obtain ⟨a, xs, e, q, t⟩ := g.sqL r (l := l) (by simpa [asQ] using h)
    exact ⟨a, xs, e, .inl q, t⟩
theorem Dens.length : ∀ {ds : List Dt} {vs : List V}, Dens Γ ρ F ds vs → ds.length = vs.length
  | [], vs, h => by simp only [Dens] at h; rw [h]; rfl
  | d :: ds, vs, h => by
    simp only [Dens] at h
    obtain ⟨v, r, e, q, t⟩ := h
    rw [e, List.length_cons, List.length_cons, Dens.length t]
theorem Dens.get : ∀ {ds : List Dt} {vs : List V} {i : Nat} {d : Dt}, Dens Γ ρ F ds vs → ds[i]? = some d → ∃ v, vs[i]? = some v ∧ Den Γ ρ F d v
  | [], vs, i, d, h, e => by simp at e
  | d' :: ds, vs, i, d, h, e => by
    simp only [Dens] at h
    obtain ⟨v, r, e', q, t⟩ := h
    subst e'
    cases i with
    | zero => simp at e; subst e; exact ⟨v, rfl, q⟩
    | succ i =>
      obtain ⟨u, hu, q2⟩ := Dens.get (i := i) (d := d) t (by simpa using e)
      exact ⟨u, by simpa using hu, q2⟩
theorem Dens.back : ∀ {ds : List Dt} {vs : List V} {i : Nat} {v : V}, Dens Γ ρ F ds vs → vs[i]? = some v → ∃ d, ds[i]? = some d ∧ Den Γ ρ F d v
  | [], vs, i, d, h, e => by simp only [Dens] at h; subst h; simp at e
  | d' :: ds, vs, i, d, h, e => by
    simp only [Dens] at h
    obtain ⟨v, r, e', q, t⟩ := h
    subst e'
    cases i with
    | zero => simp at e; subst e; exact ⟨d', rfl, q⟩
    | succ i =>
      obtain ⟨u, hu, q2⟩ := Dens.back (i := i) (v := d) t (by simpa using e)
      exact ⟨u, by simpa using hu, q2⟩
theorem Dens.append : ∀ {ds es : List Dt} {vs us : List V}, Dens Γ ρ F ds vs → Dens Γ ρ F es us → Dens Γ ρ F (ds ++ es) (vs ++ us)
  | [], es, vs, us, h, k => by simp only [Dens] at h; subst h; exact k
  | d :: ds, es, vs, us, h, k => by
    simp only [Dens] at h
    obtain ⟨v, r, e, q, t⟩ := h
    subst e
    show Dens Γ ρ F (d :: (ds ++ es)) (v :: (r ++ us))
    simp only [Dens]
    exact ⟨v, _, rfl, q, Dens.append t k⟩
theorem Dens.one {d : Dt} {v : V} (h : Den Γ ρ F d v) : Dens Γ ρ F [d] [v] := by
  simp only [Dens]
  exact ⟨v, [], rfl, h, rfl⟩
theorem Dens.drop : ∀ {ds : List Dt} {vs : List V} (n : Nat), Dens Γ ρ F ds vs → Dens Γ ρ F (ds.drop n) (vs.drop n)
  | [], vs, n, h => by simp only [Dens] at h; subst h; simp [Dens]
  | d :: ds, vs, 0, h => h
  | d :: ds, vs, n + 1, h => by
    simp only [Dens] at h
    obtain ⟨v, r, e, q, t⟩ := h
    subst e
    exact Dens.drop n t
theorem Dens.take : ∀ {ds : List Dt} {vs : List V} (n : Nat), Dens Γ ρ F ds vs → Dens Γ ρ F (ds.take n) (vs.take n)
  | [], vs, n, h => by simp only [Dens] at h; subst h; simp [Dens]
  | d :: ds, vs, 0, h => by simp [Dens]
  | d :: ds, vs, n + 1, h => by
    simp only [Dens] at h
    obtain ⟨v, r, e, q, t⟩ := h
    subst e
    show Dens Γ ρ F (d :: ds.take n) (v :: r.take n)
    simp only [Dens]
    exact ⟨v, _, rfl, q, Dens.take n t⟩
theorem Dens.set {d : Dt} {v : V} (hd : Den Γ ρ F d v) : ∀ {ds : List Dt} {vs : List V} (n : Nat), Dens Γ ρ F ds vs → Dens Γ ρ F (ds.set n d) (vs.set n v)
  | [], vs, n, h => by simp only [Dens] at h; subst h; simp [Dens]
  | d' :: ds, vs, 0, h => by
    simp only [Dens] at h
    obtain ⟨v', r, e, q, t⟩ := h
    subst e
    show Dens Γ ρ F (d :: ds) (v :: r)
    simp only [Dens]
    exact ⟨v, _, rfl, hd, t⟩
  | d' :: ds, vs, n + 1, h => by
    simp only [Dens] at h
    obtain ⟨v', r, e, q, t⟩ := h
    subst e
    show Dens Γ ρ F (d' :: ds.set n d) (v' :: r.set n v)
    simp only [Dens]
    exact ⟨v', _, rfl, q, Dens.set hd n t⟩
theorem Dens.eraseIdx : ∀ {ds : List Dt} {vs : List V} (n : Nat), Dens Γ ρ F ds vs → Dens Γ ρ F (ds.eraseIdx n) (vs.eraseIdx n)
  | [], vs, n, h => by simp only [Dens] at h; subst h; simp [Dens]
  | d' :: ds, vs, 0, h => by
    simp only [Dens] at h
    obtain ⟨v', r, e, q, t⟩ := h
    subst e
    exact t
  | d' :: ds, vs, n + 1, h => by
    simp only [Dens] at h
    obtain ⟨v', r, e, q, t⟩ := h
    subst e
    show Dens Γ ρ F (d' :: ds.eraseIdx n) (v' :: r.eraseIdx n)
    simp only [Dens]
    exact ⟨v', _, rfl, q, Dens.eraseIdx n t⟩
end
/-! ### expressions -/
section
variable {J : Cn} {X : Cx} {W : WX} {a b c e : Expr} {es : List Expr} {fa fb fc : Ex} {pos : Pos}
def eVar (i : Nat) : Ex := fun env s => match env[i]? with
  | some (some d) => .ok d s
  | _ => .bad
theorem es_var {i : Nat} (h : PE X e (tVar i)) : ES J X W e (eVar i) := by
  refine PE.imp h fun σ H Q ⟨env, ρ, F, s, g, l, k⟩ => ?_
  unfold eVar at k
  split at k
  · rename_i d hd
    obtain ⟨v, q, r⟩ := l.at_ i d hd
    exact ⟨v, q, k ρ F H v LE.refl g r⟩
  · exact k.elim
def eC (d : Dt) : Ex := fun _ s => .ok d s
theorem es_c {d : Dt} {v : V} (h : PE X e (tC v)) (hd : ∀ ρ F, Den (wd J X) ρ F d v) : ES J X W e (eC d) :=
  PE.imp h fun σ H Q ⟨env, ρ, F, s, g, l, k⟩ => k ρ F H v LE.refl g (hd ρ F)
theorem es_int {i : Int} {j} : ES J X W (.Constant (.int i) j pos) (eC (.int i)) := es_c pe_int fun _ _ => by simp only [Den]
theorem es_bl {i : Bool} {j} : ES J X W (.Constant (.bool i) j pos) (eC (.bl i)) := es_c pe_bl fun _ _ => by simp only [Den]
theorem es_non {j} : ES J X W (.Constant .none j pos) (eC .non) := es_c pe_non fun _ _ => by simp only [Den]
theorem es_str {x : Str} {j} (h : sok x = true := by decide +kernel) : ES J X W (.Constant (.str x) j pos) (eC (.str x)) := es_c pe_str fun _ _ => by simp only [Den]; exact ⟨trivial, h⟩
theorem es_gint {x : Str} {i : Int} {t : Tok} (hg : Gl X x) (hm : X.mg x = some (.int i t)) (hd : (x == ("__debug__" : Str)) = false := by decide) : ES J X W (.Name x pos) (eC (.int i)) := es_c (v := .int i) (pe_glob hg hm ⟨t, rfl⟩ hd) fun _ _ => by simp only [Den]
theorem es_gstr {x z : Str} {t : Tok} (hg : Gl X x) (hm : X.mg x = some (.str z t)) (hz : sok z = true := by decide +kernel) (hd : (x == ("__debug__" : Str)) = false := by decide) : ES J X W (.Name x pos) (eC (.str z)) := es_c (v := .str z) (pe_glob hg hm ⟨t, rfl⟩ hd) fun _ _ => by simp only [Den]; exact ⟨trivial, hz⟩
/-- an operation of two places -/
def eOp (op : Dt → Dt → Sto → Out Dt) (fa fb : Ex) : Ex := fun env => bnd (fa env) fun x => bnd (fb env) fun y => op x y
def OpS (Γ : Wd) (r : R2) (op : Dt → Dt → Sto → Out Dt) : Prop := ∀ ρ F s H x y dx dy Q E, G Γ ρ F s H → Den Γ ρ F dx x → Den Γ ρ F dy y → EPo Γ ρ F H Q E (op dx dy s) → r x y H Q
theorem tE_op {Γ : Wd} {r : R2} {op : Dt → Dt → Sto → Out Dt} (ho : OpS Γ r op) {σ : St} {H : Hp} {Q : VK} (h : tE Γ W (eOp op fa fb) σ H Q) : tOp r (tE Γ W fa) (tE Γ W fb) σ H Q := by
  obtain ⟨env, ρ, F, s, g, l, k⟩ := h
  refine ⟨env, ρ, F, s, g, l, Po.bind k fun x s1 ρ1 F1 H1 v e1 l1 g1 r1 k1 => ?_⟩
  refine ⟨env, ρ1, F1, s1, g1, l.mono l1, Po.bind k1 fun y s2 ρ2 F2 H2 u e2 l2 g2 r2 k2 => ?_⟩
  exact ho ρ2 F2 s2 H2 v u x y Q _ g2 (Den.mono l2 _ _ r1) r2 k2
theorem es_op {op : Operator} {r : R2} {f : Dt → Dt → Sto → Out Dt} (hr : OpR X (binaryOp op) r) (ho : OpS (wd J X) r f) (ha : ES J X W a fa) (hb : ES J X W b fb) : ES J X W (.BinOp a op b pos) (eOp f fa fb) :=
  PE.imp (pe_op hr ha hb) fun _ _ _ h => tE_op ho h
/-- an operation of one place -/
def eUn (op : Dt → Sto → Out Dt) (fa : Ex) : Ex := fun env => bnd (fa env) op
def UnS (Γ : Wd) (r : V → Hp → VK → Prop) (op : Dt → Sto → Out Dt) : Prop := ∀ ρ F s H x dx Q E, G Γ ρ F s H → Den Γ ρ F dx x → EPo Γ ρ F H Q E (op dx s) → r x H Q
theorem es_un {op : UnaryOp} {r : V → Hp → VK → Prop} {f : Dt → Sto → Out Dt} (hr : UnR X (unaryOp op) r) (ho : UnS (wd J X) r f) (ha : ES J X W a fa) : ES J X W (.UnaryOp op a pos) (eUn f fa) :=
  PE.imp (pe_un hr ha) fun σ H Q ⟨env, ρ, F, s, g, l, k⟩ => ⟨env, ρ, F, s, g, l, Po.bind k fun x s1 ρ1 F1 H1 v e1 l1 g1 r1 k1 => ho ρ1 F1 s1 H1 v x Q _ g1 r1 k1⟩
/-! ints -/
def iOp (g : Int → Int → Dt) (ok : Int → Int → Bool) : Dt → Dt → Sto → Out Dt
  | .int i, .int j, s => if ok i j then .ok (g i j) s else .bad
  | _, _, _ => .bad
theorem iOp_some {Γ : Wd} {C : Int → Int → Prop} {gv : Int → Int → V} {gd : Int → Int → Dt} {ok : Int → Int → Bool} (hc : ∀ i j, ok i j = true → C i j) (hd : ∀ ρ F i j, Den Γ ρ F (gd i j) (gv i j)) : OpS Γ (rI C gv) (iOp gd ok) := by
  intro ρ F s H x y dx dy Q E g rx ry k
  cases dx with
  | int i =>
    cases dy with
    | int j =>
      simp only [Den] at rx ry
      simp only [iOp] at k
      split at k
      · rename_i h
        exact ⟨i, j, rx, ry, hc _ _ h, k ρ F H _ LE.refl g (hd ρ F i j)⟩
      · exact k.elim
    | _ => exact False.elim k
  | _ => exact False.elim k
theorem iOp_all {Γ : Wd} {gv : Int → Int → V} {gd : Int → Int → Dt} (hd : ∀ ρ F i j, Den Γ ρ F (gd i j) (gv i j)) : OpS Γ (rI0 gv) (iOp gd fun _ _ => true) := by
  intro ρ F s H x y dx dy Q E g rx ry k
  cases dx with
  | int i =>
    cases dy with
    | int j =>
      simp only [Den] at rx ry
      exact ⟨i, j, rx, ry, k ρ F H _ LE.refl g (hd ρ F i j)⟩
    | _ => exact False.elim k
  | _ => exact False.elim k
abbrev dSub := iOp (fun i j => .int (i - j)) fun _ _ => true
abbrev dMul := iOp (fun i j => .int (i * j)) fun i j => decide ((-(2 ^ 64) < i ∧ i < 2 ^ 64) ∨ (-(2 ^ 64) < j ∧ j < 2 ^ 64))
abbrev dFdv := iOp (fun i j => .int (i / j)) fun _ j => decide (0 < j ∧ j < 1073741824)
abbrev dMod := iOp (fun i j => .int (i % j)) fun _ j => decide (0 < j)
abbrev dPow := iOp (fun i j => .int (i ^ j.toNat)) fun i j => decide (0 ≤ j ∧ j ≤ 1000000 ∧ i.natAbs < 2 ^ 64)
abbrev dLt := iOp (fun i j => .bl (decide (i < j))) fun _ _ => true
abbrev dLe := iOp (fun i j => .bl (decide (i ≤ j))) fun _ _ => true
abbrev dGt := iOp (fun i j => .bl (decide (j < i))) fun _ _ => true
abbrev dGe := iOp (fun i j => .bl (decide (j ≤ i))) fun _ _ => true
theorem es_sub (ha : ES J X W a fa) (hb : ES J X W b fb) : ES J X W (.BinOp a .Sub b pos) (eOp dSub fa fb) := es_op op_sub (iOp_all fun _ _ _ _ => by simp only [Den]) ha hb
theorem es_mul (ha : ES J X W a fa) (hb : ES J X W b fb) : ES J X W (.BinOp a .Mult b pos) (eOp dMul fa fb) := es_op op_mul (iOp_some (fun _ _ h => by simpa [CMul] using h) fun _ _ _ _ => by simp only [Den]) ha hb
theorem es_fdv (ha : ES J X W a fa) (hb : ES J X W b fb) : ES J X W (.BinOp a .FloorDiv b pos) (eOp dFdv fa fb) := es_op op_fdiv (iOp_some (fun _ _ h => by simpa [CDiv] using h) fun _ _ _ _ => by simp only [Den]) ha hb
theorem es_mod (ha : ES J X W a fa) (hb : ES J X W b fb) : ES J X W (.BinOp a .Mod b pos) (eOp dMod fa fb) := es_op op_mod (iOp_some (fun _ _ h => of_decide_eq_true h) fun _ _ _ _ => by simp only [Den]) ha hb
theorem es_pow (ha : ES J X W a fa) (hb : ES J X W b fb) : ES J X W (.BinOp a .Pow b pos) (eOp dPow fa fb) := es_op op_pow (iOp_some (fun _ _ h => by simpa [CPow] using h) fun _ _ _ _ => by simp only [Den]) ha hb
/-- a comparison that is known -/
def CmpOk (J : Cn) (X : Cx) (op : CmpOp) (f : Dt → Dt → Sto → Out Dt) : Prop := ∃ r, OpR X (compareOp op) r ∧ OpS (wd J X) r f
theorem c_lt : CmpOk J X .Lt dLt := ⟨_, op_lt, iOp_all fun _ _ _ _ => by simp only [Den]⟩
theorem c_le : CmpOk J X .LtE dLe := ⟨_, op_le, iOp_all fun _ _ _ _ => by simp only [Den]⟩
theorem c_gt : CmpOk J X .Gt dGt := ⟨_, op_gt, iOp_all fun _ _ _ _ => by simp only [Den]⟩
theorem c_ge : CmpOk J X .GtE dGe := ⟨_, op_ge, iOp_all fun _ _ _ _ => by simp only [Den]⟩
theorem es_cmp {op : CmpOp} {f : Dt → Dt → Sto → Out Dt} (h : CmpOk J X op f) (ha : ES J X W a fa) (hb : ES J X W b fb) (hm : behindInMarks op b = false := by rfl) : ES J X W (.Compare a [op] [b] pos) (eOp f fa fb) := by
  obtain ⟨r, hr, ho⟩ := h
  exact PE.imp (pe_cmpR hr ha hb hm) fun _ _ _ h => tE_op ho h
def dNeg : Dt → Sto → Out Dt
  | .int i, s => .ok (.int (-i)) s
  | _, _ => .bad
theorem es_neg (ha : ES J X W a fa) : ES J X W (.UnaryOp .USub a pos) (eUn dNeg fa) := es_un un_neg (fun ρ F s H x dx Q E g rx k => by
  unfold dNeg at k
  split at k
  · rename_i i
    simp only [Den] at rx
    exact ⟨i, rx, k ρ F H _ LE.refl g (by simp only [Den])⟩
  · exact k.elim) ha
/-! None -/
def isNon : Dt → Bool
  | .non => true
  | _ => false
theorem Den.isNon {Γ : Wd} {ρ : List Addr} {F : Hp} {d : Dt} {v : V} (r : Den Γ ρ F d v) : decide (v = .non) = Pd.isNon d := by
  cases d <;> simp only [Den] at r
  case tup => obtain ⟨_, a, xs, e, _⟩ := r; subst e; rfl
  case lst => obtain ⟨_, a, xs, e, _⟩ := r; subst e; rfl
  case lsk => obtain ⟨_, a, xs, e, _⟩ := r; subst e; rfl
  case obj => obtain ⟨a, e, _⟩ := r; subst e; rfl
  case exc => obtain ⟨a, xs, e, _⟩ := r; subst e; rfl
  case str => obtain ⟨e, _⟩ := r; subst e; rfl
  all_goals (subst r; rfl)
def dIsN (d : Dt) (s : Sto) : Out Dt := .ok (.bl (isNon d)) s
def dNotN (d : Dt) (s : Sto) : Out Dt := .ok (.bl (!isNon d)) s
theorem es_isN {j pos'} (ha : ES J X W a fa) : ES J X W (.Compare a [.Is] [.Constant .none j pos'] pos) (eUn dIsN fa) :=
  PE.imp (pe_cmp (pc_isN ha) (nobehind _ (by decide) (by decide))) fun σ H Q ⟨env, ρ, F, s, g, l, k⟩ => ⟨env, ρ, F, s, g, l, Po.bind k fun x s1 ρ1 F1 H1 v e1 l1 g1 r1 k1 => by
    rw [r1.isNon]
    exact k1 ρ1 F1 H1 _ LE.refl g1 (by simp only [Den])⟩
theorem es_notN {j pos'} (ha : ES J X W a fa) : ES J X W (.Compare a [.IsNot] [.Constant .none j pos'] pos) (eUn dNotN fa) :=
  PE.imp (pe_cmp (pc_notN ha) (nobehind _ (by decide) (by decide))) fun σ H Q ⟨env, ρ, F, s, g, l, k⟩ => ⟨env, ρ, F, s, g, l, Po.bind k fun x s1 ρ1 F1 H1 v e1 l1 g1 r1 k1 => by
    rw [r1.isNon]
    exact k1 ρ1 F1 H1 _ LE.refl g1 (by simp only [Den])⟩
end
end Pd
namespace Pd
open PySem L2
/-! ### data as the model compares it -/
mutual
def toPy : Dt → Option PyData
  | .non => some .none
  | .bl b => some (.bool b)
  | .int i => some (.int i)
  | .str x => some (.str x)
  | .tup l => (toPys l).map .tuple
  | .lst l => (toPys l).map .list
  | .lsk l => (toPys l).map .list
  | .obj _ => none
  | .exc _ => none
def toPys : List Dt → Option (List PyData)
  | [] => some []
  | d :: ds => match toPy d, toPys ds with
    | some a, some b => some (a :: b)
    | _, _ => none
end
def toPyS (s : Sto) (d : Dt) : Option PyData := match d with
  | .obj i => match s[i]? with
    | some (.lst l) => (toPys l).map .list
    | _ => none
  | d => toPy d
section
variable {Γ : Wd} {ρ : List Addr} {F H : Hp} {s : Sto}
mutual
theorem Den.dp (g : ∀ a o, F a = some o → H a = some o) : ∀ (d : Dt) (v : V) (p : PyData), Den Γ ρ F d v → toPy d = some p → Dp Γ.K H v p ∧ p.canLay0 = true
  | .non, v, p, h, e => by simp only [Den] at h; simp only [toPy, Option.some.injEq] at e; subst h; subst e; exact ⟨.non, rfl⟩
  | .bl b, v, p, h, e => by simp only [Den] at h; simp only [toPy, Option.some.injEq] at e; subst h; subst e; exact ⟨.bl b, rfl⟩
  | .int i, v, p, h, e => by simp only [Den] at h; simp only [toPy, Option.some.injEq] at e; subst h; subst e; exact ⟨.int i, rfl⟩
  | .str x, v, p, h, e => by
    simp only [Den] at h; simp only [toPy, Option.some.injEq] at e
    obtain ⟨h, k⟩ := h
    subst h; subst e
    unfold sok at k
    simp only [Bool.and_eq_true] at k
    exact ⟨.str x, k.1⟩
  | .tup l, v, p, h, e => by
    simp only [Den] at h; simp only [toPy, Option.map_eq_some_iff] at e
    obtain ⟨z, a, xs, e1, q, t⟩ := h
    obtain ⟨ps, e2, e3⟩ := e
    subst e1; subst e3
    obtain ⟨r1, r2⟩ := Dens.dp g l xs ps t e2
    exact ⟨.tup (sqT_sub g q) r1, r2⟩
  | .lst l, v, p, h, e => by
    simp only [Den] at h; simp only [toPy, Option.map_eq_some_iff] at e
    obtain ⟨z, a, xs, e1, q, t⟩ := h
    obtain ⟨ps, e2, e3⟩ := e
    subst e1; subst e3
    obtain ⟨r1, r2⟩ := Dens.dp g l xs ps t e2
    exact ⟨.lst (SqL.of (g _ _ q)) r1, r2⟩
  | .lsk l, v, p, h, e => by
    simp only [Den] at h; simp only [toPy, Option.map_eq_some_iff] at e
    obtain ⟨z, a, xs, e1, q, t⟩ := h
    obtain ⟨ps, e2, e3⟩ := e
    subst e1; subst e3
    obtain ⟨r1, r2⟩ := Dens.dp g l xs ps t e2
    exact ⟨.lst (sqL_sub g q) r1, r2⟩
  | .obj _, v, p, h, e => by simp [toPy] at e
  | .exc _, v, p, h, e => by simp [toPy] at e
theorem Dens.dp (g : ∀ a o, F a = some o → H a = some o) : ∀ (d : List Dt) (v : List V) (p : List PyData), Dens Γ ρ F d v → toPys d = some p → DpAll Γ.K H v p ∧ PyData.canLayAll0 p = true
  | [], v, p, h, e => by
    simp only [Dens] at h; simp only [toPys, Option.some.injEq] at e
    subst h; subst e
    exact ⟨.nil, rfl⟩
  | d :: ds, v, p, h, e => by
    simp only [Dens] at h; simp only [toPys] at e
    obtain ⟨w, r, e1, q, t⟩ := h
    subst e1
    split at e
    · rename_i a b ha hb
      cases e
      obtain ⟨r1, r2⟩ := Den.dp g d w a q ha
      obtain ⟨r3, r4⟩ := Dens.dp g ds r b t hb
      exact ⟨.cons r1 r3, by simp only [PyData.canLayAll0, r2, r4, Bool.and_self]⟩
    · cases e
end
theorem G.dp (g : G Γ ρ F s H) {d : Dt} {v : V} {p : PyData} (h : Den Γ ρ F d v) (e : toPyS s d = some p) : Dp Γ.K H v p ∧ p.canLay0 = true := by
  cases d with
  | obj i =>
    simp only [Den] at h
    obtain ⟨a, e1, q⟩ := h
    simp only [toPyS] at e
    split at e
    · rename_i l hs
      simp only [Option.map_eq_some_iff] at e
      obtain ⟨ps, e2, e3⟩ := e
      subst e3; subst e1
      obtain ⟨z, xs, hx, t⟩ := g.at_ i a _ q hs
      obtain ⟨r1, r2⟩ := Dens.dp g.sub l xs ps t e2
      exact ⟨.lst (SqL.of hx) r1, r2⟩
    · cases e
  | _ => exact Den.dp g.sub _ v p h e
end
theorem shaped_of {p : PyData} (h1 : p.canLay0 = true) (h2 : p.depth ≤ 64) : SeqAt.shaped p = true := by
  unfold SeqAt.shaped
  rw [h1, Bool.true_and]
  exact decide_eq_true h2
def dEqB (s : Sto) (x y : Dt) : Option Bool := match toPyS s x, toPyS s y with
  | some a, some b => if a.depth ≤ 64 ∧ b.depth ≤ 64 then some (PyData.eqv a b) else none
  | _, _ => none
def ofO (s : Sto) : Option Dt → Out Dt
  | some d => .ok d s
  | none => .bad
def dEq (x y : Dt) (s : Sto) : Out Dt := ofO s ((dEqB s x y).map .bl)
def dNe (x y : Dt) (s : Sto) : Out Dt := ofO s ((dEqB s x y).map fun b => .bl (!b))
theorem dEqB_of {Γ : Wd} {ρ : List Addr} {F H : Hp} {s : Sto} (g : G Γ ρ F s H) {x y : Dt} {u v : V} {c : Bool} (hx : Den Γ ρ F x u) (hy : Den Γ ρ F y v) (e : dEqB s x y = some c) :
    ∃ a b, Dp Γ.K H u a ∧ Dp Γ.K H v b ∧ SeqAt.shaped a = true ∧ SeqAt.shaped b = true ∧ c = PyData.eqv a b := by
  unfold dEqB at e
  split at e
  · rename_i a b ha hb
    split at e
    · rename_i hd
      cases e
      obtain ⟨r1, r2⟩ := g.dp hx ha
      obtain ⟨r3, r4⟩ := g.dp hy hb
      exact ⟨a, b, r1, r3, shaped_of r2 hd.1, shaped_of r4 hd.2, rfl⟩
    · cases e
  · cases e
section
variable {J : Cn} {X : Cx} {W : WX} {a b c e : Expr} {es : List Expr} {fa fb fc : Ex} {fs : List Ex} {ft fu : Tx} {pos : Pos}
theorem Po.ofO {Γ : Wd} {ρ : List Addr} {F H : Hp} {Q : VK} {E : Value → Hp → Prop} {s : Sto} {o : Option Dt} (h : EPo Γ ρ F H Q E (ofO s o)) : ∃ d, o = some d ∧ EPo Γ ρ F H Q E (.ok d s) := by
  cases o with
  | none => exact False.elim h
  | some d => exact ⟨d, rfl, h⟩
theorem c_eq (hu : X.A.units + 64 < cLine) : CmpOk J X .Eq dEq := ⟨_, op_eqD hu, fun ρ F s H x y dx dy Q E g rx ry k => by
  obtain ⟨d, e, k⟩ := k.ofO
  obtain ⟨c, e1, e2⟩ := Option.map_eq_some_iff.mp e
  subst e2
  obtain ⟨p, q, r1, r2, s1, s2, e3⟩ := dEqB_of g rx ry e1
  refine ⟨p, q, r1, r2, s1, s2, ?_⟩
  rw [← e3]
  exact k ρ F H _ LE.refl g (by simp only [Den])⟩
theorem c_ne (hu : X.A.units + 64 < cLine) : CmpOk J X .NotEq dNe := ⟨_, op_neD hu, fun ρ F s H x y dx dy Q E g rx ry k => by
  obtain ⟨d, e, k⟩ := k.ofO
  obtain ⟨c, e1, e2⟩ := Option.map_eq_some_iff.mp e
  subst e2
  obtain ⟨p, q, r1, r2, s1, s2, e3⟩ := dEqB_of g rx ry e1
  refine ⟨p, q, r1, r2, s1, s2, ?_⟩
  rw [← e3]
  exact k ρ F H _ LE.refl g (by simp only [Den])⟩
/-! truth -/
def truD (s : Sto) : Dt → Option Bool
  | .non => some false
  | .bl b => some b
  | .int i => some (i != 0)
  | .str x => some ((x.length : Int) != 0)
  | .tup l => some (!l.isEmpty)
  | .lst l => some (!l.isEmpty)
  | .lsk l => some (!l.isEmpty)
  | .obj i => match s[i]? with
    | some (.lst l) => some (!l.isEmpty)
    | some (.dic kvs) => some (!kvs.isEmpty)
    | _ => none
  | .exc _ => none
theorem Dens.isEmpty {Γ : Wd} {ρ : List Addr} {F : Hp} {l : List Dt} {xs : List V} (h : Dens Γ ρ F l xs) : xs.isEmpty = l.isEmpty := by
  have e := h.length
  cases l <;> cases xs <;> simp_all
theorem DenK.length {κ : Type} {Γ : Wd} {ρ : List Addr} {F : Hp} : ∀ {l : List (κ × Dt)} {xs : List (κ × V)}, DenK Γ ρ F l xs → l.length = xs.length
  | [], xs, h => by rw [show xs = [] from h]; rfl
  | (k, d) :: l, xs, h => by
    obtain ⟨v, r, e, q, t⟩ := h
    rw [e, List.length_cons, List.length_cons, DenK.length t]
theorem DenK.isEmpty {κ : Type} {Γ : Wd} {ρ : List Addr} {F : Hp} {l : List (κ × Dt)} {xs : List (κ × V)} (h : DenK Γ ρ F l xs) : xs.isEmpty = l.isEmpty := by
  have e := h.length
  cases l <;> cases xs <;> simp_all
theorem sok_len {x : Str} (h : sok x = true) : x.length ≤ sizeLine := by
  unfold sok at h
  simp only [Bool.and_eq_true, decide_eq_true_eq] at h
  rw [sizeLine_eq]
  omega
theorem G.tru {Γ : Wd} {ρ : List Addr} {F H : Hp} {s : Sto} (g : G Γ ρ F s H) {d : Dt} {v : V} {k : Bool} (h : Den Γ ρ F d v) (e : truD s d = some k) : TruV Γ.K v H k := by
  cases d with
  | non => simp only [Den] at h; simp only [truD, Option.some.injEq] at e; subst h; subst e; exact rfl
  | bl b => simp only [Den] at h; simp only [truD, Option.some.injEq] at e; subst h; subst e; exact rfl
  | int i => simp only [Den] at h; simp only [truD, Option.some.injEq] at e; subst h; subst e; exact rfl
  | str x =>
    simp only [Den] at h; simp only [truD, Option.some.injEq] at e
    obtain ⟨h, hk⟩ := h
    subst h; subst e
    exact ⟨sok_len hk, rfl⟩
  | tup l =>
    simp only [truD, Option.some.injEq] at e; subst e
    obtain ⟨a, xs, e1, q, t, _⟩ := g.sqT h (l := l) rfl
    subst e1
    exact .inr (.inl ⟨xs, q, by rw [t.isEmpty]⟩)
  | lst l =>
    simp only [truD, Option.some.injEq] at e; subst e
    obtain ⟨a, xs, e1, q, t, _⟩ := g.sqL h (l := l) rfl
    subst e1
    exact .inl ⟨xs, q, by rw [t.isEmpty]⟩
  | lsk l =>
    simp only [truD, Option.some.injEq] at e; subst e
    obtain ⟨a, xs, e1, q, t, _⟩ := g.sqL h (l := l) rfl
    subst e1
    exact .inl ⟨xs, q, by rw [t.isEmpty]⟩
  | obj i =>
    simp only [Den] at h
    obtain ⟨a, e1, q⟩ := h
    subst e1
    simp only [truD] at e
    split at e
    · rename_i l hs
      cases e
      obtain ⟨z, xs, hx, t⟩ := g.at_ i a _ q hs
      exact .inl ⟨xs, SqL.of hx, by rw [t.isEmpty]⟩
    · rename_i l hs
      cases e
      obtain ⟨z, xs, hx, t⟩ := g.at_ i a _ q hs
      exact .inr (.inr ⟨xs, hx, by rw [t.isEmpty]⟩)
    · cases e
  | exc c => simp [truD] at e
def ofB (s : Sto) : Option Bool → Out Bool
  | some d => .ok d s
  | none => .bad
def tTru (f : Ex) : Tx := fun env => bnd (f env) fun d s => ofB s (truD s d)
theorem ts_tru (ha : ES J X W a fa) (he : ∀ whole, isTrue a X.env whole = (do let v ← whole; standAt a.pos; holding [v] (truthy v)) := by intro _; rfl) : TSo J X W a (tTru fa) :=
  PT.imp (pt_truth ha he) fun σ H Q ⟨env, ρ, F, s, g, l, k⟩ => ⟨env, ρ, F, s, g, l, Po.bind k fun x s1 ρ1 F1 H1 v e1 l1 g1 r1 k1 => by
    cases e : truD s1 x with
    | none => rw [e] at k1; exact False.elim k1
    | some b => rw [e] at k1; exact ⟨b, g1.tru r1 e, k1 ρ1 F1 H1 b LE.refl g1 rfl⟩⟩
def tBl (f : Ex) : Tx := fun env => bnd (f env) fun d s => match d with
  | .bl b => .ok b s
  | _ => .bad
/-- a value that is a truth, as a test, by a rule of its own -/
theorem tT_bl {Γ : Wd} {σ : St} {H : Hp} {Q : Bool → Hp → Prop} (h : tT Γ W (tBl fa) σ H Q) : tE Γ W fa σ H fun x H' => ∃ k, x = .bl k ∧ Q k H' := by
  obtain ⟨env, ρ, F, s, g, l, k⟩ := h
  refine ⟨env, ρ, F, s, g, l, Po.bind k fun x s1 ρ1 F1 H1 v e1 l1 g1 r1 k1 => ?_⟩
  cases x with
  | bl b => simp only [Den] at r1; exact ⟨b, r1, k1 ρ1 F1 H1 b LE.refl g1 rfl⟩
  | _ => exact False.elim k1
theorem ts_cmp {op : CmpOp} {f : Dt → Dt → Sto → Out Dt} (h : CmpOk J X op f) (ha : ES J X W a fa) (hb : ES J X W b fb) (hm : behindInMarks op b = false := by rfl) : TSo J X W (.Compare a [op] [b] pos) (tBl (eOp f fa fb)) := by
  obtain ⟨r, hr, ho⟩ := h
  exact PT.imp (pt_cmpR hr ha hb hm) fun σ H Q h => tE_op (Q := fun x H' => ∃ k, x = .bl k ∧ Q k H') ho (tT_bl h)
theorem ts_isN {j pos'} (ha : ES J X W a fa) : TSo J X W (.Compare a [.Is] [.Constant .none j pos'] pos) (tBl (eUn dIsN fa)) :=
  PT.imp (pt_cmp (pc_isN ha) (nobehind _ (by decide) (by decide))) fun σ H Q h => by
    obtain ⟨env, ρ, F, s, g, l, k⟩ := tT_bl h
    exact ⟨env, ρ, F, s, g, l, Po.bind k fun x s1 ρ1 F1 H1 v e1 l1 g1 r1 k1 => by
      rw [r1.isNon]
      exact k1 ρ1 F1 H1 _ LE.refl g1 (by simp only [Den])⟩
theorem ts_notN {j pos'} (ha : ES J X W a fa) : TSo J X W (.Compare a [.IsNot] [.Constant .none j pos'] pos) (tBl (eUn dNotN fa)) :=
  PT.imp (pt_cmp (pc_notN ha) (nobehind _ (by decide) (by decide))) fun σ H Q h => by
    obtain ⟨env, ρ, F, s, g, l, k⟩ := tT_bl h
    exact ⟨env, ρ, F, s, g, l, Po.bind k fun x s1 ρ1 F1 H1 v e1 l1 g1 r1 k1 => by
      rw [r1.isNon]
      exact k1 ρ1 F1 H1 _ LE.refl g1 (by simp only [Den])⟩
def tAnd (ft fu : Tx) : Tx := fun env => bnd (ft env) fun c s => if c = true then fu env s else .ok false s
def tOr (ft fu : Tx) : Tx := fun env => bnd (ft env) fun c s => if c = true then .ok true s else fu env s
def tNot (ft : Tx) : Tx := fun env => bnd (ft env) fun c s => .ok (!c) s
theorem ws_and1 (ha : TSo J X W a ft) : WSo J X W (.BoolOp .And [a] pos) ft := pw_and1 ha
theorem ws_or1 (ha : TSo J X W a ft) : WSo J X W (.BoolOp .Or [a] pos) ft := pw_or1 ha
theorem ws_and {rest : List Expr} (ha : TSo J X W a ft) (hb : WSo J X W (.BoolOp .And (b :: rest) pos) fu) : WSo J X W (.BoolOp .And (a :: b :: rest) pos) (tAnd ft fu) :=
  PW.imp (pw_and ha hb) fun σ H Q ⟨env, ρ, F, s, g, l, k⟩ => ⟨env, ρ, F, s, g, l, Po.bind k fun x s1 ρ1 F1 H1 v e1 l1 g1 r1 k1 => by
    subst r1
    cases x with
    | true => exact ⟨env, ρ1, F1, s1, g1, l.mono l1, k1⟩
    | false => exact k1 ρ1 F1 H1 false LE.refl g1 rfl⟩
theorem ws_or {rest : List Expr} (ha : TSo J X W a ft) (hb : WSo J X W (.BoolOp .Or (b :: rest) pos) fu) : WSo J X W (.BoolOp .Or (a :: b :: rest) pos) (tOr ft fu) :=
  PW.imp (pw_or ha hb) fun σ H Q ⟨env, ρ, F, s, g, l, k⟩ => ⟨env, ρ, F, s, g, l, Po.bind k fun x s1 ρ1 F1 H1 v e1 l1 g1 r1 k1 => by
    subst r1
    cases x with
    | true => exact k1 ρ1 F1 H1 true LE.refl g1 rfl
    | false => exact ⟨env, ρ1, F1, s1, g1, l.mono l1, k1⟩⟩
theorem ts_w (h : WSo J X W e ft) : TSo J X W e ft := h.pt
theorem ts_not (ha : TSo J X W a ft) : TSo J X W (.UnaryOp .Not a pos) (tNot ft) :=
  PT.imp (pt_not ha) fun σ H Q ⟨env, ρ, F, s, g, l, k⟩ => ⟨env, ρ, F, s, g, l, Po.bind k fun x s1 ρ1 F1 H1 v e1 l1 g1 r1 k1 => by
    subst r1
    exact k1 ρ1 F1 H1 _ LE.refl g1 rfl⟩
/-! and, or, not as values -/
def eAnd (fa fb : Ex) : Ex := fun env => bnd (fa env) fun d s => match truD s d with
  | some true => fb env s
  | some false => .ok d s
  | none => .bad
def eOr (fa fb : Ex) : Ex := fun env => bnd (fa env) fun d s => match truD s d with
  | some true => .ok d s
  | some false => fb env s
  | none => .bad
def eNot (fa : Ex) : Ex := fun env => bnd (fa env) fun d s => ofO s ((truD s d).map fun b => .bl (!b))
theorem es_one {op} (h : ES J X W a fa) : ES J X W (.BoolOp op [a] pos) fa := pe_one h
theorem es_and {rest : List Expr} (ha : ES J X W a fa) (hb : ES J X W (.BoolOp .And (b :: rest) pos) fb) : ES J X W (.BoolOp .And (a :: b :: rest) pos) (eAnd fa fb) :=
  PE.imp (pe_andT ha hb) fun σ H Q ⟨env, ρ, F, s, g, l, k⟩ => ⟨env, ρ, F, s, g, l, Po.bind k fun x s1 ρ1 F1 H1 v e1 l1 g1 r1 k1 => by
    cases e : truD s1 x with
    | none => rw [e] at k1; exact False.elim k1
    | some b =>
      rw [e] at k1
      refine ⟨b, g1.tru r1 e, ?_⟩
      cases b with
      | true => exact ⟨env, ρ1, F1, s1, g1, l.mono l1, k1⟩
      | false => exact k1 ρ1 F1 H1 v LE.refl g1 r1⟩
theorem es_or {rest : List Expr} (ha : ES J X W a fa) (hb : ES J X W (.BoolOp .Or (b :: rest) pos) fb) : ES J X W (.BoolOp .Or (a :: b :: rest) pos) (eOr fa fb) :=
  PE.imp (pe_orT ha hb) fun σ H Q ⟨env, ρ, F, s, g, l, k⟩ => ⟨env, ρ, F, s, g, l, Po.bind k fun x s1 ρ1 F1 H1 v e1 l1 g1 r1 k1 => by
    cases e : truD s1 x with
    | none => rw [e] at k1; exact False.elim k1
    | some b =>
      rw [e] at k1
      refine ⟨b, g1.tru r1 e, ?_⟩
      cases b with
      | true => exact k1 ρ1 F1 H1 v LE.refl g1 r1
      | false => exact ⟨env, ρ1, F1, s1, g1, l.mono l1, k1⟩⟩
theorem es_not (ha : ES J X W a fa) : ES J X W (.UnaryOp .Not a pos) (eNot fa) :=
  PE.imp (pe_notT ha) fun σ H Q ⟨env, ρ, F, s, g, l, k⟩ => ⟨env, ρ, F, s, g, l, Po.bind k fun x s1 ρ1 F1 H1 v e1 l1 g1 r1 k1 => by
    obtain ⟨d, e, k1⟩ := Po.ofO k1
    obtain ⟨b, e2, e3⟩ := Option.map_eq_some_iff.mp e
    subst e3
    exact ⟨b, g1.tru r1 e2, k1 ρ1 F1 H1 _ LE.refl g1 (by simp only [Den])⟩⟩
def eIf (ft : Tx) (fa fb : Ex) : Ex := fun env => bnd (ft env) fun c s => if c = true then fa env s else fb env s
theorem es_if (hc : TSo J X W c ft) (ha : ES J X W a fa) (hb : ES J X W b fb) : ES J X W (.IfExp c a b pos) (eIf ft fa fb) :=
  PE.imp (pe_ifExp hc ha hb) fun σ H Q ⟨env, ρ, F, s, g, l, k⟩ => ⟨env, ρ, F, s, g, l, Po.bind k fun x s1 ρ1 F1 H1 v e1 l1 g1 r1 k1 => by
    subst r1
    cases x with
    | true => exact ⟨env, ρ1, F1, s1, g1, l.mono l1, k1⟩
    | false => exact ⟨env, ρ1, F1, s1, g1, l.mono l1, k1⟩⟩
/-- a op b op' c -/
def eChain (op op' : Dt → Dt → Sto → Out Dt) (fa fb fc : Ex) : Ex := fun env => bnd (fa env) fun x => bnd (fb env) fun y => bnd (op x y) fun z s => match z with
  | .bl true => bnd (fc env) (fun w => op' y w) s
  | .bl false => .ok (.bl false) s
  | _ => .bad
theorem tE_chain {Γ : Wd} {r r' : R2} {op op' : Dt → Dt → Sto → Out Dt} (ho : OpS Γ r op) (ho' : OpS Γ r' op') {σ : St} {H : Hp} {Q : VK} (h : tE Γ W (eChain op op' fa fb fc) σ H Q) : tChain r r' (tE Γ W fa) (tE Γ W fb) (tE Γ W fc) σ H Q := by
  obtain ⟨env, ρ, F, s, g, l, k⟩ := h
  refine ⟨env, ρ, F, s, g, l, Po.bind k fun x s1 ρ1 F1 H1 v e1 l1 g1 r1 k1 => ?_⟩
  refine ⟨env, ρ1, F1, s1, g1, l.mono l1, Po.bind k1 fun y s2 ρ2 F2 H2 u e2 l2 g2 r2 k2 => ?_⟩
  refine ho ρ2 F2 s2 H2 v u x y _ _ g2 (Den.mono l2 _ _ r1) r2 (Po.bind k2 fun z s3 ρ3 F3 H3 t e3 l3 g3 r3 k3 => ?_)
  cases z with
  | bl b =>
    simp only [Den] at r3
    refine ⟨b, r3, ?_⟩
    cases b with
    | true =>
      refine ⟨env, ρ3, F3, s3, g3, (l.mono l1).mono (l2.trans l3), Po.bind k3 fun w s4 ρ4 F4 H4 q e4 l4 g4 r4 k4 => ?_⟩
      exact ho' ρ4 F4 s4 H4 u q y w Q _ g4 (Den.mono (l3.trans l4) _ _ r2) r4 k4
    | false => exact k3 ρ3 F3 H3 _ LE.refl g3 (by simp only [Den])
  | _ => exact False.elim k3
theorem last_no {op op' : CmpOp} {b c : Expr} (h : op' ≠ .In) (h2 : op' ≠ .NotIn) : lastMarks [op, op'] [b, c] = false := nobehind c h h2
theorem es_leLt (ha : ES J X W a fa) (hb : ES J X W b fb) (hc : ES J X W c fc) : ES J X W (.Compare a [.LtE, .Lt] [b, c] pos) (eChain dLe dLt fa fb fc) := PE.imp (pe_chain op_le op_lt ha hb hc (last_no (by decide) (by decide))) fun _ _ _ h => tE_chain (iOp_all fun _ _ _ _ => by simp only [Den]) (iOp_all fun _ _ _ _ => by simp only [Den]) h
theorem es_leLe (ha : ES J X W a fa) (hb : ES J X W b fb) (hc : ES J X W c fc) : ES J X W (.Compare a [.LtE, .LtE] [b, c] pos) (eChain dLe dLe fa fb fc) := PE.imp (pe_chain op_le op_le ha hb hc (last_no (by decide) (by decide))) fun _ _ _ h => tE_chain (iOp_all fun _ _ _ _ => by simp only [Den]) (iOp_all fun _ _ _ _ => by simp only [Den]) h
theorem es_ltLt (ha : ES J X W a fa) (hb : ES J X W b fb) (hc : ES J X W c fc) : ES J X W (.Compare a [.Lt, .Lt] [b, c] pos) (eChain dLt dLt fa fb fc) := PE.imp (pe_chain op_lt op_lt ha hb hc (last_no (by decide) (by decide))) fun _ _ _ h => tE_chain (iOp_all fun _ _ _ _ => by simp only [Den]) (iOp_all fun _ _ _ _ => by simp only [Den]) h
theorem es_ltLe (ha : ES J X W a fa) (hb : ES J X W b fb) (hc : ES J X W c fc) : ES J X W (.Compare a [.Lt, .LtE] [b, c] pos) (eChain dLt dLe fa fb fc) := PE.imp (pe_chain op_lt op_le ha hb hc (last_no (by decide) (by decide))) fun _ _ _ h => tE_chain (iOp_all fun _ _ _ _ => by simp only [Den]) (iOp_all fun _ _ _ _ => by simp only [Den]) h
theorem ts_leLt (ha : ES J X W a fa) (hb : ES J X W b fb) (hc : ES J X W c fc) : TSo J X W (.Compare a [.LtE, .Lt] [b, c] pos) (tBl (eChain dLe dLt fa fb fc)) := PT.imp (pt_chain op_le op_lt ha hb hc (last_no (by decide) (by decide))) fun _ _ _ h => tE_chain (iOp_all fun _ _ _ _ => by simp only [Den]) (iOp_all fun _ _ _ _ => by simp only [Den]) (tT_bl h)
theorem ts_leLe (ha : ES J X W a fa) (hb : ES J X W b fb) (hc : ES J X W c fc) : TSo J X W (.Compare a [.LtE, .LtE] [b, c] pos) (tBl (eChain dLe dLe fa fb fc)) := PT.imp (pt_chain op_le op_le ha hb hc (last_no (by decide) (by decide))) fun _ _ _ h => tE_chain (iOp_all fun _ _ _ _ => by simp only [Den]) (iOp_all fun _ _ _ _ => by simp only [Den]) (tT_bl h)
theorem ts_ltLt (ha : ES J X W a fa) (hb : ES J X W b fb) (hc : ES J X W c fc) : TSo J X W (.Compare a [.Lt, .Lt] [b, c] pos) (tBl (eChain dLt dLt fa fb fc)) := PT.imp (pt_chain op_lt op_lt ha hb hc (last_no (by decide) (by decide))) fun _ _ _ h => tE_chain (iOp_all fun _ _ _ _ => by simp only [Den]) (iOp_all fun _ _ _ _ => by simp only [Den]) (tT_bl h)
theorem ts_ltLe (ha : ES J X W a fa) (hb : ES J X W b fb) (hc : ES J X W c fc) : TSo J X W (.Compare a [.Lt, .LtE] [b, c] pos) (tBl (eChain dLt dLe fa fb fc)) := PT.imp (pt_chain op_lt op_le ha hb hc (last_no (by decide) (by decide))) fun _ _ _ h => tE_chain (iOp_all fun _ _ _ _ => by simp only [Den]) (iOp_all fun _ _ _ _ => by simp only [Den]) (tT_bl h)
end
end Pd
namespace Pd
open PySem L2
/-! ### flat things -/
def flatD : Dt → Bool
  | .non => true
  | .bl _ => true
  | .int _ => true
  | .str _ => true
  | _ => false
def feq : Dt → Dt → Bool
  | .non, .non => true
  | .bl a, .bl b => a == b
  | .bl a, .int b => (if a then 1 else 0) == b
  | .int a, .bl b => a == (if b then 1 else 0)
  | .int a, .int b => a == b
  | .str a, .str b => a == b
  | _, _ => false
def toVd : Dt → V
  | .bl b => .bl b
  | .int i => .int i
  | .str x => .str x
  | _ => .non
theorem eqV_toVd {d e : Dt} (h : flatD d = true) (k : flatD e = true) : eqV (toVd d) (toVd e) = feq d e := by
  cases d <;> cases e <;> first | rfl | exact Bool.noConfusion h | exact Bool.noConfusion k
theorem flatV_toVd (d : Dt) : flatV (toVd d) = true := by cases d <;> rfl
section
variable {Γ : Wd} {ρ : List Addr} {F H : Hp} {s : Sto}
theorem Den.flat {d : Dt} {v : V} (h : Den Γ ρ F d v) (k : flatD d = true) : v = toVd d := by
  cases d with
  | non => simp only [Den] at h; exact h
  | bl b => simp only [Den] at h; exact h
  | int i => simp only [Den] at h; exact h
  | str x => simp only [Den] at h; exact h.1
  | _ => simp [flatD] at k
theorem Dens.flat : ∀ {ds : List Dt} {vs : List V}, Dens Γ ρ F ds vs → ds.all flatD = true → vs = ds.map toVd
  | [], vs, h, k => by simp only [Dens] at h; exact h
  | d :: ds, vs, h, k => by
    simp only [Dens] at h
    obtain ⟨v, r, e, q, t⟩ := h
    simp only [List.all_cons, Bool.and_eq_true] at k
    rw [e, List.map_cons, q.flat k.1, Dens.flat t k.2]
end
theorem any_toVd {x : Dt} (hx : flatD x = true) : ∀ {ds : List Dt}, ds.all flatD = true → inV (toVd x) (ds.map toVd) = ds.any fun e => feq e x
  | [], _ => rfl
  | d :: ds, k => by
    simp only [List.all_cons, Bool.and_eq_true] at k
    have ih := any_toVd hx k.2
    unfold inV at ih ⊢
    rw [List.map_cons, List.any_cons, List.any_cons, ih, eqV_toVd k.1 hx]
theorem all_flat_map : ∀ ds : List Dt, (ds.map toVd).all flatV = true
  | [] => rfl
  | d :: ds => by rw [List.map_cons, List.all_cons, flatV_toVd, all_flat_map ds]; rfl
/-- x in y -/
def inB (s : Sto) (x y : Dt) : Option Bool := match y with
  | .str z => match x with
    | .str w => match w.cps.toList with
      | [c] => some (decide (c ∈ z.cps.toList))
      | _ => none
    | _ => none
  | _ => match asQ s y with
    | some l => if flatD x && l.all flatD then some (l.any fun e => feq e x) else match toPyS s x, toPyS s y with
      | some d, some (.list ds) => if d.depth ≤ 64 ∧ (PyData.list ds).depth ≤ 64 then some (ds.any fun z => PyData.eqv z d) else none
      | some d, some (.tuple ds) => if d.depth ≤ 64 ∧ (PyData.tuple ds).depth ≤ 64 then some (ds.any fun z => PyData.eqv z d) else none
      | _, _ => none
    | none => none
theorem str_one {w : Str} {c : Nat} (h : w.cps.toList = [c]) : w = ⟨#[c]⟩ := by
  cases w with
  | mk a =>
    have e : a = #[c] := by apply Array.toList_inj.mp; simpa using h
    rw [e]
def rInAll (K : PySem.W.Frag) (f : Bool → Bool) : R2 := fun x y H Q =>
  (∃ (c : Nat) (z : Str), x = .str ⟨#[c]⟩ ∧ y = .str z ∧ Q (.bl (f (decide (c ∈ z.cps.toList)))) H) ∨
  ((∃ p xs, y = .ref p ∧ (SqL K H p xs ∨ SqT K H p xs) ∧ flatV x = true ∧ xs.all flatV = true ∧ Q (.bl (f (inV x xs))) H) ∨
  ((∃ d ds, Dp K H x d ∧ Dp K H y (.list ds) ∧ SeqAt.shaped d = true ∧ SeqAt.shaped (.list ds) = true ∧ Q (.bl (f (ds.any fun z => PyData.eqv z d))) H) ∨
  ∃ d ds, Dp K H x d ∧ Dp K H y (.tuple ds) ∧ SeqAt.shaped d = true ∧ SeqAt.shaped (.tuple ds) = true ∧ Q (.bl (f (ds.any fun z => PyData.eqv z d))) H))
def rInT (K : PySem.W.Frag) (f : Bool → Bool) : R2 := fun x y H Q => ∃ d ds, Dp K H x d ∧ Dp K H y (.tuple ds) ∧ SeqAt.shaped d = true ∧ SeqAt.shaped (.tuple ds) = true ∧ Q (.bl (f (ds.any fun z => PyData.eqv z d))) H
theorem op_inT {X : Cx} (hu : X.A.units + 65 < cLine) : OpR X (compareOp .In) (rInT X.K fun b => b) := by
  intro pins s σ H x y v u Q I rx ry h
  obtain ⟨d, ds, hd, he, sd, se, q⟩ := h
  obtain ⟨as, r1⟩ := Dp.reads I d x v hd rx
  obtain ⟨bs, r2⟩ := Dp.reads I (.tuple ds) y u he ry
  exact SeqAt.in_tuple_reads r2 r1 (SeqAt.canLay_of_shaped se) (SeqAt.canLay_of_shaped sd) (PyProof.Rows.room_in_shaped sd hu) ⟨.bl _, H, I, rfl, q⟩
theorem op_notInT {X : Cx} (hu : X.A.units + 65 < cLine) : OpR X (compareOp .NotIn) (rInT X.K fun b => !b) := by
  intro pins s σ H x y v u Q I rx ry h
  obtain ⟨d, ds, hd, he, sd, se, q⟩ := h
  obtain ⟨as, r1⟩ := Dp.reads I d x v hd rx
  obtain ⟨bs, r2⟩ := Dp.reads I (.tuple ds) y u he ry
  exact SeqAt.notIn_tuple_reads r2 r1 (SeqAt.canLay_of_shaped se) (SeqAt.canLay_of_shaped sd) (PyProof.Rows.room_in_shaped sd hu) ⟨.bl _, H, I, rfl, q⟩
theorem inB_of {Γ : Wd} {f : Bool → Bool} : OpS Γ (rInAll Γ.K f) (fun x y s => ofO s ((inB s x y).map fun b => .bl (f b))) := by
  intro ρ F s H x y dx dy Q E g rx ry k
  obtain ⟨d, e, k⟩ := Po.ofO k
  obtain ⟨b, e1, e2⟩ := Option.map_eq_some_iff.mp e
  subst e2
  have fin : Q (.bl (f b)) H := k ρ F H _ LE.refl g (by simp only [Den])
  clear k e
  unfold inB at e1
  split at e1
  · rename_i z
    split at e1
    · rename_i w
      split at e1
      · rename_i c hc
        cases e1
        simp only [Den] at rx ry
        exact .inl ⟨c, z, by rw [rx.1, str_one hc], ry.1, fin⟩
      · cases e1
    · cases e1
  · split at e1
    · rename_i l hl
      split at e1
      · rename_i hf
        cases e1
        simp only [Bool.and_eq_true] at hf
        obtain ⟨a, xs, e3, q, t, _⟩ := g.sqQ ry hl
        have e4 := t.flat hf.2
        subst e4
        rw [← any_toVd hf.1 hf.2, ← rx.flat hf.1] at fin
        exact .inr (.inl ⟨a, _, e3, q, by rw [rx.flat hf.1]; exact flatV_toVd _, all_flat_map _, fin⟩)
      · split at e1
        · rename_i d' ds hd hds
          split at e1
          · rename_i hz
            cases e1
            obtain ⟨r1, r2⟩ := g.dp rx hd
            obtain ⟨r3, r4⟩ := g.dp ry hds
            exact .inr (.inr (.inl ⟨d', ds, r1, r3, shaped_of r2 hz.1, shaped_of r4 hz.2, fin⟩))
          · cases e1
        · rename_i d' ds hd hds
          split at e1
          · rename_i hz
            cases e1
            obtain ⟨r1, r2⟩ := g.dp rx hd
            obtain ⟨r3, r4⟩ := g.dp ry hds
            exact .inr (.inr (.inr ⟨d', ds, r1, r3, shaped_of r2 hz.1, shaped_of r4 hz.2, fin⟩))
          · cases e1
        · cases e1
    · cases e1
def dIn (x y : Dt) (s : Sto) : Out Dt := ofO s ((inB s x y).map fun b => .bl b)
def dNotIn (x y : Dt) (s : Sto) : Out Dt := ofO s ((inB s x y).map fun b => .bl (!b))
section
variable {J : Cn} {X : Cx} {W : WX} {a b c e : Expr} {es : List Expr} {fa fb fc : Ex} {fs : List Ex} {ft fu : Tx} {pos : Pos}
theorem c_in (hu : X.A.units + 65 < cLine) : CmpOk J X .In dIn :=
  ⟨_, OpR.or op_in_sign (OpR.or op_in_seq (OpR.or (op_inD hu) (op_inT hu))), fun ρ F s H x y dx dy Q E g rx ry k => inB_of (f := fun b => b) ρ F s H x y dx dy Q E g rx ry k⟩
theorem c_notIn (hu : X.A.units + 65 < cLine) : CmpOk J X .NotIn dNotIn :=
  ⟨_, OpR.or op_notIn_sign (OpR.or op_notIn_seq (OpR.or (op_notInD hu) (op_notInT hu))), fun ρ F s H x y dx dy Q E g rx ry k => inB_of (f := fun b => !b) ρ F s H x y dx dy Q E g rx ry k⟩
/-! ### displays -/
theorem evs_len : ∀ {fs : List Ex} {env : En} {s s' : Sto} {ds : List Dt}, evs fs env s = .ok ds s' → ds.length = fs.length
  | [], env, s, s', ds, h => by simp only [evs, Out.ok.injEq] at h; rw [← h.1]; rfl
  | f :: fs, env, s, s', ds, h => by
    simp only [evs, bnd] at h
    cases e1 : f env s with
    | ok d s1 =>
      rw [e1] at h
      simp only [] at h
      cases e2 : evs fs env s1 with
      | ok ds' s2 =>
        rw [e2] at h
        simp only [Out.ok.injEq] at h
        rw [← h.1, List.length_cons, List.length_cons, evs_len e2]
      | exc c s2 => rw [e2] at h; cases h
      | bad => rw [e2] at h; cases h
    | exc c s1 => rw [e1] at h; cases h
    | bad => rw [e1] at h; cases h
theorem as_nil : ASo J X W [] [] := PA.imp pa_nil fun σ H Q ⟨env, ρ, F, s, g, l, k⟩ => k ρ F H [] LE.refl g (by simp only [Dens])
theorem as_cons (ha : ES J X W e fa) (hr : ASo J X W es fs) (hs : starEach (e :: es) X.env = (false, eval e X.env) :: starEach es X.env := by rfl) : ASo J X W (e :: es) (fa :: fs) :=
  PA.imp (pa_cons ha hr hs) fun σ H Q ⟨env, ρ, F, s, g, l, k⟩ => ⟨env, ρ, F, s, g, l, Po.bind k fun x s1 ρ1 F1 H1 v e1 l1 g1 r1 k1 =>
    ⟨env, ρ1, F1, s1, g1, l.mono l1, Po.bind k1 fun xs s2 ρ2 F2 H2 vs e2 l2 g2 r2 k2 => k2 ρ2 F2 H2 _ LE.refl g2 (by simp only [Dens]; exact ⟨v, vs, rfl, Den.mono l2 _ _ r1, r2⟩)⟩⟩
def eTup (fs : List Ex) : Ex := fun env => bnd (evs fs env) fun ds s => .ok (.tup ds) s
theorem new_tup {Γ : Wd} {ρ : List Addr} {F H : Hp} {s : Sto} {ds : List Dt} {xs : List V} {p : Addr} {Q : VK} {E : Value → Hp → Prop} (g : G Γ ρ F s H) (t : Dens Γ ρ F ds xs) (hz : ds.length ≤ sizeLine) (hp : H p = none) (k : EPo Γ ρ F H Q E (.ok (.tup ds) s)) : Q (.ref p) (upd H p (.tup xs)) := by
  refine k ρ _ _ _ (LE.frz g hp) (g.frz _ hp) ?_
  simp only [Den]
  exact ⟨hz, p, xs, rfl, SqT.of upd_same, Dens.monoD (LD.upd (g.fnone hp)) _ _ t⟩
theorem es_tup {x1} (h : ASo J X W es fs) (hz : fs.length ≤ sizeLine := by decide) : ES J X W (.Tuple es x1 pos) (eTup fs) :=
  PE.imp (pe_tup h) fun σ H Q ⟨env, ρ, F, s, g, l, k⟩ => ⟨env, ρ, F, s, g, l, Po.bind k fun ds s1 ρ1 F1 H1 xs e1 l1 g1 r1 k1 => by
    have hl : ds.length ≤ sizeLine := by rw [evs_len e1]; exact hz
    exact ⟨by rw [← r1.length]; exact hl, fun p hp => new_tup g1 r1 hl hp k1⟩⟩
/-- a new list: one that never changes, or one of the store -/
def nwF (ds : List Dt) (s : Sto) : Out Dt := .ok (.lst ds) s
def nwM (ds : List Dt) (s : Sto) : Out Dt := .ok (.obj s.length) (s ++ [.lst ds])
def IsNw (nw : List Dt → Sto → Out Dt) : Prop := nw = nwF ∨ nw = nwM
theorem new_lst {nw : List Dt → Sto → Out Dt} (n : IsNw nw) {Γ : Wd} {ρ : List Addr} {F H : Hp} {s : Sto} {ds : List Dt} {xs : List V} {p : Addr} {Q : VK} {E : Value → Hp → Prop} (g : G Γ ρ F s H) (t : Dens Γ ρ F ds xs) (hz : ds.length ≤ sizeLine) (hp : H p = none) (k : EPo Γ ρ F H Q E (nw ds s)) : Q (.ref p) (upd H p (.lst xs)) := by
  rcases n with n | n
  · subst n
    refine k ρ _ _ _ (LE.frz g hp) (g.frz _ hp) ?_
    simp only [Den]
    exact ⟨hz, p, xs, rfl, upd_same, Dens.monoD (LD.upd (g.fnone hp)) _ _ t⟩
  · subst n
    refine k (ρ ++ [p]) F _ _ (LE.new hp) (g.new hp ⟨hz, xs, upd_same, Dens.monoD LD.push _ _ t⟩) ?_
    simp only [Den]
    exact ⟨p, rfl, by rw [← g.len, List.getElem?_append_right (Nat.le_refl _), Nat.sub_self]; rfl⟩
theorem isF : IsNw nwF := .inl rfl
theorem isM : IsNw nwM := .inr rfl
def eLst (nw : List Dt → Sto → Out Dt) (fs : List Ex) : Ex := fun env => bnd (evs fs env) nw
theorem es_lst {nw : List Dt → Sto → Out Dt} (n : IsNw nw) (h : ASo J X W es fs) (hz : fs.length ≤ sizeLine := by decide) : ES J X W (.List es pos) (eLst nw fs) :=
  PE.imp (pe_lst h) fun σ H Q ⟨env, ρ, F, s, g, l, k⟩ => ⟨env, ρ, F, s, g, l, Po.bind k fun ds s1 ρ1 F1 H1 xs e1 l1 g1 r1 k1 => by
    have hl : ds.length ≤ sizeLine := by rw [evs_len e1]; exact hz
    exact ⟨by rw [← r1.length]; exact hl, fun p hp => new_lst n g1 r1 hl hp k1⟩⟩
/-! ### a[b] -/
theorem strOk_mem {z : Str} {c : Nat} (h : PyData.strOk z = true) (hc : c ∈ z.cps.toList) : c < 0x110000 := by
  unfold PyData.strOk at h
  rw [Array.all_eq_true'] at h
  have := h c (Array.mem_toList_iff.mp hc)
  simpa using this
theorem strOk_of {z : Str} (h : ∀ c ∈ z.cps.toList, c < 0x110000) : PyData.strOk z = true := by
  unfold PyData.strOk
  rw [Array.all_eq_true']
  intro c hc
  simpa using h c (Array.mem_toList_iff.mpr hc)
theorem sok_of {z : Str} (h : ∀ c ∈ z.cps.toList, c < 0x110000) (k : z.length ≤ 1000000) : sok z = true := by
  unfold sok
  rw [strOk_of h, Bool.true_and]
  exact decide_eq_true k
theorem sok_mem {z : Str} {c : Nat} (h : sok z = true) (hc : c ∈ z.cps.toList) : c < 0x110000 := by
  unfold sok at h
  simp only [Bool.and_eq_true] at h
  exact strOk_mem h.1 hc
theorem sok_le {z : Str} (h : sok z = true) : z.length ≤ 1000000 := by
  unfold sok at h
  simp only [Bool.and_eq_true, decide_eq_true_eq] at h
  exact h.2
/-- a text made of signs of another one, not longer -/
theorem sok_sub {z y : Str} (h : sok z = true) (k : ∀ c ∈ y.cps.toList, c ∈ z.cps.toList) (l : y.length ≤ z.length) : sok y = true :=
  sok_of (fun c hc => sok_mem h (k c hc)) (Nat.le_trans l (sok_le h))
theorem sok_sign {z : Str} {c : Nat} (h : sok z = true) (hc : c ∈ z.cps.toList) : sok ⟨#[c]⟩ = true :=
  sok_of (fun d hd => by simp at hd; subst hd; exact sok_mem h hc) (by show 1 ≤ 1000000; decide)
def dIx (x y : Dt) (s : Sto) : Out Dt := match y with
  | .int i => match x with
    | .str z => ofO s ((atI z.cps.toList i).map fun c => .str ⟨#[c]⟩)
    | x => ofO s ((asQ s x).bind fun l => atI l i)
  | _ => .bad
theorem Dens.atI {Γ : Wd} {ρ : List Addr} {F : Hp} {ds : List Dt} {xs : List V} {i : Int} {d : Dt} (t : Dens Γ ρ F ds xs) (h : L2.atI ds i = some d) : ∃ v, L2.atI xs i = some v ∧ Den Γ ρ F d v := by
  unfold L2.atI at h ⊢
  rw [← t.length]
  obtain ⟨j, e1, e2⟩ := Option.bind_eq_some_iff.mp h
  obtain ⟨v, e3, r⟩ := t.get e2
  exact ⟨v, by rw [e1]; exact e3, r⟩
theorem atI_mem {α : Type} {l : List α} {i : Int} {d : α} (h : L2.atI l i = some d) : d ∈ l := by
  obtain ⟨j, _, e, _⟩ := atI_get h
  exact List.mem_of_getElem? e
theorem dIx_ok {Γ : Wd} : OpS Γ (rIx Γ.K) dIx := by
  intro ρ F s H x y dx dy Q E g rx ry k
  cases dy with
  | int i =>
    simp only [Den] at ry
    unfold dIx at k
    have gen : ∀ l, asQ s dx = some l → EPo Γ ρ F H Q E (ofO s (L2.atI l i)) → rIx Γ.K x y H Q := fun l hl k => by
      obtain ⟨d, e, k⟩ := Po.ofO k
      obtain ⟨a, xs, e1, q, t, _⟩ := g.sqQ rx hl
      obtain ⟨v, e2, r⟩ := t.atI e
      have fin := k ρ F H v LE.refl g r
      rcases q with q | q
      · exact .inl ⟨a, xs, i, v, e1, ry, q, e2, fin⟩
      · exact .inr (.inl ⟨a, xs, i, v, e1, ry, q, e2, fin⟩)
    cases dx with
    | str z =>
      obtain ⟨d, e, k⟩ := Po.ofO k
      obtain ⟨c, e1, e2⟩ := Option.map_eq_some_iff.mp e
      subst e2
      simp only [Den] at rx
      exact .inr (.inr ⟨z, i, c, rx.1, ry, sok_len rx.2, e1, k ρ F H _ LE.refl g (by simp only [Den]; exact ⟨trivial, sok_sign rx.2 (atI_mem e1)⟩)⟩)
    | tup l => exact gen l rfl k
    | lst l => exact gen l rfl k
    | lsk l => exact gen l rfl k
    | obj j =>
      simp only [] at k
      cases e : asQ s (.obj j) with
      | none => rw [e] at k; exact False.elim k
      | some l => rw [e] at k; exact gen l e k
    | _ => exact False.elim k
  | _ => exact False.elim k
theorem es_ix (ha : ES J X W a fa) (hb : ES J X W b fb) (hs : PlainIx b := by exact fun _ _ => rfl) : ES J X W (.Subscript a b pos) (eOp dIx fa fb) :=
  PE.imp (pe_ix ix_seq ha hb hs) fun _ _ _ h => tE_op dIx_ok h
/-! ### slices -/
def evp : Option Ex → En → Sto → Out (Option Int)
  | none, _, s => .ok none s
  | some f, env, s => bnd (f env) (fun d s => match d with | .int i => .ok (some i) s | _ => .bad) s
def tP (Γ : Wd) (W : WX) (f : Option Ex) : TO := fun σ H Q => ∃ env ρ F s, G Γ ρ F s H ∧ Sl Γ ρ F env σ ∧ Po Γ (fun _ _ (a b : Option Int) => a = b) ρ F H Q (fun c H' => W c none σ H') (evp f env s)
abbrev OS (J : Cn) (X : Cx) (W : WX) (e : Option Expr) (f : Option Ex) : Prop := PO X e (tP (wd J X) W f)
theorem PO.imp {X : Cx} {e : Option Expr} {t t' : TO} (h : PO X e t) (k : ∀ σ H Q, t' σ H Q → t σ H Q) : PO X e t' := ⟨fun pins s σ H Q I q => h.run pins s σ H Q I (k σ H Q q)⟩
theorem os_none : OS J X W none none := PO.imp po_none fun σ H Q ⟨env, ρ, F, s, g, l, k⟩ => k ρ F H none LE.refl g rfl
theorem os_some (h : ES J X W e fa) : OS J X W (some e) (some fa) := PO.imp (po_some h) fun σ H Q ⟨env, ρ, F, s, g, l, k⟩ => ⟨env, ρ, F, s, g, l, Po.bind k fun x s1 ρ1 F1 H1 v e1 l1 g1 r1 k1 => by
  cases x with
  | int i => simp only [Den] at r1; exact ⟨i, r1, k1 ρ1 F1 H1 _ LE.refl g1 rfl⟩
  | _ => exact False.elim k1⟩
def cutD {α : Type} (xs : List α) (lo hi : Option Int) : List α := (xs.drop (HT.sIx xs.length 0 lo)).take (HT.sIx xs.length xs.length hi - HT.sIx xs.length 0 lo)
theorem cutD_length {α : Type} (xs : List α) (lo hi : Option Int) : (cutD xs lo hi).length ≤ xs.length := by
  unfold cutD
  rw [List.length_take, List.length_drop]
  omega
theorem Dens.cut {Γ : Wd} {ρ : List Addr} {F : Hp} {ds : List Dt} {xs : List V} (t : Dens Γ ρ F ds xs) (lo hi : Option Int) : Dens Γ ρ F (cutD ds lo hi) (cutV xs lo hi) := by
  unfold cutD cutV
  rw [← t.length]
  exact Dens.take _ (Dens.drop _ t)
theorem sok_cut {z : Str} (h : sok z = true) (lo hi : Option Int) : sok (cutS z lo hi) = true :=
  sok_sub h (fun c hc => by
    unfold cutS at hc
    exact List.mem_of_mem_drop (List.mem_of_mem_take (by simpa using hc))) (cutS_length z lo hi)
def dSl (nw : List Dt → Sto → Out Dt) (x : Dt) (lo hi : Option Int) (s : Sto) : Out Dt := match x with
  | .str z => .ok (.str (cutS z lo hi)) s
  | .tup l => .ok (.tup (cutD l lo hi)) s
  | x => match asL s x with
    | some l => nw (cutD l lo hi) s
    | none => .bad
def eSl (nw : List Dt → Sto → Out Dt) (fa : Ex) (lo hi : Option Ex) : Ex := fun env => bnd (fa env) fun x => bnd (evp lo env) fun l => bnd (evp hi env) fun u => dSl nw x l u
theorem cut_whole {α : Type} {xs : List α} {lo hi : Option Int} (h : HT.sIx xs.length 0 lo = 0 ∧ HT.sIx xs.length xs.length hi = xs.length) : cutD xs lo hi = xs := by
  unfold cutD
  rw [h.1, h.2, List.drop_zero, Nat.sub_zero, List.take_length]
theorem dSl_ok {Γ : Wd} {nw : List Dt → Sto → Out Dt} (n : IsNw nw) {ρ : List Addr} {F H : Hp} {s : Sto} {x : V} {d : Dt} {lo hi : Option Int} {Q : VK} {E : Value → Hp → Prop} (g : G Γ ρ F s H) (r : Den Γ ρ F d x) (k : EPo Γ ρ F H Q E (dSl nw d lo hi s)) :
    rSlL Γ.K x lo hi H Q ∨ rSlA Γ.K x lo hi H Q ∨ rSlS x lo hi H Q := by
  have gen : ∀ l, asL s d = some l → EPo Γ ρ F H Q E (nw (cutD l lo hi) s) → rSlL Γ.K x lo hi H Q := fun l hl k => by
    obtain ⟨a, xs, e1, q, t, z⟩ := g.sqL r hl
    exact ⟨a, xs, e1, q, fun p hp => new_lst n g (t.cut lo hi) (Nat.le_trans (cutD_length _ _ _) z) hp k⟩
  cases d with
  | str z =>
    simp only [Den] at r
    exact .inr (.inr ⟨z, r.1, sok_len r.2, k ρ F H _ LE.refl g (by simp only [Den]; exact ⟨trivial, sok_cut r.2 lo hi⟩)⟩)
  | tup l =>
    obtain ⟨a, xs, e1, q, t, z⟩ := g.sqT r (l := l) rfl
    refine .inr (.inl ⟨a, xs, e1, q, fun hw => ?_, fun _ p hp => new_tup g (t.cut lo hi) (Nat.le_trans (cutD_length _ _ _) z) hp k⟩)
    rw [← t.length] at hw
    have e : dSl nw (.tup l) lo hi s = .ok (.tup l) s := by show Out.ok (Dt.tup (cutD l lo hi)) s = _; rw [cut_whole hw]
    rw [e] at k
    exact k ρ F H _ LE.refl g (by rw [← e1]; exact r)
  | lst l => exact .inl (gen l rfl k)
  | lsk l => exact .inl (gen l rfl k)
  | obj j =>
    cases e : asL s (.obj j) with
    | none => simp only [dSl, e] at k; exact False.elim k
    | some l => simp only [dSl, e] at k; exact .inl (gen l e k)
  | _ => exact False.elim k
theorem es_sl {nw : List Dt → Sto → Out Dt} (n : IsNw nw) {lo hi : Option Expr} {fl fh : Option Ex} {p2 : Pos} (ha : ES J X W a fa) (hl : OS J X W lo fl) (hh : OS J X W hi fh) : ES J X W (.Subscript a (.Slice lo hi none p2) pos) (eSl nw fa fl fh) :=
  PE.imp (pe_slice (SlR.or sl_list (SlR.or sl_tupA sl_str)) ha hl hh) fun σ H Q ⟨env, ρ, F, s, g, l, k⟩ => ⟨env, ρ, F, s, g, l, Po.bind k fun x s1 ρ1 F1 H1 v e1 l1 g1 r1 k1 =>
    ⟨env, ρ1, F1, s1, g1, l.mono l1, Po.bind k1 fun lo s2 ρ2 F2 H2 lo' e2 l2 g2 r2 k2 =>
      ⟨env, ρ2, F2, s2, g2, l.mono (l1.trans l2), Po.bind k2 fun hi s3 ρ3 F3 H3 hi' e3 l3 g3 r3 k3 => by
        subst r2; subst r3
        exact dSl_ok n g3 (Den.mono (l2.trans l3) _ _ r1) k3⟩⟩⟩
end
end Pd
namespace Pd
open PySem L2
section
variable {J : Cn} {X : Cx} {W : WX} {a b c e e2 : Expr} {es : List Expr} {fa fb fc fe : Ex} {fs : List Ex} {ft fu : Tx} {pos p : Pos}
/-! ### built-ins by their names -/
def C1S (Γ : Wd) (r : List V → Hp → VK → Prop) (op : Dt → Sto → Out Dt) : Prop := ∀ ρ F s H x dx Q E, G Γ ρ F s H → Den Γ ρ F dx x → EPo Γ ρ F H Q E (op dx s) → r [x] H Q
def C2S (Γ : Wd) (r : List V → Hp → VK → Prop) (op : Dt → Dt → Sto → Out Dt) : Prop := ∀ ρ F s H x y dx dy Q E, G Γ ρ F s H → Den Γ ρ F dx x → Den Γ ρ F dy y → EPo Γ ρ F H Q E (op dx dy s) → r [x, y] H Q
/-- a built-in of one argument that is known -/
def B1 (J : Cn) (X : Cx) (v : Value) (op : Dt → Sto → Out Dt) : Prop := ∃ r, CallR X v r ∧ C1S (wd J X) r op
def B2 (J : Cn) (X : Cx) (v : Value) (op : Dt → Dt → Sto → Out Dt) : Prop := ∃ r, CallR X v r ∧ C2S (wd J X) r op
theorem es_b1 {x : Str} {id : String} {op : Dt → Sto → Out Dt} (h : B1 J X (.builtin id) op) (hg : Gl X x) (hm : X.mg x = none) (hv : bootBuiltins x = some (.builtin id)) (ha : ES J X W e fe) (hn : x ≠ "__name__" := by decide) (hdb : (x == ("__debug__" : Str)) = false := by decide)
    (he : starEach (e :: []) X.env = (false, eval e X.env) :: starEach [] X.env := by rfl) : ES J X W (.Call (.Name x p) [e] [] pos) (eUn op fe) := by
  obtain ⟨r, hc, ho⟩ := h
  exact PE.imp (pe_callB hc hg hm hv (pa_cons ha pa_nil he) hn hdb he rfl) fun σ H Q ⟨env, ρ, F, s, g, l, k⟩ => ⟨env, ρ, F, s, g, l, Po.bind k fun x s1 ρ1 F1 H1 v e1 l1 g1 r1 k1 => ho ρ1 F1 s1 H1 v x Q _ g1 r1 k1⟩
theorem es_y1 {x : Str} {id : String} {op : Dt → Sto → Out Dt} (h : B1 J X (.type id) op) (hg : Gl X x) (hm : X.mg x = none) (hv : bootBuiltins x = some (.type id)) (ha : ES J X W e fe) (hn : x ≠ "__name__" := by decide) (hdb : (x == ("__debug__" : Str)) = false := by decide)
    (he : starEach (e :: []) X.env = (false, eval e X.env) :: starEach [] X.env := by rfl) : ES J X W (.Call (.Name x p) [e] [] pos) (eUn op fe) := by
  obtain ⟨r, hc, ho⟩ := h
  exact PE.imp (pe_callTy hc hg hm hv (pa_cons ha pa_nil he) hn hdb he rfl) fun σ H Q ⟨env, ρ, F, s, g, l, k⟩ => ⟨env, ρ, F, s, g, l, Po.bind k fun x s1 ρ1 F1 H1 v e1 l1 g1 r1 k1 => ho ρ1 F1 s1 H1 v x Q _ g1 r1 k1⟩
theorem es_b2 {x : Str} {id : String} {op : Dt → Dt → Sto → Out Dt} (h : B2 J X (.builtin id) op) (hg : Gl X x) (hm : X.mg x = none) (hv : bootBuiltins x = some (.builtin id)) (ha : ES J X W a fa) (hb : ES J X W b fb) (hn : x ≠ "__name__" := by decide) (hdb : (x == ("__debug__" : Str)) = false := by decide)
    (he : starEach [a, b] X.env = [(false, eval a X.env), (false, eval b X.env)] := by rfl) (he2 : starEach [b] X.env = [(false, eval b X.env)] := by rfl) : ES J X W (.Call (.Name x p) [a, b] [] pos) (eOp op fa fb) := by
  obtain ⟨r, hc, ho⟩ := h
  have h1 : starEach (a :: [b]) X.env = (false, eval a X.env) :: starEach [b] X.env := by rw [he2]; exact he
  have h2 : starEach (b :: []) X.env = (false, eval b X.env) :: starEach [] X.env := he2
  have h3 : (backTo pos (starEach [b] X.env)).any (·.1) = false := by rw [he2]; rfl
  exact PE.imp (pe_callB hc hg hm hv (pa_cons ha (pa_cons hb pa_nil h2) h1) hn hdb h1 h3) fun σ H Q ⟨env, ρ, F, s, g, l, k⟩ => ⟨env, ρ, F, s, g, l, Po.bind k fun x s1 ρ1 F1 H1 v e1 l1 g1 r1 k1 =>
    ⟨env, ρ1, F1, s1, g1, l.mono l1, Po.bind k1 fun y s2 ρ2 F2 H2 u e2 l2 g2 r2 k2 => ho ρ2 F2 s2 H2 v u x y Q _ g2 (Den.mono l2 _ _ r1) r2 k2⟩⟩
/-- len -/
def lenD (s : Sto) (d : Dt) : Option Nat := match d with
  | .str x => some x.length
  | .obj i => match s[i]? with
    | some (.lst l) => some l.length
    | some (.dic kvs) => some kvs.length
    | _ => none
  | d => (asQ s d).map (·.length)
def dLen (d : Dt) (s : Sto) : Out Dt := ofO s ((lenD s d).map fun (n : Nat) => .int n)
theorem len_dict {X : Cx} : CallR X (.builtin "len") (fun xs H Q => ∃ a kvs, xs = [.ref a] ∧ Rd H a (.dK kvs) ∧ Q (.int kvs.length) H) := by
  intro pins s σ H xs us Q I r h
  obtain ⟨a, kvs, e, hd, q⟩ := h
  subst e
  obtain ⟨u, e, ru⟩ := vals1 r
  subst e
  obtain rfl : u = Value.ref a := ru
  exact d_len I hd fun t s' I' => ⟨.int kvs.length, H, I', ⟨t, rfl⟩, q⟩
theorem b_len : B1 J X (.builtin "len") dLen := ⟨_, CallR.or call_len len_dict, fun ρ F s H x dx Q E g rx k => by
  obtain ⟨d, e, k⟩ := Po.ofO k
  obtain ⟨n, e1, e2⟩ := Option.map_eq_some_iff.mp e
  subst e2
  have fin : Q (.int n) H := k ρ F H _ LE.refl g (by simp only [Den])
  have gen : ∀ l, asQ s dx = some l → n = l.length → (∃ x' n', [x] = [x'] ∧ LenV X.K x' H n' ∧ Q (.int n') H) := fun l hl hn => by
    obtain ⟨a, xs, e1, q, t, _⟩ := g.sqQ rx hl
    subst e1
    refine ⟨_, n, rfl, ?_, fin⟩
    rw [hn, t.length]
    rcases q with q | q
    · exact .inl ⟨xs, q, rfl⟩
    · exact .inr ⟨xs, q, rfl⟩
  cases dx with
  | str z =>
    simp only [Den] at rx
    simp only [lenD, Option.some.injEq] at e1
    obtain ⟨rx, hk⟩ := rx
    subst rx; subst e1
    exact .inl ⟨_, _, rfl, ⟨sok_len hk, rfl⟩, fin⟩
  | tup l => simp [lenD, asQ] at e1; exact .inl (gen l rfl e1.symm)
  | lst l => simp [lenD, asQ, asL] at e1; exact .inl (gen l rfl e1.symm)
  | lsk l => simp [lenD, asQ, asL] at e1; exact .inl (gen l rfl e1.symm)
  | obj i =>
    simp only [lenD] at e1
    split at e1
    · rename_i l hs
      cases e1
      exact .inl (gen l (by simp only [asQ, asL, hs]) rfl)
    · rename_i l hs
      cases e1
      simp only [Den] at rx
      obtain ⟨a, e2, q⟩ := rx
      subst e2
      obtain ⟨z, vs, hx, t⟩ := g.at_ i a _ q hs
      exact .inr ⟨a, vs, rfl, .inl hx, by rw [← t.length]; exact fin⟩
    · cases e1
  | _ => simp [lenD, asQ, asL] at e1⟩
/-- ord -/
def dOrd (d : Dt) (s : Sto) : Out Dt := match d with
  | .str x => match x.cps.toList with
    | [c] => .ok (.int c) s
    | _ => .bad
  | _ => .bad
theorem b_ord : B1 J X (.builtin "ord") dOrd := ⟨_, call_ord, fun ρ F s H x dx Q E g rx k => by
  cases dx with
  | str z =>
    simp only [Den] at rx
    simp only [dOrd] at k
    split at k
    · rename_i c hc
      obtain ⟨rx, hk⟩ := rx
      have e := str_one hc
      subst e
      exact ⟨_, by rw [rx], rfl, k ρ F H _ LE.refl g (by simp only [Den]; rfl)⟩
    · exact False.elim k
  | _ => exact False.elim k⟩
/-- all, any of a list of truths -/
def asB : List Dt → Option (List Bool)
  | [] => some []
  | .bl b :: r => (asB r).map (b :: ·)
  | _ => none
theorem Dens.bools {Γ : Wd} {ρ : List Addr} {F : Hp} : ∀ {l : List Dt} {xs : List V} {bs : List Bool}, Dens Γ ρ F l xs → asB l = some bs → xs = bs.map V.bl
  | [], xs, bs, h, e => by simp only [Dens] at h; simp only [asB, Option.some.injEq] at e; subst e; exact h
  | d :: l, xs, bs, h, e => by
    simp only [Dens] at h
    obtain ⟨v, r, e1, q, t⟩ := h
    cases d with
    | bl b =>
      simp only [asB, Option.map_eq_some_iff] at e
      obtain ⟨bs', e2, e3⟩ := e
      simp only [Den] at q
      subst e3; subst e1; subst q
      rw [Dens.bools t e2]; rfl
    | _ => simp [asB] at e
def dAll (d : Dt) (s : Sto) : Out Dt := ofO s (((asL s d).bind asB).map fun bs => .bl (bs.all id))
def dAny (d : Dt) (s : Sto) : Out Dt := ofO s (((asL s d).bind asB).map fun bs => .bl (bs.any id))
theorem b_all (hc : X.calm = true) : B1 J X (.builtin "all") dAll := ⟨_, cr_all hc, fun ρ F s H x dx Q E g rx k => by
  obtain ⟨d, e, k⟩ := Po.ofO k
  obtain ⟨bs, e1, e2⟩ := Option.map_eq_some_iff.mp e
  obtain ⟨l, e3, e4⟩ := Option.bind_eq_some_iff.mp e1
  subst e2
  obtain ⟨a, xs, e5, q, t, _⟩ := g.sqL rx e3
  subst e5
  have e6 := t.bools e4
  subst e6
  exact ⟨a, bs, rfl, q, k ρ F H _ LE.refl g (by simp only [Den])⟩⟩
theorem b_any (hc : X.calm = true) : B1 J X (.builtin "any") dAny := ⟨_, cr_any hc, fun ρ F s H x dx Q E g rx k => by
  obtain ⟨d, e, k⟩ := Po.ofO k
  obtain ⟨bs, e1, e2⟩ := Option.map_eq_some_iff.mp e
  obtain ⟨l, e3, e4⟩ := Option.bind_eq_some_iff.mp e1
  subst e2
  obtain ⟨a, xs, e5, q, t, _⟩ := g.sqL rx e3
  subst e5
  have e6 := t.bools e4
  subst e6
  exact ⟨a, bs, rfl, q, k ρ F H _ LE.refl g (by simp only [Den])⟩⟩
def dMax := iOp (fun i j => .int (if j > i then j else i)) fun _ _ => true
def dMin := iOp (fun i j => .int (if j < i then j else i)) fun _ _ => true
theorem b_max (hc : X.calm = true) : B2 J X (.builtin "max") dMax := ⟨_, call_max2 hc, fun ρ F s H x y dx dy Q E g rx ry k => by
  obtain ⟨i, j, e1, e2, q⟩ := iOp_all (Γ := wd J X) (gv := fun i j => .int (if j > i then j else i)) (fun _ _ _ _ => by simp only [Den]) ρ F s H x y dx dy Q E g rx ry k
  subst e1; subst e2
  exact ⟨i, j, rfl, q⟩⟩
theorem b_min (hc : X.calm = true) : B2 J X (.builtin "min") dMin := ⟨_, call_min2 hc, fun ρ F s H x y dx dy Q E g rx ry k => by
  obtain ⟨i, j, e1, e2, q⟩ := iOp_all (Γ := wd J X) (gv := fun i j => .int (if j < i then j else i)) (fun _ _ _ _ => by simp only [Den]) ρ F s H x y dx dy Q E g rx ry k
  subst e1; subst e2
  exact ⟨i, j, rfl, q⟩⟩
def dInt (d : Dt) (s : Sto) : Out Dt := match d with
  | .int i => .ok (.int i) s
  | .bl b => .ok (.int (if b then 1 else 0)) s
  | _ => .bad
theorem b_int : B1 J X (.type "int") dInt := ⟨_, call_int1, fun ρ F s H x dx Q E g rx k => by
  cases dx with
  | int i => simp only [Den] at rx; subst rx; exact .inl ⟨i, rfl, k ρ F H _ LE.refl g (by simp only [Den])⟩
  | bl i => simp only [Den] at rx; subst rx; exact .inr ⟨i, rfl, k ρ F H _ LE.refl g (by simp only [Den])⟩
  | _ => exact False.elim k⟩
/-- list(x), tuple(x) of a list or a tuple -/
def dList (nw : List Dt → Sto → Out Dt) (d : Dt) (s : Sto) : Out Dt := match asQ s d with
  | some l => nw l s
  | none => .bad
theorem b_list {nw : List Dt → Sto → Out Dt} (n : IsNw nw) : B1 J X (.type "list") (dList nw) := ⟨_, call_list_of, fun ρ F s H x dx Q E g rx k => by
  unfold dList at k
  split at k
  · rename_i l hl
    obtain ⟨a, xs, e5, q, t, z⟩ := g.sqQ rx hl
    subst e5
    exact ⟨a, xs, rfl, q, fun p hp => new_lst n g t z hp k⟩
  · exact False.elim k⟩
def dTuple (d : Dt) (s : Sto) : Out Dt := ofO s ((asQ s d).map .tup)
theorem b_tuple : B1 J X (.type "tuple") dTuple := ⟨_, call_tuple_of, fun ρ F s H x dx Q E g rx k => by
  obtain ⟨d, e, k⟩ := Po.ofO k
  obtain ⟨l, e1, e2⟩ := Option.map_eq_some_iff.mp e
  subst e2
  have gen : asL s dx = some l → ∃ p ys, [x] = [V.ref p] ∧ ((SqL X.K H p ys ∧ ∀ l, H l = none → Q (.ref l) (upd H l (.tup ys))) ∨ (SqT X.K H p ys ∧ Q (.ref p) H)) := fun hl => by
    obtain ⟨a, xs, e5, q, t, z⟩ := g.sqL rx hl
    subst e5
    exact ⟨a, xs, rfl, .inl ⟨q, fun p hp => new_tup g t z hp k⟩⟩
  cases dx with
  | tup l' =>
    simp only [asQ, Option.some.injEq] at e1
    subst e1
    obtain ⟨a, xs, e6, q, t, z⟩ := g.sqT rx (l := l') rfl
    have fin := k ρ F H x LE.refl g rx
    subst e6
    exact ⟨a, xs, rfl, .inr ⟨q, fin⟩⟩
  | _ => exact gen e1⟩
end
end Pd
namespace Pd
open PySem L2
/-! ### statements -/
def sBnd {α : Type} (m : Sto → Out α) (env : En) (k : α → Sto → Res) (s : Sto) : Res := match m s with
  | .ok a s' => k a s'
  | .exc c s' => .exc c env s'
  | .bad => .bad
theorem FPo.bind {α β : Type} {Γ : Wd} {W : WX} {R1 : List Addr → Hp → α → β → Prop} {ρ : List Addr} {F H : Hp} {D : Ends} {Q1 : β → Hp → Prop} {m : Sto → Out α} {k : α → Sto → Res} {env : En} {σ : St} {s : Sto}
    (h : FPo Γ W ρ F H D (sBnd m env k s)) (sl : Sl Γ ρ F env σ) (hk : ∀ a s' ρ' F' H' v, m s = .ok a s' → LE ρ F H ρ' F' H' → G Γ ρ' F' s' H' → R1 ρ' F' a v → FPo Γ W ρ' F' H' D (k a s') → Q1 v H') : Po Γ R1 ρ F H Q1 (fun c H' => W c none σ H') (m s) := by
  unfold sBnd at h
  cases e : m s with
  | ok a s' =>
    rw [e] at h
    exact fun ρ' F' H' v l g r => hk a s' ρ' F' H' v e l g r (h.le l)
  | exc c s' =>
    rw [e] at h
    exact fun ρ' F' H' C l g r => h ρ' F' H' σ C l g (sl.mono l) r
  | bad => rw [e] at h; exact h
section
variable {J : Cn} {X : Cx} {W : WX} {a b c e e2 o : Expr} {es : List Expr} {fa fb fc fe fo : Ex} {fs : List Ex} {ft fu : Tx} {pos p : Pos} {st : Stmt} {rest : List Stmt} {f1 f2 : Sx}
def sNext : Sx := fun env s => .fl (.nx env) s
def sSeq (f g : Sx) : Sx := fun env s => match f env s with
  | .fl (.nx e) s' => g e s'
  | r => r
theorem ss_nil : SSs J X W [] sNext := PSs.imp pss_nil fun D σ H ⟨env, ρ, F, s, g, l, k⟩ => k ρ F H σ LE.refl g l
theorem ss_pass : SS J X W (.Pass pos) sNext := PS.imp ps_pass fun D σ H ⟨env, ρ, F, s, g, l, k⟩ => k ρ F H σ LE.refl g l
theorem ss_one (h : SS J X W st f1) : SSs J X W [st] f1 := pss_one h
theorem ss_cons (h1 : SS J X W st f1) (h2 : SSs J X W rest f2) : SSs J X W (st :: rest) (sSeq f1 f2) :=
  PSs.imp (pss_cons h1 h2) fun D σ H ⟨env, ρ, F, s, g, l, k⟩ => by
    refine ⟨env, ρ, F, s, g, l, ?_⟩
    unfold sSeq at k
    cases e : f1 env s with
    | fl f s1 =>
      rw [e] at k
      cases f with
      | nx e1 => exact fun ρ' F' H' σ' l' g' sl' => ⟨e1, ρ', F', s1, g', sl', k.le l'⟩
      | rt d => exact k
      | bk d => exact k
      | ct d => exact k
    | exc c e1 s1 => rw [e] at k; exact k
    | bad => rw [e] at k; exact k
def sBreak : Sx := fun env s => .fl (.bk env) s
theorem ss_break : SS J X W (.Break pos) sBreak := PS.imp ps_break fun D σ H ⟨env, ρ, F, s, g, l, k⟩ => k ρ F H σ LE.refl g l
def sCont : Sx := fun env s => .fl (.ct env) s
theorem ss_cont : SS J X W (.Continue pos) sCont := PS.imp ps_continue fun D σ H ⟨env, ρ, F, s, g, l, k⟩ => k ρ F H σ LE.refl g l
def sExpr (f : Ex) : Sx := fun env => sBnd (f env) env fun _ s => .fl (.nx env) s
theorem ss_expr (h : ES J X W e fe) (hs : swapsWith e none pos.line X.env = pure false := by rfl) : SS J X W (.Expr e pos) (sExpr fe) :=
  PS.imp (ps_expr h hs) fun D σ H ⟨env, ρ, F, s, g, l, k⟩ => ⟨env, ρ, F, s, g, l, FPo.bind k l fun d s1 ρ1 F1 H1 v e1 l1 g1 r1 k1 => k1 ρ1 F1 H1 σ LE.refl g1 (l.mono l1)⟩
def sRet (f : Ex) : Sx := fun env => sBnd (f env) env fun d s => .fl (.rt d) s
theorem ss_ret (h : ES J X W e fe) : SS J X W (.Return (some e) pos) (sRet fe) :=
  PS.imp (ps_ret h) fun D σ H ⟨env, ρ, F, s, g, l, k⟩ => ⟨env, ρ, F, s, g, l, FPo.bind k l fun d s1 ρ1 F1 H1 v e1 l1 g1 r1 k1 => k1 ρ1 F1 H1 v LE.refl g1 r1⟩
def sIf (t : Tx) (f g : Sx) : Sx := fun env => sBnd (t env) env fun c s => if c = true then f env s else g env s
theorem ss_if {x y : List Stmt} (hc : TSo J X W c ft) (ha : SSs J X W x f1) (hb : SSs J X W y f2) : SS J X W (.If c x y pos) (sIf ft f1 f2) :=
  PS.imp (ps_if hc ha hb) fun D σ H ⟨env, ρ, F, s, g, l, k⟩ => ⟨env, ρ, F, s, g, l, FPo.bind k l fun d s1 ρ1 F1 H1 v e1 l1 g1 r1 k1 => by
    subst r1
    cases d with
    | true => exact ⟨env, ρ1, F1, s1, g1, l.mono l1, k1⟩
    | false => exact ⟨env, ρ1, F1, s1, g1, l.mono l1, k1⟩⟩
/-! targets -/
abbrev Tg := Dt → En → Option En
def tG (Γ : Wd) (is : List Nat) (tg : Tg) : TG := fun v σ H Q => ∃ env ρ F s d env', G Γ ρ F s H ∧ Sl Γ ρ F env σ ∧ Den Γ ρ F d v ∧ tg d env = some env' ∧
  ∀ σ', Sl Γ ρ F env' σ' → σ'.length = σ.length → (∀ j, j ∉ is → σ'[j]? = σ[j]?) → Q σ' H
abbrev GS (J : Cn) (X : Cx) (tgt : Expr) (is : List Nat) (tg : Tg) : Prop := PG X tgt (tG (wd J X) is tg)
theorem PG.imp {X : Cx} {e : Expr} {t t' : TG} (h : PG X e t) (k : ∀ v σ H Q, t' v σ H Q → t v σ H Q) : PG X e t' := ⟨fun pins s σ H v u Q I r q => h.run pins s σ H v u Q I r (k v σ H Q q)⟩
def gN (i : Nat) : Tg := fun d env => some (env.set i (some d))
theorem gs_name {i : Nat} (h : PG X e (gName i)) : GS J X e [i] (gN i) := PG.imp h fun v σ H Q ⟨env, ρ, F, s, d, env', g, l, r, e, k⟩ => by
  unfold gN at e
  cases e
  exact k _ (l.set r i) (by rw [List.length_set]) fun j hj => by rw [List.getElem?_set_ne (fun z => hj (by rw [z]; exact List.mem_singleton_self _))]
def setAll : List Nat → List Dt → En → Option En
  | [], [], env => some env
  | i :: is, d :: ds, env => setAll is ds (env.set i (some d))
  | _, _, _ => none
def tGs (Γ : Wd) (is : List Nat) : TGs := fun vs σ H Q => ∃ env ρ F s ds env', G Γ ρ F s H ∧ Sl Γ ρ F env σ ∧ Dens Γ ρ F ds vs ∧ setAll is ds env = some env' ∧
  ∀ σ', Sl Γ ρ F env' σ' → σ'.length = σ.length → (∀ j, j ∉ is → σ'[j]? = σ[j]?) → Q σ' H
abbrev GSs (J : Cn) (X : Cx) (tgs : List Expr) (is : List Nat) : Prop := PGs X tgs (tGs (wd J X) is)
theorem PGs.imp {X : Cx} {e : List Expr} {t t' : TGs} (h : PGs X e t) (k : ∀ v σ H Q, t' v σ H Q → t v σ H Q) : PGs X e t' := ⟨fun pins s σ H v u Q I r q => h.run pins s σ H v u Q I r (k v σ H Q q)⟩
theorem gss_nil : GSs J X [] [] := PGs.imp pgs_nil fun v σ H Q ⟨env, ρ, F, s, ds, env', g, l, r, e, k⟩ => by
  cases ds with
  | nil =>
    simp only [Dens] at r
    simp only [setAll, Option.some.injEq] at e
    subst e
    exact ⟨r, k σ l rfl fun _ _ => rfl⟩
  | cons d ds => simp [setAll] at e
theorem gss_cons {i : Nat} {is : List Nat} (h : PG X e (gName i)) (hr : GSs J X es is) (hs : (assignEach (e :: es) X.env).map (·.2) = assign e X.env :: (assignEach es X.env).map (·.2) := by rfl) : GSs J X (e :: es) (i :: is) :=
  PGs.imp (pgs_cons h hr hs) fun v σ H Q ⟨env, ρ, F, s, ds, env', g, l, r, e, k⟩ => by
    cases ds with
    | nil => simp [setAll] at e
    | cons d ds =>
      simp only [Dens] at r
      obtain ⟨v', vr, e1, q, t⟩ := r
      simp only [setAll] at e
      refine ⟨v', vr, e1, ?_⟩
      refine ⟨_, ρ, F, s, ds, env', g, l.set q i, t, e, fun σ' l' z1 z2 => k σ' l' (by rw [z1, List.length_set]) fun j hj => ?_⟩
      rw [z2 j (fun z => hj (List.mem_cons_of_mem _ z)), List.getElem?_set_ne (fun z => hj (by rw [z]; exact List.mem_cons_self))]
def gT (is : List Nat) : Tg := fun d env => match d with
  | .tup l => setAll is l env
  | _ => none
theorem setAll_len : ∀ {is : List Nat} {ds : List Dt} {env env' : En}, setAll is ds env = some env' → ds.length = is.length
  | [], [], env, env', h => rfl
  | i :: is, d :: ds, env, env', h => by simp only [setAll] at h; rw [List.length_cons, List.length_cons, setAll_len h]
  | [], d :: ds, env, env', h => by simp [setAll] at h
  | i :: is, [], env, env', h => by simp [setAll] at h
theorem gs_tup {is : List Nat} {k : Nat} (hc : X.calm = true) (h : GSs J X es is) (hn : (assignEach es X.env).length = is.length := by rfl) (hst : (assignEach es X.env).findIdx? (·.1) = none := by rfl) : GS J X (.Tuple es k pos) is (gT is) :=
  PG.imp (pg_tup hc h hn hst) fun v σ H Q ⟨env, ρ, F, s, d, env', g, l, r, e, q⟩ => by
    cases d with
    | tup ds =>
      simp only [gT] at e
      obtain ⟨x, xs, e1, q1, t, _⟩ := g.sqT r (l := ds) rfl
      exact ⟨x, xs, e1, q1, by rw [← t.length, setAll_len e], env, ρ, F, s, ds, env', g, l, t, e, q⟩
    | _ => simp [gT] at e
/-- target = e -/
def sAsg (f : Ex) (tg : Tg) : Sx := fun env => sBnd (f env) env fun d s => match tg d env with
  | some e => .fl (.nx e) s
  | none => .bad
theorem asg_of {Γ : Wd} {is : List Nat} {tg : Tg} {D : Ends} {σ : St} {H : Hp} (h : tS Γ W (sAsg fe tg) D σ H) : tAsg (tE Γ W fe) (tG Γ is tg) D σ H := by
  obtain ⟨env, ρ, F, s, g, l, k⟩ := h
  refine ⟨env, ρ, F, s, g, l, FPo.bind k l fun d s1 ρ1 F1 H1 v e1 l1 g1 r1 k1 => ?_⟩
  cases e : tg d env with
  | none => rw [e] at k1; exact False.elim k1
  | some env' =>
    rw [e] at k1
    exact ⟨env, ρ1, F1, s1, d, env', g1, l.mono l1, r1, e, fun σ' sl _ _ => k1 ρ1 F1 H1 σ' LE.refl g1 sl⟩
theorem ss_asg {tgt : Expr} {is : List Nat} {tg : Tg} (he : ES J X W e fe) (hg : GS J X tgt is tg) (hs : swapsWithSole [tgt] e pos.line X.env = pure false := by rfl) (hw : swappedStores [tgt] e X.env = pure none := by rfl)
    (h1 : (assignEach [tgt] X.env).map (·.2) = [assign tgt X.env] := by rfl) : SS J X W (.Assign [tgt] e pos) (sAsg fe tg) := PS.imp (ps_asg he hg hs hw h1) fun D σ H h => asg_of h
/-! attributes -/
theorem zip_lookup : ∀ {names : List Str} {vs : List V} {i : Nat} {f : Str} {v : V}, names.Nodup → names[i]? = some f → vs[i]? = some v → (names.zip vs).lookup f = some v
  | [], vs, i, f, v, nd, h1, h2 => by simp at h1
  | n :: ns, [], i, f, v, nd, h1, h2 => by simp at h2
  | n :: ns, x :: xs, 0, f, v, nd, h1, h2 => by
    simp at h1 h2
    subst h1; subst h2
    simp [List.lookup]
  | n :: ns, x :: xs, i + 1, f, v, nd, h1, h2 => by
    have nd' := List.nodup_cons.mp nd
    have hne : (f == n) = false := by
      rw [beq_eq_false_iff_ne]
      intro z
      subst z
      exact nd'.1 (List.mem_of_getElem? (by simpa using h1))
    show (List.lookup f ((n, x) :: ns.zip xs)) = some v
    rw [List.lookup_cons, hne]
    exact zip_lookup nd'.2 (by simpa using h1) (by simpa using h2)
theorem zip_miss : ∀ {names : List Str} {vs : List V} {f : Str}, f ∉ names → (names.zip vs).lookup f = none
  | [], vs, f, h => by simp
  | n :: ns, [], f, h => by simp
  | n :: ns, x :: xs, f, h => by
    have hne : (f == n) = false := by
      rw [beq_eq_false_iff_ne]
      intro z
      subst z
      exact h List.mem_cons_self
    show (List.lookup f ((n, x) :: ns.zip xs)) = none
    rw [List.lookup_cons, hne]
    exact zip_miss fun z => h (List.mem_cons_of_mem _ z)
/-- a store at place i: in its place, or behind the last one -/
def putI {α : Type} (i : Nat) (d : α) (l : List α) : List α := if i < l.length then l.set i d else l ++ [d]
theorem zip_put : ∀ {names : List Str} {vs : List V} {i : Nat} {f : Str} {v : V}, names.Nodup → names[i]? = some f → i ≤ vs.length → putF f v (names.zip vs) = names.zip (putI i v vs)
  | [], vs, i, f, v, nd, h1, h2 => by simp at h1
  | n :: ns, [], i, f, v, nd, h1, h2 => by
    simp at h2
    subst h2
    simp at h1
    subst h1
    simp [putI, putF]
  | n :: ns, x :: xs, 0, f, v, nd, h1, h2 => by
    simp at h1
    subst h1
    show (if n = n then _ else _) = _
    rw [if_pos rfl]
    rfl
  | n :: ns, x :: xs, i + 1, f, v, nd, h1, h2 => by
    have nd' := List.nodup_cons.mp nd
    have hne : ¬ n = f := by
      intro z
      subst z
      exact nd'.1 (List.mem_of_getElem? (by simpa using h1))
    show (if n = f then _ else (n, x) :: putF f v (ns.zip xs)) = _
    rw [if_neg hne, zip_put nd'.2 (by simpa using h1) (by simpa using h2)]
    unfold putI
    by_cases hi : i < xs.length
    · rw [if_pos hi, if_pos (by simpa using hi)]; rfl
    · rw [if_neg hi, if_neg (by simpa using hi)]; rfl
def insD (s : Sto) (c : Nat) (d : Dt) : Option (Nat × List Dt) := match d with
  | .obj j => match s[j]? with
    | some (.ins c' ds) => if c' = c then some (j, ds) else none
    | _ => none
  | _ => none
theorem G.ins {Γ : Wd} {ρ : List Addr} {F H : Hp} {s : Sto} (g : G Γ ρ F s H) {d : Dt} {v : V} {c j : Nat} {ds : List Dt} (r : Den Γ ρ F d v) (h : insD s c d = some (j, ds)) :
    ∃ a C dx vs, v = .ref a ∧ ρ[j]? = some a ∧ s[j]? = some (.ins c ds) ∧ Γ.cl c C ∧ H a = some (.ins C dx ((Γ.J c).2.zip vs)) ∧ Dens Γ ρ F ds vs ∧ ds.length ≤ (Γ.J c).2.length ∧ (Γ.J c).2.length < 1000 := by
  unfold insD at h
  split at h
  · rename_i j'
    split at h
    · rename_i c' ds' hs
      split at h
      · rename_i hc
        cases h
        subst hc
        simp only [Den] at r
        obtain ⟨a, e, q⟩ := r
        obtain ⟨C, dx, vs, h1, h2, h3, h4⟩ := g.at_ _ a _ q hs
        exact ⟨a, C, dx, vs, e, q, hs, h1, h2, h3, h4⟩
      · cases h
    · cases h
  · cases h
/-- what of the text an attribute asks -/
structure AtF (J : Cn) (K : PySem.W.Frag) (mg : Str → Option Value) (c i : Nat) (f : Str) : Prop where
  nm : (J c).2[i]? = some f
  nd : (J c).2.Nodup
  cl : ∀ C, mg (J c).1 = some (.ref C) → Cls K C ∧ NoAttr K C f
def eFld (c i : Nat) (fo : Ex) : Ex := fun env => bnd (fo env) fun d s => ofO s ((insD s c d).bind fun p => p.2[i]?)
theorem es_fld {c i : Nat} {f : Str} (A : AtF J X.K X.mg c i f) (ho : ES J X W o fo) (hb : attributeBase o f X.env (eval o X.env) = eval o X.env := by rfl) : ES J X W (.Attribute o f pos) (eFld c i fo) :=
  PE.imp (pe_fld ho hb) fun σ H Q ⟨env, ρ, F, s, g, l, k⟩ => ⟨env, ρ, F, s, g, l, Po.bind k fun d s1 ρ1 F1 H1 v e1 l1 g1 r1 k1 => by
    obtain ⟨d', e, k1⟩ := Po.ofO k1
    obtain ⟨⟨j, ds⟩, e2, e3⟩ := Option.bind_eq_some_iff.mp e
    obtain ⟨a, C, dx, vs, h1, h2, h3, h4, h5, h6, h7⟩ := g1.ins r1 e2
    obtain ⟨u, hu, ru⟩ := h6.get e3
    obtain ⟨hc, hn⟩ := A.cl C h4
    exact ⟨a, C, dx, _, u, h1, h5, hc, hn, zip_lookup A.nd A.nm hu, k1 ρ1 F1 H1 u LE.refl g1 ru⟩⟩
theorem Dens.putI {Γ : Wd} {ρ : List Addr} {F : Hp} {ds : List Dt} {vs : List V} {d : Dt} {v : V} (t : Dens Γ ρ F ds vs) (r : Den Γ ρ F d v) (i : Nat) : Dens Γ ρ F (Pd.putI i d ds) (Pd.putI i v vs) := by
  unfold Pd.putI
  rw [← t.length]
  split
  · exact Dens.set r i t
  · exact Dens.append t (Dens.one r)
def setFD (s : Sto) (c i : Nat) (d y : Dt) : Option Sto := (insD s c d).bind fun p => if i ≤ p.2.length then some (s.set p.1 (.ins c (putI i y p.2))) else none
def sSetF (c i : Nat) (fo fv : Ex) : Sx := fun env => sBnd (fv env) env fun y => sBnd (fo env) env fun d s => match setFD s c i d y with
  | some s' => .fl (.nx env) s'
  | none => .bad
theorem putI_len {α : Type} {i n : Nat} {d : α} {l : List α} (h : i < n) (k : l.length ≤ n) (hi : i ≤ l.length) : (putI i d l).length ≤ n := by
  unfold putI
  split
  · rw [List.length_set]; exact k
  · rw [List.length_append]; simp; omega
theorem ss_setF {c i : Nat} {f : Str} {value : Expr} {fv : Ex} {pos' : Pos} (A : AtF J X.K X.mg c i f) (ho : ES J X W o fo) (hv : ES J X W value fv) (hs : swapsWith value (some (.Attribute o f pos')) pos.line X.env = pure false := by rfl) : SS J X W (.Assign [.Attribute o f pos'] value pos) (sSetF c i fo fv) :=
  PS.imp (ps_fld ho hv hs) fun D σ H ⟨env, ρ, F, s, g, l, k⟩ => ⟨env, ρ, F, s, g, l, FPo.bind k l fun y s1 ρ1 F1 H1 v e1 l1 g1 r1 k1 =>
    ⟨env, ρ1, F1, s1, g1, l.mono l1, FPo.bind k1 (l.mono l1) fun d s2 ρ2 F2 H2 u e2 l2 g2 r2 k2 => by
      cases e : setFD s2 c i d y with
      | none => rw [e] at k2; exact False.elim k2
      | some s3 =>
        rw [e] at k2
        obtain ⟨⟨j, ds⟩, e3, e4⟩ := Option.bind_eq_some_iff.mp e
        simp only [] at e4
        split at e4
        · rename_i hi
          cases e4
          obtain ⟨a, C, dx, vs, h1, h2, h3, h4, h5, h6, h7, h8⟩ := g2.ins r2 e3
          obtain ⟨hc, hn⟩ := A.cl C h4
          have hin : i < (J c).2.length := (List.getElem?_eq_some_iff.mp A.nm).1
          have hvl : vs.length = ds.length := h6.length.symm
          refine ⟨a, C, dx, _, h1, h5, hc, hn, by rw [List.length_zip]; exact Nat.lt_of_le_of_lt (Nat.min_le_left _ _) h8, ?_⟩
          rw [zip_put A.nd A.nm (by rw [hvl]; exact hi)]
          refine k2 ρ2 F2 _ σ (LE.put (List.mem_of_getElem? h2)) (g2.put h2 ⟨C, dx, _, h4, upd_same, Dens.putI h6 (Den.mono l2 _ _ r1) i, putI_len hin h7 hi, h8⟩) ((l.mono l1).mono l2)
        · cases e4⟩⟩
end
end Pd
namespace Pd
open PySem L2
/-! ### promises -/
/-- a def's meaning -/
abbrev Fn := List Dt → Sto → Out Dt
/-- a def keeps its meaning -/
def spD (Γ : Wd) (n : Nat) (m : Fn) : Sp := fun vs H Q E => ∃ ρ F s ds, G Γ ρ F s H ∧ Dens Γ ρ F ds vs ∧ ds.length = n ∧ EPo Γ ρ F H Q (fun c H' => E c none H') (m ds s)
/-- how errors leave a def: true, raised where nothing is handled; false, any -/
def cxt (z : Bool) (P : Program) (w : World) : CXT := match z with
  | true => L2N.CX P w
  | false => L2.CX P w
def Tks (z : Bool) (X : Cx) (W : WX) : Prop := match z with
  | true => L2N.Takes X W
  | false => L2.Takes X W
theorem xeN {X : Cx} {W : WX} {u : Value} {s : Shared} (x : L2N.XE X W u s) : L2.XE X W u s := by
  obtain ⟨a, B, sI, pins, σ, H, cls, d, e1, I, nb, up, sky, r⟩ := x
  refine ⟨a, B, sI, pins, σ, H, cls, d, e1, I, nb, up, ?_, r⟩
  rcases sky with ⟨h1, h2, h3, oe, vs, h4, h5, h6⟩ | ⟨h1, h2, h3, oe, vs, T, oT, ts, h4, h5, h6⟩ | ⟨h1, h2, h3, oe, vs, T, oT, ts, h4, h5, h6⟩
  · exact .inl ⟨h1, h2, h3, oe, vs, h4, h5.zc, h6⟩
  · exact .inr (.inl ⟨h1, h2, h3, oe, vs, T, oT, ts, h4, h5.zc, h6⟩)
  · exact .inr (.inr ⟨h1, h2, h3, oe, vs, T, oT, ts, h4, h5.zc, h6⟩)
theorem Tks.up {z : Bool} {X : Cx} {W : WX} (t : Tks false X W) : Tks z X W := match z with
  | true => fun u s x => t u s (xeN x)
  | false => t
theorem Tks.pass {z : Bool} {X : Cx} {W : WX} (t : Tks z X W) (σ : St) : PassesAt (cxt z X.prog X.w) X σ (WE W σ) := match z, t with
  | true, t => L2N.passAt t σ
  | false, t => L2.passAt t σ
theorem tks_of {z : Bool} {X : Cx} {E : XK} (hs : X.stack = X.env :: X.outer) (hf : X.env.frame = some X.env.locals) (hex : X.ex = []) {E1 : Value → Shared → Prop}
    (hx : X.xe = fun e s' => wpAny (model X.prog X.w) X.A (leaving X.env e) (fun _ s'' => cxt z X.prog X.w X.outer X.H_0 X.s_0 E e s'') E1 s') : Tks z X (fun cls d _ H => E cls d H) := match z, hx with
  | true, hx => L2N.takes_of hs hf hex hx
  | false, hx => L2.takes_of hs hf hex hx
theorem tks0 {z : Bool} {X : Cx} : Tks z X (fun _ _ _ _ => False) := Tks.up (z := z) takes0
/-- a def of the program by its meaning -/
structure Df (z : Bool) (P : Program) (w : World) (K : PySem.W.Frag) (mg : Str → Option Value) (base : Heap) (J : Cn) (k n : Nat) (f : Addr) (m : Fn) : Prop where
  ok : ∃ fd ps, FnOk P w K mg base (cxt z P w) k f fd ps (spD ⟨K, mg, J⟩ n m) ∧ Binds K fd ps []
abbrev DfX (z : Bool) (J : Cn) (X : Cx) (k n : Nat) (f : Addr) (m : Fn) : Prop := Df z X.prog X.w X.K X.mg X.base J k n f m
section
variable {J : Cn} {X : Cx} {W : WX} {a b c e e2 o : Expr} {es : List Expr} {fa fb fc fe fo : Ex} {fs : List Ex} {ft fu : Tx} {pos p apos : Pos} {st : Stmt} {rest : List Stmt} {f1 f2 : Sx}
def eCall (m : Fn) (fs : List Ex) : Ex := fun env => bnd (evs fs env) m
theorem es_call {k f : Nat} {x : Str} {m : Fn} {z : Bool} (tk : Tks z X W) (D : DfX z J X k (fs.length + 1) f m) (hr : Room k X.A) (hg : Gl X x) (hm : X.mg x = some (.ref f)) (hk : PySem.W.keepIn X.K (.ref f) = true) (ha : ASo J X W (e :: es) (fa :: fs))
    (hdb : (x == ("__debug__" : Str)) = false := by decide) (he : starEach (e :: es) X.env = (false, eval e X.env) :: starEach es X.env := by rfl) (hpl : (backTo pos (starEach es X.env)).any (·.1) = false := by rfl) :
    ES J X W (.Call (.Name x p) (e :: es) [] pos) (eCall m (fa :: fs)) := by
  obtain ⟨fd, ps, F, hb⟩ := D.ok
  exact PE.imp (pe_callS F hr hg hm hk hb (fun σ => tk.pass σ) ha hdb he hpl) fun σ H Q ⟨env, ρ, F, s, g, l, k⟩ => ⟨env, ρ, F, s, g, l, Po.bind k fun ds s1 ρ1 F1 H1 vs e1 l1 g1 r1 k1 => ⟨ρ1, F1, s1, ds, g1, r1, evs_len e1, k1⟩⟩
/-- a def without arguments -/
theorem es_call0 {k f : Nat} {x : Str} {m : Fn} {z : Bool} (tk : Tks z X W) (D : DfX z J X k 0 f m) (hr : Room k X.A) (hg : Gl X x) (hm : X.mg x = some (.ref f)) (hk : PySem.W.keepIn X.K (.ref f) = true) (hdb : (x == ("__debug__" : Str)) = false := by decide) :
    ES J X W (.Call (.Name x p) [] [] pos) (eCall m []) := by
  obtain ⟨fd, ps, F, hb⟩ := D.ok
  refine ⟨fun pins s σ H Q I h => ?_⟩
  obtain ⟨env, ρ, Fz, st, g, l, k⟩ := h
  refine wpAny_Call_Name_kw (ld_glob I hg hm ?_ hdb)
  exact PySem.W.callWith_K0 I.kIn hk (run_fnS (E := WE W) (us := []) (vs := []) F hr hb (tk.pass σ) I .nil ⟨ρ, Fz, st, [], g, by simp only [Dens], rfl, k⟩)
/-- what of the text a method asks -/
structure MeF (J : Cn) (K : PySem.W.Frag) (mg : Str → Option Value) (c : Nat) (m : Str) (C f : Addr) : Prop where
  mg : mg (J c).1 = some (.ref C)
  no : m ∉ (J c).2
  cl : Cls K C
  me : Meth K C m f
def eMeth (c : Nat) (m : Fn) (fo : Ex) (fs : List Ex) : Ex := fun env => bnd (fo env) fun x s => match insD s c x with
  | some _ => bnd (evs fs env) (fun ds => m (x :: ds)) s
  | none => .bad
theorem meth_of {c : Nat} {mn : Str} {C f : Addr} {m : Fn} {k : Nat} {pl : Sem Bool} {z : Bool} (tk : Tks z X W) (M : MeF J X.K X.mg c mn C f) (D : DfX z J X k (fs.length + 1) f m) (hr : Room k X.A) (ho : ES J X W o fo) (ha : ASo J X W es fs)
    (hcw : ∀ (pins : List (Addr × Obj)) (σ : St) (x : Addr) (s1 : Shared) (H1 : Hp) (Q : Value → Shared → Prop), Inv X pins σ H1 s1 → tA (wd J X) W fs σ H1 (fun vs H2 => ∀ us s2, Inv X pins σ H2 s2 → Vals vs us → wpAny (model X.prog X.w) X.A (call (.ref f) (.ref x :: us)) Q X.xe s2) →
      wpAny (model X.prog X.w) X.A (callWith pos (.ref f) [.ref x] (backTo pos (starEach es X.env)) (backToKw pos (keywordEach [] X.env))) Q X.xe s1)
    (ht : eval (.Call (.Attribute o mn apos) es [] pos) X.env = (do
      let ov ← eval o X.env
      standAt apos.atName
      let (f, first) ← holding [ov] (getMethod ov mn pl)
      callWith pos f first (backTo pos (starEach es X.env)) (backToKw pos (keywordEach [] X.env)))) :
    ES J X W (.Call (.Attribute o mn apos) es [] pos) (eMeth c m fo fs) := by
  obtain ⟨fd, ps, Fk, hb⟩ := D.ok
  refine ⟨fun pins s σ H Q I h => ?_⟩
  obtain ⟨env, ρ, F, st, g, l, k⟩ := h
  refine methcall_of ho I ⟨env, ρ, F, st, g, l, Po.bind k fun d s1 ρ1 F1 H1 v e1 l1 g1 r1 k1 => ?_⟩ ht
  cases e : insD s1 c d with
  | none => rw [e] at k1; exact False.elim k1
  | some q =>
    obtain ⟨j, ds⟩ := q
    rw [e] at k1
    obtain ⟨x, C', dx, vs, h1, h2, h3, h4, h5, h6, h7⟩ := g1.ins r1 e
    have eC : C' = C := by
      have z := h4.symm.trans M.mg
      cases z
      rfl
    subst eC
    refine ⟨x, C', dx, _, f, h1, h5, M.cl, M.me, zip_miss M.no, fun s2 I2 => hcw pins σ x s2 H1 _ I2 ?_⟩
    refine ⟨env, ρ1, F1, s1, g1, l.mono l1, Po.bind k1 fun as s3 ρ3 F3 H3 ws e3 l3 g3 r3 k3 us s4 I4 rv => ?_⟩
    refine run_fnS (E := WE W) (us := .ref x :: us) (vs := .ref x :: ws) Fk hr hb (tk.pass σ) I4 (.cons rfl rv) ⟨ρ3, F3, s3, d :: as, g3, ?_, by rw [List.length_cons, evs_len e3], k3⟩
    simp only [Dens]
    exact ⟨v, ws, by rw [h1], Den.mono l3 _ _ r1, r3⟩
theorem es_meth {c : Nat} {mn : Str} {C f : Addr} {m : Fn} {k : Nat} {pl : Sem Bool} {z : Bool} (tk : Tks z X W) (M : MeF J X.K X.mg c mn C f) (D : DfX z J X k (fs.length + 2) f m) (hr : Room k X.A) (ho : ES J X W o fo) (ha : ASo J X W (e :: es) (fa :: fs))
    (hst : starEach (e :: es) X.env = (false, eval e X.env) :: starEach es X.env := by rfl) (hpl : (backTo pos (starEach es X.env)).any (·.1) = false := by rfl)
    (ht : eval (.Call (.Attribute o mn apos) (e :: es) [] pos) X.env = (do
      let ov ← eval o X.env
      standAt apos.atName
      let (f, first) ← holding [ov] (getMethod ov mn pl)
      callWith pos f first (backTo pos (starEach (e :: es) X.env)) (backToKw pos (keywordEach [] X.env))) := by rfl) :
    ES J X W (.Call (.Attribute o mn apos) (e :: es) [] pos) (eMeth c m fo (fa :: fs)) :=
  meth_of (pl := pl) tk M D hr ho ha (fun pins σ x s1 H1 Q I1 h => PySem.W.callWith_K (first := [.ref x]) (h₀ := X.base) I1.ok.mod.kin M.me.kp (thn (ha.run pos pins s1 σ H1 _ I1 h) fun us s2 ⟨vs, H2, I2, r, q⟩ => ⟨I2.kIn, q us s2 I2 r⟩) hst hpl) ht
theorem es_meth0 {c : Nat} {mn : Str} {C f : Addr} {m : Fn} {k : Nat} {pl : Sem Bool} {z : Bool} (tk : Tks z X W) (M : MeF J X.K X.mg c mn C f) (D : DfX z J X k 1 f m) (hr : Room k X.A) (ho : ES J X W o fo)
    (ht : eval (.Call (.Attribute o mn apos) [] [] pos) X.env = (do
      let ov ← eval o X.env
      standAt apos.atName
      let (f, first) ← holding [ov] (getMethod ov mn pl)
      callWith pos f first (backTo pos (starEach [] X.env)) (backToKw pos (keywordEach [] X.env))) := by rfl) :
    ES J X W (.Call (.Attribute o mn apos) [] [] pos) (eMeth c m fo []) :=
  meth_of (pl := pl) (fs := []) tk M D hr ho as_nil (fun pins σ x s1 H1 Q I1 ⟨env, ρ, F, s, g, l, k⟩ => PySem.W.callWith_K0 (first := [.ref x]) I1.kIn M.me.kp (k ρ F H1 [] LE.refl g (by simp only [Dens]) [] s1 I1 .nil)) ht
/-- what of the text the making of an object asks -/
structure MkF (J : Cn) (K : PySem.W.Frag) (mg : Str → Option Value) (c : Nat) (C f : Addr) : Prop where
  mg : mg (J c).1 = some (.ref C)
  mak : Mk K C f
  few : (J c).2.length < 1000
def eMake (c : Nat) (m : Fn) (fs : List Ex) : Ex := fun env => bnd (evs fs env) fun ds s => bnd (m (.obj s.length :: ds)) (fun _ s' => .ok (.obj s.length) s') (s ++ [.ins c []])
theorem make_of {c : Nat} {C f : Addr} {m : Fn} {k n : Nat} {z : Bool} (tk : Tks z X W) (M : MkF J X.K X.mg c C f) (D : DfX z J X k (n + 1) f m) (hr : Room (k + 1) X.A)
    (hnon : ∀ ds s d s', m ds s = .ok d s' → d = .non) {pins : List (Addr × Obj)} {σ : St} {H : Hp} {s : Shared} {ρ : List Addr} {F : Hp} {st : Sto} {ds : List Dt} {us : List Value} {vs : List V} {Q : VK} (I : Inv X pins σ H s) (r : Vals vs us) (g : G (wd J X) ρ F st H) (t : Dens (wd J X) ρ F ds vs) (hn : ds.length = n)
    (q : EPo (wd J X) ρ F H Q (fun c H' => W c none σ H') (bnd (m (.obj st.length :: ds)) (fun _ s' => .ok (.obj st.length) s') (st ++ [.ins c []]))) : wpAny (model X.prog X.w) X.A (call (.ref C) us) (EP X pins σ Q) X.xe s := by
  obtain ⟨fd, ps, Fk, hb⟩ := D.ok
  have I2 := Inv.made (C := C) I
  have n1 : H (s.heap.objs.size + 1) = none := I.hok.fresh (Nat.le_succ _)
  have n0 : H s.heap.objs.size = none := I.hok.fresh (Nat.le_refl _)
  have ne : s.heap.objs.size + 1 ≠ s.heap.objs.size := Nat.succ_ne_self _
  have g1 : G (wd J X) ρ F st (upd H s.heap.objs.size (.own (s.heap.objs.size + 1))) := g.skip _ n0
  have n1' : upd H s.heap.objs.size (.own (s.heap.objs.size + 1)) (s.heap.objs.size + 1) = none := by rw [upd_ne ne]; exact n1
  have g2 : G (wd J X) (ρ ++ [s.heap.objs.size + 1]) F (st ++ [.ins c []]) (upd (upd H s.heap.objs.size (.own (s.heap.objs.size + 1))) (s.heap.objs.size + 1) (.ins C s.heap.objs.size [])) :=
    g1.new n1' ⟨C, s.heap.objs.size, [], M.mg, by rw [upd_same]; simp, by simp only [Dens], Nat.zero_le _, M.few⟩
  have l2 : LE ρ F H (ρ ++ [s.heap.objs.size + 1]) F (upd (upd H s.heap.objs.size (.own (s.heap.objs.size + 1))) (s.heap.objs.size + 1) (.ins C s.heap.objs.size [])) := (LE.skip n0).trans (LE.new n1')
  have hob : Den (wd J X) (ρ ++ [s.heap.objs.size + 1]) F (.obj st.length) (.ref (s.heap.objs.size + 1)) := by
    simp only [Den]
    exact ⟨_, rfl, by rw [← g.len, List.getElem?_append_right (Nat.le_refl _), Nat.sub_self]; rfl⟩
  have hsp : spD (wd J X) (n + 1) m (.ref (s.heap.objs.size + 1) :: vs) (upd (upd H s.heap.objs.size (.own (s.heap.objs.size + 1))) (s.heap.objs.size + 1) (.ins C s.heap.objs.size [])) (fun v H2 => v = .non ∧ Q (.ref (s.heap.objs.size + 1)) H2) (WE W σ) := by
    refine ⟨_, F, _, .obj st.length :: ds, g2, ?_, by rw [List.length_cons, hn], ?_⟩
    · simp only [Dens]
      exact ⟨_, vs, rfl, hob, Dens.mono l2 _ _ t⟩
    · have q2 := q.mono l2 (fun _ _ z => z) fun _ _ z => z
      refine Po.bind q2 fun d s3 ρ3 F3 H3 v e3 l3 g3 r3 k3 => ?_
      have ed := hnon _ _ _ _ e3
      subst ed
      simp only [Den] at r3
      exact ⟨r3, k3 ρ3 F3 H3 _ LE.refl g3 (Den.mono l3 _ _ hob)⟩
  have r2 : Vals (V.ref (s.heap.objs.size + 1) :: vs) (Value.ref (s.heap.objs.size + 1) :: us) := .cons rfl r
  have hl : (Value.ref (s.heap.objs.size + 1) :: us).length = ps.length := by rw [← r2.length]; exact Fk.len _ _ _ _ hsp
  have b2 := hb { s with heap := (s.heap.push PySem.W.emptyDict).push (PySem.W.instObj C s.heap.objs.size) } (Value.ref (s.heap.objs.size + 1) :: us) I2.kIn (by rw [List.append_nil]; exact hl)
  rw [List.append_nil] at b2
  refine wpAny_call (make_map (f := f) I.kIn M.mak.makes M.mak.init (beq_iff_eq.mp M.mak.fn) (codeAny_mono (Fk.run _ X.stack _ _ ⟨Value.ref (s.heap.objs.size + 1) :: us, []⟩ _ _ _ (WE W σ) (hr.make C us []) (I2.env0.make C us []) b2 r2 hsp) fun rs s' hq => ?_))
  cases rs with
  | error e => exact tk.pass σ pins _ _ e s' I2 hq
  | ok fl =>
    cases fl with
    | ret u =>
      obtain ⟨v, H', I3, rv, ev, q3⟩ := I2.after hq
      subst ev
      exact ⟨rv, ⟨V.ref (s.heap.objs.size + 1), H', I3, rfl, q3⟩⟩
    | _ => exact False.elim hq
theorem es_make {c : Nat} {x : Str} {C f : Addr} {m : Fn} {k : Nat} {z : Bool} (tk : Tks z X W) (M : MkF J X.K X.mg c C f) (D : DfX z J X k (fs.length + 2) f m) (hr : Room (k + 1) X.A) (hnon : ∀ ds s d s', m ds s = .ok d s' → d = .non) (hx : (J c).1 = x) (hg : Gl X x) (ha : ASo J X W (e :: es) (fa :: fs))
    (hdb : (x == ("__debug__" : Str)) = false := by decide) (he : starEach (e :: es) X.env = (false, eval e X.env) :: starEach es X.env := by rfl) (hpl : (backTo pos (starEach es X.env)).any (·.1) = false := by rfl) :
    ES J X W (.Call (.Name x p) (e :: es) [] pos) (eMake c m (fa :: fs)) := by
  refine ⟨fun pins s σ H Q I h => ?_⟩
  obtain ⟨env, ρ, F, st, g, l, k⟩ := h
  refine wpAny_Call_Name_kw (ld_glob I hg (by rw [← hx]; exact M.mg) ?_ hdb)
  refine PySem.W.callWith_K (h₀ := X.base) I.ok.mod.kin M.mak.kp (thn (ha.run pos pins s σ H (fun vs H1 => ∀ us s1, Inv X pins σ H1 s1 → Vals vs us → wpAny (model X.prog X.w) X.A (call (.ref C) us) (EP X pins σ Q) X.xe s1) I ⟨env, ρ, F, st, g, l, Po.bind k fun ds s1 ρ1 F1 H1 vs e1 l1 g1 r1 k1 us s2 I2 rv => make_of tk M D hr hnon I2 rv g1 r1 (evs_len e1) k1⟩) fun us s1 ⟨vs, H1, I1, r, q⟩ => ⟨I1.kIn, q us s1 I1 r⟩) he hpl
theorem es_make0 {c : Nat} {x : Str} {C f : Addr} {m : Fn} {k : Nat} {z : Bool} (tk : Tks z X W) (M : MkF J X.K X.mg c C f) (D : DfX z J X k 1 f m) (hr : Room (k + 1) X.A) (hnon : ∀ ds s d s', m ds s = .ok d s' → d = .non) (hx : (J c).1 = x) (hg : Gl X x)
    (hdb : (x == ("__debug__" : Str)) = false := by decide) :
    ES J X W (.Call (.Name x p) [] [] pos) (eMake c m []) := by
  refine ⟨fun pins s σ H Q I h => ?_⟩
  obtain ⟨env, ρ, F, st, g, l, k⟩ := h
  refine wpAny_Call_Name_kw (ld_glob I hg (by rw [← hx]; exact M.mg) ?_ hdb)
  exact PySem.W.callWith_K0 I.kIn M.mak.kp (make_of (us := []) (vs := []) (ds := []) tk M D hr hnon I .nil g (by simp only [Dens]) rfl k)
/-! ### a def by its body -/
def fnOf (n : Nat) (f : Sx) : Fn := fun ds s => match f (ds.map some ++ List.replicate (n - ds.length) none) s with
  | .fl (.rt d) s' => .ok d s'
  | .fl (.nx _) s' => .ok .non s'
  | .exc c _ s' => .exc c s'
  | _ => .bad
end
theorem Dens.slots {Γ : Wd} {ρ : List Addr} {F : Hp} {ds : List Dt} {vs : List V} (t : Dens Γ ρ F ds vs) (N : List Str) : Sl Γ ρ F (ds.map some ++ List.replicate (N.length - ds.length) none) (L2.start N vs) := by
  unfold L2.start
  refine ⟨by simp [t.length], fun i d h => ?_⟩
  by_cases hi : i < ds.length
  · rw [List.getElem?_append_left (by simpa using hi), List.getElem?_map] at h
    obtain ⟨d', e1, e2⟩ := Option.map_eq_some_iff.mp h
    cases e2
    obtain ⟨v, e3, r⟩ := t.get e1
    exact ⟨v, by rw [List.getElem?_append_left (by rw [List.length_map, ← t.length]; exact hi), List.getElem?_map, e3]; rfl, r⟩
  · rw [List.getElem?_append_right (by simpa using hi), List.getElem?_replicate] at h
    split at h
    · simp at h
    · cases h
/-- the same def by a meaning that ends alike wherever the first one ends well -/
theorem Df.imp {z : Bool} {P : Program} {w : World} {K : PySem.W.Frag} {mg : Str → Option Value} {base : Heap} {J : Cn} {k n : Nat} {f : Addr} {m m' : Fn} (D : Df z P w K mg base J k n f m)
    (h : ∀ ds s, ds.length = n → m' ds s ≠ .bad → m ds s = m' ds s) : Df z P w K mg base J k n f m' := by
  obtain ⟨fd, ps, F, hb⟩ := D.ok
  refine ⟨fd, ps, F.imp fun vs H Q E ⟨ρ, Fz, s, ds, g, t, z, q⟩ => ⟨ρ, Fz, s, ds, g, t, z, ?_⟩, hb⟩
  rw [h ds s z (fun e => by rw [e] at q; exact q)]
  exact q
theorem Df.mono {z : Bool} {P : Program} {w : World} {K : PySem.W.Frag} {mg : Str → Option Value} {base : Heap} {J : Cn} {k k' n : Nat} {f : Addr} {m : Fn} (D : Df z P w K mg base J k n f m) (h : k ≤ k') : Df z P w K mg base J k' n f m := by
  obtain ⟨fd, ps, F, hb⟩ := D.ok
  exact ⟨fd, ps, F.mono h, hb⟩
theorem okC {P : Program} {w : World} {K : PySem.W.Frag} {mg : Str → Option Value} {base : Heap} {CX : CXT} {x qual : Str} {st : Stmt} {f : Addr} {fd : FuncData} {N ps : List Str} {k : Nat} {sp : Sp} (F : Fun K x qual st f fd) (S : FnScope N ps (defScope st)) (len : ∀ vs H Q E, sp vs H Q E → vs.length = ps.length)
    (hbody : ∀ (cdv : Value) (A : Around) (outer : List Env) (s : Shared) (H : Hp) (vs : List V) (Q : VK) (E : XK), Room k (A.deeper (PyProof.Rows.envOfC qual (defScope st) s.heap.objs.size f cdv)) → sp vs H Q E →
      ∃ t, PSs (cxOf CX P w K mg base N qual (defScope st) f cdv A outer s H E) (defBody st) t ∧ t { nx := fun _ H' => Q .non H', rt := Q } (L2.start N vs) H) : FnOk P w K mg base CX (k + 1) f fd ps sp := by
  obtain ⟨oc, od, kV, doc, pm, an, cdv, ct, osl, e, lk, hcd⟩ := F.ex
  subst e
  exact fn_of lk hcd S len (hbody cdv)
theorem fn_of_body {z : Bool} {P : Program} {w : World} {K : PySem.W.Frag} {mg : Str → Option Value} {base : Heap} {J : Cn} {k n : Nat} {f : Addr} {m : Fn} {fd : FuncData} {ps : List Str} {x qual : Str} {st : Stmt} {N : List Str} {fb : Sx}
    (F : Fun K x qual st f fd) (S : FnScope N ps (defScope st)) (hn : ps.length = n) (hm : m = fnOf N.length fb)
    (body : ∀ (cdv : Value) (A : Around) (outer : List Env) (s : Shared) (H : Hp) (E : XK), Room k (A.deeper (PyProof.Rows.envOfC qual (defScope st) s.heap.objs.size f cdv)) →
      SSs J (cxOf (cxt z P w) P w K mg base N qual (defScope st) f cdv A outer s H E) (fun cls d _ H' => E cls d H') (defBody st) fb) : FnOk P w K mg base (cxt z P w) (k + 1) f fd ps (spD ⟨K, mg, J⟩ n m) := by
  subst hn; subst hm
  refine okC F S (fun vs H Q E h => ?_) (fun cdv A outer s H vs Q E hr h => ⟨_, body cdv A outer s H E hr, ?_⟩)
  · obtain ⟨ρ, F, s, ds, g, t, z, _⟩ := h
    rw [← t.length, z]
  · obtain ⟨ρ, Fz, so, ds, g, t, z, q⟩ := h
    refine ⟨_, ρ, Fz, so, g, t.slots N, ?_⟩
    unfold fnOf at q
    cases e : fb (ds.map some ++ List.replicate (N.length - ds.length) none) so with
    | fl f s' =>
      rw [e] at q
      cases f with
      | nx e1 => exact fun ρ' F' H' σ' l' g' _ => q ρ' F' H' .non l' g' (by simp only [Den])
      | rt d => exact q
      | bk d => exact False.elim q
      | ct d => exact False.elim q
    | exc c e1 s' =>
      rw [e] at q
      exact fun ρ' F' H' σ' C l' g' _ hC => q ρ' F' H' C l' g' hC
    | bad => rw [e] at q; exact q
theorem df_of {z : Bool} {P : Program} {w : World} {K : PySem.W.Frag} {mg : Str → Option Value} {base : Heap} {J : Cn} {x qual : Str} {st : Stmt} {f : Addr} {fd : FuncData} {N ps : List Str} {k : Nat} {fb : Sx}
    (F : Fun K x qual st f fd) (S : FnScope N ps (defScope st)) (hb : Binds K fd ps [])
    (body : ∀ (cdv : Value) (A : Around) (outer : List Env) (s : Shared) (H : Hp) (E : XK), Room k (A.deeper (PyProof.Rows.envOfC qual (defScope st) s.heap.objs.size f cdv)) →
      SSs J (cxOf (cxt z P w) P w K mg base N qual (defScope st) f cdv A outer s H E) (fun cls d _ H' => E cls d H') (defBody st) fb) : Df z P w K mg base J (k + 1) ps.length f (fnOf N.length fb) :=
  ⟨fd, ps, fn_of_body F S rfl rfl body, hb⟩
/-- the law's own promise at the script -/
theorem law_sp {K : PySem.W.Frag} {mg : Str → Option Value} {J : Cn} {m : Fn} (h : ∀ ns : List Int, ns.length ≤ 63 → ∃ s, m [.lsk (ns.map .int)] [] = .ok (.bl true) s) {H : Hp} {a : Addr} {ns : List Int} (hl : ns.length ≤ 63) (hs : SqL K H a (ns.map V.int)) :
    spD ⟨K, mg, J⟩ 1 m [.ref a] H (fun v _ => v = .bl true) fun _ _ _ => False := by
  obtain ⟨s, e⟩ := h ns hl
  refine ⟨[], H, [], [.lsk (ns.map .int)], ⟨fun _ _ h => h, rfl, List.nodup_nil, (fun _ h => nomatch h), (fun i a mo h => by simp at h)⟩, ?_, rfl, ?_⟩
  · simp only [Dens, Den]
    refine ⟨_, _, rfl, ⟨by rw [List.length_map, sizeLine_eq]; omega, a, _, rfl, hs, ?_⟩, rfl⟩
    clear e hl hs
    induction ns with
    | nil => simp only [List.map_nil, Dens]
    | cons n ns ih =>
      simp only [List.map_cons, Dens]
      exact ⟨_, _, rfl, by simp only [Den], ih⟩
  · rw [e]
    intro ρ' F' H' v l g r
    simp only [Den] at r
    exact r
/-! ### a body that hands back nothing -/
def NoRt (f : Sx) : Prop := ∀ env s d s', f env s ≠ .fl (.rt d) s'
theorem noRt_next : NoRt sNext := fun env s d s' h => by cases h
theorem noRt_expr {f : Ex} : NoRt (sExpr f) := fun env s d s' h => by
  unfold sExpr sBnd at h
  split at h <;> cases h
theorem noRt_setF {c i : Nat} {fo fv : Ex} : NoRt (sSetF c i fo fv) := fun env s d s' h => by
  unfold sSetF sBnd at h
  split at h
  · dsimp only at h
    split at h
    · split at h <;> cases h
    · cases h
    · cases h
  · cases h
  · cases h
theorem noRt_seq {f g : Sx} (hf : NoRt f) (hg : NoRt g) : NoRt (sSeq f g) := fun env s d s' h => by
  unfold sSeq at h
  split at h
  · exact hg _ _ _ _ h
  · exact hf _ _ _ _ h
theorem noRt_fn {n : Nat} {f : Sx} (hf : NoRt f) : ∀ ds s d s', fnOf n f ds s = .ok d s' → d = .non := fun ds s d s' h => by
  unfold fnOf at h
  split at h
  · rename_i e
    exact absurd e (hf _ _ _ _)
  · cases h; rfl
  · cases h
  · cases h
theorem _root_.L2.Room.u65 {k : Nat} {A : Around} (r : L2.Room k A) : A.units + 65 < cLine := by have := r.un; omega
theorem _root_.L2.Room.u1 {k : Nat} {A : Around} (r : L2.Room k A) : A.units + 1 < cLine := by have := r.un; omega
end Pd
namespace Pd
open PySem L2
/-! ### what a loop walks -/
structure ItS (Γ : Wd) (ρ0 : List Addr) (F0 : Hp) (T : It) (l : List Dt) (ok : Sto → Prop) : Prop where
  len : l.length ≤ sizeLine
  go : ∀ (i : Nat) ρ F s H, LD ρ0 F0 ρ F → G Γ ρ F s H → ok s → i < l.length → T.go i H
  stop : ∀ (i : Nat) ρ F s H, LD ρ0 F0 ρ F → G Γ ρ F s H → ok s → i = l.length → T.stop i H
  yld : ∀ (i : Nat) ρ F s H d x H', LD ρ0 F0 ρ F → G Γ ρ F s H → ok s → l[i]? = some d → T.yld i H x H' → ∃ F', LE ρ F H ρ F' H' ∧ G Γ ρ F' s H' ∧ Den Γ ρ F' d x
abbrev Is := En → Sto → Out (List Dt × (Sto → Prop))
def tI (Γ : Wd) (W : WX) (f : Is) : TI := fun σ H R => ∃ env ρ F s, G Γ ρ F s H ∧ Sl Γ ρ F env σ ∧ Po Γ (fun ρ F (a : List Dt × (Sto → Prop)) (T : It) => ItS Γ ρ F T a.1 a.2) ρ F H R (fun c H' => W c none σ H') (f env s)
abbrev IS (J : Cn) (X : Cx) (W : WX) (tg iter : Expr) (f : Is) : Prop := PI X tg iter (tI (wd J X) W f)
theorem PI.imp {X : Cx} {tg e : Expr} {t t' : TI} (h : PI X tg e t) (k : ∀ σ H R, t' σ H R → t σ H R) : PI X tg e t' := ⟨fun pins s σ H R I q => h.run pins s σ H R I (k σ H R q)⟩
theorem PI.or {X : Cx} {tg e : Expr} {t t' : TI} (h : PI X tg e t) (h' : PI X tg e t') : PI X tg e (fun σ H R => t σ H R ∨ t' σ H R) := ⟨fun pins s σ H R I q => by
  rcases q with q | q
  · exact h.run pins s σ H R I q
  · exact h'.run pins s σ H R I q⟩
def signs (x : Str) : List Dt := x.cps.toList.map fun c => .str ⟨#[c]⟩
/-- a list, a tuple, a text -/
def iSeq (f : Ex) : Is := fun env => bnd (f env) fun d s => match d with
  | .str x => .ok (signs x, fun _ => True) s
  | d => match asQ s d with
    | some l => .ok (l, fun s' => asQ s' d = some l) s
    | none => .bad
def iRange (f : Ex) : Is := fun env => bnd (f env) fun d s => match d with
  | .int n => if n ≤ 16777216 ∧ -(2 ^ 62) ≤ n then .ok ((List.range n.toNat).map fun (k : Nat) => .int k, fun _ => True) s else .bad
  | _ => .bad
def iRange2 (f g : Ex) : Is := fun env => bnd (f env) fun d => bnd (g env) fun e s => match d, e with
  | .int i, .int j => if (-(2 ^ 62) ≤ i ∧ i < 2 ^ 62 ∧ -(2 ^ 62) ≤ j ∧ j < 2 ^ 62) ∧ j - i ≤ 16777216 then .ok ((List.range (j - i).toNat).map fun (k : Nat) => .int (i + k), fun _ => True) s else .bad
  | _, _ => .bad
theorem its_range {Γ : Wd} {ρ : List Addr} {F : Hp} {lo : Int} {n : Nat} {l : List Dt} {ok : Sto → Prop} (hl : l = (List.range n).map fun (k : Nat) => .int (lo + k)) (hz : n ≤ sizeLine) : ItS Γ ρ F (Itr lo n) l ok where
  len := by rw [hl, List.length_map, List.length_range]; exact hz
  go := fun i _ _ _ _ _ _ _ h => by rw [hl, List.length_map, List.length_range] at h; exact h
  stop := fun i _ _ _ _ _ _ _ h => by rw [hl, List.length_map, List.length_range] at h; exact Nat.le_of_eq h.symm
  yld := fun i ρ F s H d x H' _ g _ hd y => by
    obtain ⟨e1, e2⟩ := y
    subst e1
    refine ⟨F, LE.refl, g, ?_⟩
    rw [hl, List.getElem?_map] at hd
    obtain ⟨k, e3, e4⟩ := Option.map_eq_some_iff.mp hd
    have e5 : i = k := by
      have := List.getElem?_eq_some_iff.mp e3
      obtain ⟨h1, h2⟩ := this
      simpa using h2
    subst e5; subst e4
    simp only [Den]
    exact e2
theorem its_str {Γ : Wd} {ρ : List Addr} {F : Hp} {x : Str} {ok : Sto → Prop} (hx : sok x = true) : ItS Γ ρ F (Its x) (signs x) ok where
  len := by unfold signs; rw [List.length_map]; exact (by simpa [Str.length] using sok_len hx)
  go := fun i _ _ _ _ _ _ _ h => by unfold signs at h; rw [List.length_map] at h; show i < x.cps.size; simpa using h
  stop := fun i _ _ _ _ _ _ _ h => by unfold signs at h; rw [List.length_map] at h; exact Nat.le_of_eq (by simpa using h.symm)
  yld := fun i ρ F s H d v H' _ g _ hd y => by
    obtain ⟨e1, c, e2, e3⟩ := y
    subst e1
    refine ⟨F, LE.refl, g, ?_⟩
    unfold signs at hd
    rw [List.getElem?_map] at hd
    obtain ⟨k, e4, e5⟩ := Option.map_eq_some_iff.mp hd
    have e6 : c = k := by
      have z : x.cps.toList[i]? = some c := by simpa using e2
      rw [z] at e4
      exact Option.some.inj e4
    subst e6; subst e5
    simp only [Den]
    exact ⟨e3, sok_sign hx (List.mem_of_getElem? e4)⟩
theorem its_list {Γ : Wd} {ρ : List Addr} {F : Hp} {d : Dt} {v : V} {a : Addr} {l : List Dt} (r : Den Γ ρ F d v) (e : v = .ref a) (hq : ∀ s : Sto, asQ s d = asL s d) (hz : l.length ≤ sizeLine) : ItS Γ ρ F (Itl Γ.K a) l (fun s => asQ s d = some l) where
  len := hz
  go := fun i ρ1 F1 s H ld g ok h => by
    obtain ⟨b, xs, e1, q, t, _⟩ := g.sqL (Den.monoD ld d v r) (by rw [← hq]; exact ok)
    rw [e] at e1; cases e1
    have hx : i < xs.length := by rw [← t.length]; exact h
    exact ⟨xs, xs[i], q, List.getElem?_eq_getElem hx⟩
  stop := fun i ρ1 F1 s H ld g ok h => by
    obtain ⟨b, xs, e1, q, t, _⟩ := g.sqL (Den.monoD ld d v r) (by rw [← hq]; exact ok)
    rw [e] at e1; cases e1
    exact ⟨xs, q, by rw [← t.length]; exact Nat.le_of_eq h.symm⟩
  yld := fun i ρ1 F1 s H d' x H' ld g ok hd y => by
    obtain ⟨b, xs, e1, q, t, _⟩ := g.sqL (Den.monoD ld d v r) (by rw [← hq]; exact ok)
    rw [e] at e1; cases e1
    obtain ⟨e2, hy⟩ := y
    subst e2
    obtain ⟨u, e3, ru⟩ := t.get hd
    rw [hy xs q] at e3
    cases e3
    exact ⟨F1, LE.refl, g, ru⟩
theorem its_tup {Γ : Wd} {ρ : List Addr} {F : Hp} {v : V} {a : Addr} {l : List Dt} {ok : Sto → Prop} (r : Den Γ ρ F (.tup l) v) (e : v = .ref a) (hz : l.length ≤ sizeLine) : ItS Γ ρ F (Itt Γ.K a) l ok where
  len := hz
  go := fun i ρ1 F1 s H ld g _ h => by
    obtain ⟨b, xs, e1, q, t, _⟩ := g.sqT (Den.monoD ld _ v r) (l := l) rfl
    rw [e] at e1; cases e1
    have hx : i < xs.length := by rw [← t.length]; exact h
    exact ⟨xs, xs[i], q, List.getElem?_eq_getElem hx⟩
  stop := fun i ρ1 F1 s H ld g _ h => by
    obtain ⟨b, xs, e1, q, t, _⟩ := g.sqT (Den.monoD ld _ v r) (l := l) rfl
    rw [e] at e1; cases e1
    exact ⟨xs, q, by rw [← t.length]; exact Nat.le_of_eq h.symm⟩
  yld := fun i ρ1 F1 s H d' x H' ld g _ hd y => by
    obtain ⟨b, xs, e1, q, t, _⟩ := g.sqT (Den.monoD ld _ v r) (l := l) rfl
    rw [e] at e1; cases e1
    obtain ⟨e2, hy⟩ := y
    subst e2
    obtain ⟨u, e3, ru⟩ := t.get hd
    rw [hy xs q] at e3
    cases e3
    exact ⟨F1, LE.refl, g, ru⟩
section
variable {J : Cn} {X : Cx} {W : WX} {a b c e e2 o tgt : Expr} {es : List Expr} {fa fb fc fe fo : Ex} {fs : List Ex} {ft fu : Tx} {pos p : Pos} {st : Stmt} {rest : List Stmt} {f1 f2 : Sx}
theorem is_seq (h : ES J X W e fe) : IS J X W tgt e (iSeq fe) :=
  PI.imp (PI.or (pi_list h) (PI.or (pi_tup h) (pi_str h))) fun σ H R ⟨env, ρ, F, s, g, l, k⟩ => by
    unfold iSeq at k
    have case_bad : fe env s = .bad → False := fun e => by unfold bnd at k; rw [e] at k; exact k
    cases ev : fe env s with
    | bad => exact (case_bad ev).elim
    | exc c s1 =>
      unfold bnd at k
      rw [ev] at k
      exact .inl ⟨env, ρ, F, s, g, l, by rw [ev]; exact k⟩
    | ok d s1 =>
      have k' := k
      unfold bnd at k'
      rw [ev] at k'
      have gen : (∀ s, asQ s d = asL s d) → ∀ l', asQ s1 d = some l' → Po (wd J X) (fun ρ F (a : List Dt × (Sto → Prop)) (T : It) => ItS (wd J X) ρ F T a.1 a.2) ρ F H R (fun c H' => W c none σ H') (.ok (l', fun s' => asQ s' d = some l') s1) → iList X.K (tE (wd J X) W fe) σ H R := fun hq l' hl kk =>
        ⟨env, ρ, F, s, g, l, by
          rw [ev]
          exact fun ρ1 F1 H1 v l1 g1 r1 => by
            obtain ⟨x, xs, e1, q, t, z⟩ := g1.sqL r1 (by rw [← hq]; exact hl)
            exact ⟨x, e1, ⟨xs, q⟩, kk ρ1 F1 H1 _ l1 g1 (its_list r1 e1 hq z)⟩⟩
      cases d with
      | str z =>
        refine .inr (.inr ⟨env, ρ, F, s, g, l, ?_⟩)
        rw [ev]
        exact fun ρ1 F1 H1 v l1 g1 r1 => by
          simp only [Den] at r1
          exact ⟨z, r1.1, k' ρ1 F1 H1 _ l1 g1 (its_str r1.2)⟩
      | tup l' =>
        refine .inr (.inl ⟨env, ρ, F, s, g, l, ?_⟩)
        rw [ev]
        exact fun ρ1 F1 H1 v l1 g1 r1 => by
          obtain ⟨x, xs, e1, q, t, z⟩ := g1.sqT r1 (l := l') rfl
          exact ⟨x, e1, ⟨xs, q⟩, k' ρ1 F1 H1 _ l1 g1 (its_tup r1 e1 z)⟩
      | lst l' => exact .inl (gen (fun _ => rfl) l' rfl k')
      | lsk l' => exact .inl (gen (fun _ => rfl) l' rfl k')
      | obj j =>
        simp only [] at k'
        cases eq : asQ s1 (.obj j) with
        | none => rw [eq] at k'; exact False.elim k'
        | some l' => rw [eq] at k'; exact .inl (gen (fun _ => rfl) l' eq k')
      | _ => exact False.elim k'
theorem is_range (hg : Gl X "range") (hm : X.mg "range" = none) (h : ES J X W e fe) (hs : starEach [e] X.env = [(false, eval e X.env)] := by rfl) : IS J X W tgt (.Call (.Name "range" p) [e] [] pos) (iRange fe) :=
  PI.imp (pi_range1 hg hm (pa_cons h pa_nil hs) hs) fun σ H R ⟨env, ρ, F, s, g, l, k⟩ => ⟨env, ρ, F, s, g, l, Po.bind k fun d s1 ρ1 F1 H1 v e1 l1 g1 r1 k1 => by
    cases d with
    | int n =>
      simp only [] at k1
      split at k1
      · rename_i hz
        simp only [Den] at r1
        exact ⟨n, by rw [r1], hz.2, by omega, k1 ρ1 F1 H1 _ LE.refl g1 (its_range (by simp) (by rw [sizeLine_eq]; omega))⟩
      · exact False.elim k1
    | _ => exact False.elim k1⟩
theorem is_range2 (hg : Gl X "range") (hm : X.mg "range" = none) (h : ES J X W a fa) (h' : ES J X W b fb) (hs : starEach [a, b] X.env = [(false, eval a X.env), (false, eval b X.env)] := by rfl) (hs2 : starEach [b] X.env = [(false, eval b X.env)] := by rfl) : IS J X W tgt (.Call (.Name "range" p) [a, b] [] pos) (iRange2 fa fb) := by
  have z1 : starEach (a :: [b]) X.env = (false, eval a X.env) :: starEach [b] X.env := by rw [hs2]; exact hs
  exact PI.imp (pi_range2 hg hm (pa_cons h (pa_cons h' pa_nil hs2) z1) hs hs2) fun σ H R ⟨env, ρ, F, s, g, l, k⟩ => ⟨env, ρ, F, s, g, l, Po.bind k fun d s1 ρ1 F1 H1 v e1 l1 g1 r1 k1 => ⟨env, ρ1, F1, s1, g1, l.mono l1, Po.bind k1 fun d2 s2 ρ2 F2 H2 v2 e2 l2 g2 r2 k2 => by
    cases d with
    | int i =>
      cases d2 with
      | int j =>
        simp only [] at k2
        split at k2
        · rename_i hz
          simp only [Den] at r1 r2
          exact ⟨i, j, by rw [r1, r2], hz.1, k2 ρ2 F2 H2 _ LE.refl g2 (its_range rfl (by rw [sizeLine_eq]; omega))⟩
        · exact False.elim k2
      | _ => exact False.elim k2
    | _ => exact False.elim k2⟩⟩
/-! ### for, while -/
open Classical in
noncomputable def forGo (tg : Tg) (body : Sx) (ok : Sto → Prop) : List Dt → Sx
  | [], env, s => if ok s then .fl (.nx env) s else .bad
  | d :: r, env, s => if ok s then match tg d env with
      | some env1 => match body env1 s with
        | .fl (.nx e) s' => forGo tg body ok r e s'
        | .fl (.ct e) s' => forGo tg body ok r e s'
        | .fl (.bk e) s' => .fl (.nx e) s'
        | .fl (.rt d) s' => .fl (.rt d) s'
        | .exc c e s' => .exc c e s'
        | .bad => .bad
      | none => .bad
    else .bad
noncomputable def sFor (fi : Is) (tg : Tg) (body : Sx) : Sx := fun env => sBnd (fi env) env fun p => forGo tg body p.2 p.1 env
theorem ss_for {iter : Expr} {body : List Stmt} {fi : Is} {is : List Nat} {tg : Tg} (hp : PassesOwn (model X.prog X.w) X.A X.env X.xe) (hc : X.calm = true) (hi : IS J X W tgt iter fi) (hg : GS J X tgt is tg) (hb : SSs J X W body f1)
    (hs : ∀ x, foldedSetIterable iter X.env x = pure x := by intro _; rfl) : SS J X W (.For tgt iter body [] pos) (sFor fi tg f1) :=
  PS.imp (ps_for hp hc hi hg hb hs) fun D σ H ⟨env, ρ, F, s, g, l, k⟩ => ⟨env, ρ, F, s, g, l, FPo.bind k l fun q s1 ρ1 F1 H1 T e1 l1 g1 r1 k1 => by
    obtain ⟨its, ok⟩ := q
    refine ⟨fun i m σ H => i ≤ its.length ∧ m = its.length - i ∧ ∃ env ρ F s, LE ρ1 F1 H1 ρ F H ∧ G (wd J X) ρ F s H ∧ Sl (wd J X) ρ F env σ ∧ FPo (wd J X) W ρ F H D (forGo tg f1 ok (its.drop i) env s), ⟨_, Nat.zero_le _, rfl, env, ρ1, F1, s1, LE.refl, g1, l.mono l1, k1⟩, ?_⟩
    rintro i m σ2 H2 ⟨hi, em, env2, ρ2, F2, s2, l2, g2, sl2, k2⟩
    by_cases hlt : i < its.length
    · obtain ⟨d, hd⟩ : ∃ d, its[i]? = some d := ⟨its[i], List.getElem?_eq_getElem hlt⟩
      have hdr : its.drop i = d :: its.drop (i + 1) := by
        rw [List.drop_eq_getElem_cons hlt]
        congr 1
        have := List.getElem?_eq_some_iff.mp hd
        exact this.2
      rw [hdr] at k2
      simp only [forGo] at k2
      split at k2
      · rename_i hok
        cases et : tg d env2 with
        | none => rw [et] at k2; exact False.elim k2
        | some env3 =>
          rw [et] at k2
          simp only [] at k2
          refine .inr ⟨r1.go i ρ2 F2 s2 H2 l2.ld g2 hok hlt, fun σ' H' => i + 1 ≤ its.length ∧ its.length - (i + 1) = its.length - (i + 1) ∧ ∃ env ρ F s, LE ρ1 F1 H1 ρ F H' ∧ G (wd J X) ρ F s H' ∧ Sl (wd J X) ρ F env σ' ∧ FPo (wd J X) W ρ F H' D (forGo tg f1 ok (its.drop (i + 1)) env s), fun σ' H' hN => ⟨its.length - (i + 1), by rw [em]; omega, hN⟩, fun x H' hy => ?_⟩
          obtain ⟨F3, l3, g3, rd⟩ := r1.yld i ρ2 F2 s2 H2 d x H' l2.ld g2 hok hd hy
          refine ⟨env2, ρ2, F3, s2, d, env3, g3, sl2.mono l3, rd, et, fun σ4 sl4 _ _ => ⟨env3, ρ2, F3, s2, g3, sl4, ?_⟩⟩
          have k3 := k2.le l3
          cases eb : f1 env3 s2 with
          | fl f s4 =>
            rw [eb] at k3
            cases f with
            | nx e4 => exact fun ρ5 F5 H5 σ5 l5 g5 sl5 => ⟨hlt, rfl, e4, ρ5, F5, s4, (l2.trans l3).trans l5, g5, sl5, k3.le l5⟩
            | ct e4 => exact fun ρ5 F5 H5 σ5 l5 g5 sl5 => ⟨hlt, rfl, e4, ρ5, F5, s4, (l2.trans l3).trans l5, g5, sl5, k3.le l5⟩
            | rt d4 => exact k3
            | bk e4 => exact k3
          | exc c4 e4 s4 => rw [eb] at k3; exact k3
          | bad => rw [eb] at k3; exact k3
      · exact False.elim k2
    · have hie : i = its.length := by omega
      have hdr : its.drop i = [] := List.drop_eq_nil_of_le (by omega)
      rw [hdr] at k2
      simp only [forGo] at k2
      split at k2
      · rename_i hok
        exact .inl ⟨r1.stop i ρ2 F2 s2 H2 l2.ld g2 hok hie, k2 ρ2 F2 H2 σ2 LE.refl g2 sl2⟩
      · exact False.elim k2⟩
def whGo (t : Tx) (body : Sx) : Nat → Sx
  | 0, _, _ => .bad
  | n + 1, env, s => sBnd (t env) env (fun c s1 => if c = true then (match body env s1 with
      | .fl (.nx e) s' => whGo t body n e s'
      | .fl (.ct e) s' => whGo t body n e s'
      | .fl (.bk e) s' => .fl (.nx e) s'
      | .fl (.rt d) s' => .fl (.rt d) s'
      | .exc c e s' => .exc c e s'
      | .bad => .bad) else .fl (.nx env) s1) s
theorem ss_while {body : List Stmt} (n : Nat) (hp : PassesOwn (model X.prog X.w) X.A X.env X.xe) (hc : TSo J X W c ft) (hb : SSs J X W body f1) : SS J X W (.While c body [] pos) (whGo ft f1 n) :=
  PS.imp (ps_while hp hc hb) fun D σ H ⟨env, ρ, F, s, g, l, k⟩ => by
    refine ⟨fun m σ H => ∃ env ρ F s, G (wd J X) ρ F s H ∧ Sl (wd J X) ρ F env σ ∧ FPo (wd J X) W ρ F H D (whGo ft f1 m env s), ⟨n, env, ρ, F, s, g, l, k⟩, ?_⟩
    rintro m σ2 H2 ⟨env2, ρ2, F2, s2, g2, sl2, k2⟩
    cases m with
    | zero => exact False.elim k2
    | succ m =>
      simp only [whGo] at k2
      refine ⟨env2, ρ2, F2, s2, g2, sl2, FPo.bind k2 sl2 fun cb s3 ρ3 F3 H3 bb e3 l3 g3 r3 k3 => ?_⟩
      subst r3
      cases cb with
      | false => exact k3 ρ3 F3 H3 σ2 LE.refl g3 (sl2.mono l3)
      | true =>
        refine ⟨fun σ' H' => ∃ env ρ F s, G (wd J X) ρ F s H' ∧ Sl (wd J X) ρ F env σ' ∧ FPo (wd J X) W ρ F H' D (whGo ft f1 m env s), fun σ' H' hN => ⟨m, Nat.lt_succ_self _, hN⟩, env2, ρ3, F3, s3, g3, sl2.mono l3, ?_⟩
        simp only [if_true] at k3
        cases eb : f1 env2 s3 with
        | fl f s4 =>
          rw [eb] at k3
          cases f with
          | nx e4 => exact fun ρ5 F5 H5 σ5 l5 g5 sl5 => ⟨e4, ρ5, F5, s4, g5, sl5, k3.le l5⟩
          | ct e4 => exact fun ρ5 F5 H5 σ5 l5 g5 sl5 => ⟨e4, ρ5, F5, s4, g5, sl5, k3.le l5⟩
          | rt d4 => exact k3
          | bk e4 => exact k3
        | exc c4 e4 s4 => rw [eb] at k3; exact k3
        | bad => rw [eb] at k3; exact k3
end
end Pd
namespace Pd
open PySem L2
/-! ### comprehensions -/
/-- one computation behind another that raises nothing -/
def bndN {α β : Type} (m : Sto → Out α) (k : α → Sto → Out β) (s : Sto) : Out β := match m s with
  | .ok a s' => k a s'
  | _ => .bad
theorem Po.bindN {α β γ δ : Type} {Γ : Wd} {R1 : List Addr → Hp → α → β → Prop} {R2 : List Addr → Hp → γ → δ → Prop} {ρ0 ρ : List Addr} {F0 H0 F H : Hp} {Q : δ → Hp → Prop} {Q1 : β → Hp → Prop} {E E' : Value → Hp → Prop} {m : Sto → Out α} {k : α → Sto → Out γ} {s : Sto}
    (h : Po Γ R2 ρ0 F0 H0 Q E (bndN m k s)) (hk : ∀ a s', m s = .ok a s' → Po Γ R2 ρ0 F0 H0 Q E (k a s') → ∀ ρ' F' H' v, LE ρ F H ρ' F' H' → G Γ ρ' F' s' H' → R1 ρ' F' a v → Q1 v H') : Po Γ R1 ρ F H Q1 E' (m s) := by
  unfold bndN at h
  cases e : m s with
  | ok a s' => rw [e] at h; exact hk a s' e h
  | exc c s' => rw [e] at h; exact False.elim h
  | bad => rw [e] at h; exact False.elim h
theorem LE.at_new {ρ ρ' : List Addr} {F H F' H' : Hp} (l : LE ρ F H ρ' F' H') {p : Addr} {o : HO} (hp : H p = none) : LE ρ F H ρ' F' (upd H' p o) where
  ld := l.ld
  fr := l.fr
  ff := l.ff
  keep := fun a u h n => by rw [upd_ne (ne_of_none h hp)]; exact l.keep a u h n
  there := fun a u h => by
    obtain ⟨w, q⟩ := l.there a u h
    exact ⟨w, by rw [upd_ne (ne_of_none h hp)]; exact q⟩
open Classical in
noncomputable def lcGo (tg : Tg) (ft : Tx) (fe : Ex) (ok : Sto → Prop) : List Dt → En → Sto → Out (List Dt)
  | [], _, s => if ok s then .ok [] s else .bad
  | d :: r, env, s => if ok s then match tg d env with
      | some env1 => bndN (ft env1) (fun b s1 => if b = true then bndN (fe env1) (fun y => bndN (lcGo tg ft fe ok r env) fun ys s => .ok (y :: ys) s) s1 else lcGo tg ft fe ok r env s1) s
      | none => .bad
    else .bad
def wipeD (env : En) : List Nat → En
  | [] => env
  | v :: vs => (wipeD env vs).set v none
noncomputable def eLc (nw : List Dt → Sto → Out Dt) (vs : List Nat) (fi : Is) (tg : Tg) (ft : Tx) (fe : Ex) : Ex := fun env => bnd (fi env) fun p => bndN (lcGo tg ft fe p.2 p.1 (wipeD env vs)) nw
theorem Sl.wipe {Γ : Wd} {ρ : List Addr} {F : Hp} {env : En} {σ : St} (h : Sl Γ ρ F env σ) : ∀ vs : List Nat, Sl Γ ρ F (wipeD env vs) (L2.wipe σ vs)
  | [] => h
  | v :: vs => (Sl.wipe h vs).unset v
theorem wipe_in {τ : St} {j : Nat} : ∀ {vs : List Nat}, j ∈ vs → (L2.wipe τ vs)[j]? = if j < τ.length then some none else none
  | v :: vs, h => by
    show ((L2.wipe τ vs).set v none)[j]? = _
    by_cases e : v = j
    · subst e
      by_cases hl : v < τ.length
      · rw [if_pos hl, List.getElem?_set_self (by rw [wipe_length]; exact hl)]
      · rw [if_neg hl]
        exact List.getElem?_eq_none (by rw [List.length_set, wipe_length]; omega)
    · rw [List.getElem?_set_ne e]
      exact wipe_in (by
        rcases List.mem_cons.mp h with h | h
        · exact absurd h.symm e
        · exact h)
theorem wipe_same {σ σ2 : St} {is vs : List Nat} (hsub : ∀ i ∈ is, i ∈ vs) (hl : σ2.length = (L2.wipe σ vs).length) (h : ∀ j, j ∉ is → σ2[j]? = (L2.wipe σ vs)[j]?) : L2.wipe σ2 vs = L2.wipe σ vs := by
  apply List.ext_getElem?
  intro j
  by_cases hj : j ∈ vs
  · rw [wipe_in hj, wipe_in hj, hl, wipe_length]
  · rw [wipe_out hj]
    exact h j fun z => hj (hsub j z)
section
variable {J : Cn} {X : Cx} {W : WX} {a b c e e2 o tgt iter elt : Expr} {es ifs : List Expr} {fa fb fc fe fo : Ex} {fs : List Ex} {ft fu : Tx} {pos p : Pos} {st : Stmt} {rest : List Stmt} {f1 f2 : Sx} {fi : Is} {is : List Nat} {tg : Tg}
abbrev W0 : WX := fun _ _ _ _ => False
/-- what holds of the new list once it is whole -/
theorem lst_done {nw : List Dt → Sto → Out Dt} (n : IsNw nw) {Γ : Wd} {ρ0 ρ : List Addr} {F0 H0 F H : Hp} {s : Sto} {acc : List Dt} {xs : List V} {D : Addr} {Q : VK} {E : Value → Hp → Prop} (g : G Γ ρ F s H) (l : LE ρ0 F0 H0 ρ F H) (t : Dens Γ ρ F acc xs) (hz : acc.length ≤ sizeLine) (hD : H D = some (.lst xs)) (h0 : H0 D = none) (nr : D ∉ ρ) (nf : F D = none)
    (k : EPo Γ ρ0 F0 H0 Q E (nw acc s)) : Q (.ref D) H := by
  have eH : upd H D (.lst xs) = H := by
    funext x
    by_cases e : x = D
    · subst e; rw [upd_same, hD]
    · rw [upd_ne e]
  rcases n with n | n
  · subst n
    have ld : LD ρ F ρ (upd F D (.lst xs)) := LD.upd nf
    refine k ρ (upd F D (.lst xs)) H _ ⟨l.ld.trans ld, l.fr, fun a o h => ?_, l.keep, l.there⟩ ⟨fun a o h => ?_, g.len, g.nd, fun a h => ?_, fun i a mo h1 h2 => (g.at_ i a mo h1 h2).mono ld rfl⟩ ?_
    · by_cases e : a = D
      · subst e; exact .inr h0
      · rw [upd_ne e] at h; exact l.ff a o h
    · by_cases e : a = D
      · subst e; rw [upd_same] at h; cases h; exact hD
      · rw [upd_ne e] at h; exact g.sub a o h
    · rw [upd_ne (fun z => nr (by rw [← z]; exact h))]; exact g.sep a h
    · simp only [Den]
      exact ⟨hz, D, xs, rfl, upd_same, Dens.monoD ld _ _ t⟩
  · subst n
    have ld : LD ρ F (ρ ++ [D]) F := LD.push
    refine k (ρ ++ [D]) F H _ ⟨l.ld.trans ld, fun a h => ?_, l.ff, l.keep, l.there⟩ ⟨g.sub, by simp [g.len], ?_, fun a h => ?_, fun i a m h1 h2 => ?_⟩ ?_
    · rcases List.mem_append.mp h with h | h
      · exact l.fr a h
      · rw [List.mem_singleton] at h; rw [h]; exact .inr h0
    · refine List.nodup_append.mpr ⟨g.nd, by simp, fun a ha b hb => ?_⟩
      rw [List.mem_singleton] at hb
      rw [hb]
      exact fun z => nr (by rw [← z]; exact ha)
    · rcases List.mem_append.mp h with h | h
      · exact g.sep a h
      · rw [List.mem_singleton] at h; rw [h]; exact nf
    · by_cases hi : i < ρ.length
      · rw [List.getElem?_append_left hi] at h1
        rw [List.getElem?_append_left (by rw [← g.len]; exact hi)] at h2
        exact (g.at_ i a m h1 h2).mono ld rfl
      · rw [List.getElem?_append_right (by omega)] at h1
        rw [List.getElem?_append_right (by rw [← g.len]; omega)] at h2
        have e0 : i - ρ.length = 0 := by
          have := (List.getElem?_eq_some_iff.mp h1).1
          simp at this
          omega
        rw [e0] at h1
        rw [← g.len, e0] at h2
        cases h1
        cases h2
        exact ⟨hz, xs, hD, Dens.monoD ld _ _ t⟩
    · simp only [Den]
      exact ⟨D, rfl, by rw [← g.len, List.getElem?_append_right (Nat.le_refl _), Nat.sub_self]; rfl⟩
theorem lc_of {nw : List Dt → Sto → Out Dt} (n : IsNw nw) {vs : List Nat} (hsub : ∀ i ∈ is, i ∈ vs) {σ : St} {H : Hp} {Q : VK} (h : tE (wd J X) W (eLc nw vs fi tg ft fe) σ H Q) : tLc (tI (wd J X) W fi) (tG (wd J X) is tg) (tT (wd J X) W0 ft) (tE (wd J X) W0 fe) vs σ H Q := by
  obtain ⟨env, ρ, F, s, g, l, k⟩ := h
  refine ⟨env, ρ, F, s, g, l, Po.bind k fun q s1 ρ1 F1 H1 T e1 l1 g1 r1 k1 D hD => ?_⟩
  obtain ⟨its, ok⟩ := q
  have swl := (l.mono l1).wipe vs
  refine ⟨fun i m H => i ≤ its.length ∧ m = its.length - i ∧ ∃ ρ F s acc xs, LE ρ1 F1 H1 ρ F H ∧ G (wd J X) ρ F s H ∧ D ∉ ρ ∧ F D = none ∧ H D = some (.lst xs) ∧ Dens (wd J X) ρ F acc xs ∧ acc.length ≤ i ∧
      EPo (wd J X) ρ1 F1 H1 Q (fun c H' => W c none σ H') (bndN (lcGo tg ft fe ok (its.drop i) (wipeD env vs)) (fun ds => nw (acc ++ ds)) s), ?_, ?_⟩
  · refine ⟨its.length, Nat.zero_le _, rfl, ρ1, F1, s1, [], [], LE.skip hD, g1.skip _ hD, fun z => ?_, g1.fnone hD, upd_same, by simp only [Dens], Nat.le_refl _, k1⟩
    exact (g1.new_ne hD z) rfl
  · rintro i m H2 ⟨hi, em, ρ2, F2, s2, acc, xs, l2, g2, nr, nf, hDx, t, hac, k2⟩
    by_cases hlt : i < its.length
    · obtain ⟨d, hd⟩ : ∃ d, its[i]? = some d := ⟨its[i], List.getElem?_eq_getElem hlt⟩
      have hdr : its.drop i = d :: its.drop (i + 1) := by
        rw [List.drop_eq_getElem_cons hlt]
        congr 1
        exact (List.getElem?_eq_some_iff.mp hd).2
      rw [hdr] at k2
      have hok : ok s2 := by
        apply Classical.byContradiction
        intro hno
        simp only [bndN, lcGo, if_neg hno] at k2
        exact k2
      cases et : tg d (wipeD env vs) with
      | none => simp only [bndN, lcGo, if_pos hok, et] at k2; exact False.elim k2
      | some env1 =>
        refine .inr ⟨r1.go i ρ2 F2 s2 H2 l2.ld g2 hok hlt, fun H' => i + 1 ≤ its.length ∧ its.length - (i + 1) = its.length - (i + 1) ∧ ∃ ρ F s acc xs, LE ρ1 F1 H1 ρ F H' ∧ G (wd J X) ρ F s H' ∧ D ∉ ρ ∧ F D = none ∧ H' D = some (.lst xs) ∧ Dens (wd J X) ρ F acc xs ∧ acc.length ≤ i + 1 ∧
          EPo (wd J X) ρ1 F1 H1 Q (fun c H' => W c none σ H') (bndN (lcGo tg ft fe ok (its.drop (i + 1)) (wipeD env vs)) (fun ds => nw (acc ++ ds)) s), fun H' hN => ⟨_, by rw [em]; omega, hN⟩, fun x H' hy => ?_⟩
        obtain ⟨F3, l3, g3, rd⟩ := r1.yld i ρ2 F2 s2 H2 d x H' l2.ld g2 hok hd hy
        have swl3 := (swl.mono l2).mono l3
        refine ⟨_, ρ2, F3, s2, d, env1, g3, swl3, rd, et, fun σ2 sl2 z1 z2 => ⟨wipe_same hsub z1 z2, env1, ρ2, F3, s2, g3, sl2, ?_⟩⟩
        -- the test
        have k3 : EPo (wd J X) ρ1 F1 H1 Q (fun c H' => W c none σ H') (bndN (ft env1) (fun b s1 => if b = true then bndN (fe env1) (fun y => bndN (lcGo tg ft fe ok (its.drop (i + 1)) (wipeD env vs)) fun ys => nw (acc ++ (y :: ys))) s1 else bndN (lcGo tg ft fe ok (its.drop (i + 1)) (wipeD env vs)) (fun ds => nw (acc ++ ds)) s1) s2) := by
          have e : bndN (lcGo tg ft fe ok (d :: its.drop (i + 1)) (wipeD env vs)) (fun ds => nw (acc ++ ds)) s2 = (bndN (ft env1) (fun b s1 => if b = true then bndN (fe env1) (fun y => bndN (lcGo tg ft fe ok (its.drop (i + 1)) (wipeD env vs)) fun ys => nw (acc ++ (y :: ys))) s1 else bndN (lcGo tg ft fe ok (its.drop (i + 1)) (wipeD env vs)) (fun ds => nw (acc ++ ds)) s1) s2) := by
            simp only [bndN, lcGo, if_pos hok, et]
            cases ft env1 s2 with
            | ok b s3 =>
              cases b with
              | true =>
                simp only [if_true]
                cases fe env1 s3 with
                | ok y s4 =>
                  simp only []
                  cases lcGo tg ft fe ok (its.drop (i + 1)) (wipeD env vs) s4 <;> rfl
                | _ => rfl
              | false => simp
            | _ => rfl
          rw [← e]; exact k2
        have nr3 : D ∉ ρ2 := nr
        have nf3 : F3 D = none := by
          cases e : F3 D with
          | none => rfl
          | some o =>
            rcases l3.ff D o e with ⟨u, z⟩ | z
            · rw [nf] at z; cases z
            · rw [hDx] at z; cases z
        have hD3 : H' D = some (.lst xs) := l3.keep D _ hDx nr
        have stay : ∀ {ρ' : List Addr} {F' H3 : Hp}, LE ρ2 F3 H' ρ' F' H3 → D ∉ ρ' ∧ F' D = none ∧ H3 D = some (.lst xs) := fun {ρ' F' H3} l => by
          refine ⟨fun z => ?_, ?_, l.keep D _ hD3 nr3⟩
          · rcases l.fr D z with z | z
            · exact nr3 z
            · rw [hD3] at z; cases z
          · cases e : F' D with
            | none => rfl
            | some o =>
              rcases l.ff D o e with ⟨u, z⟩ | z
              · rw [nf3] at z; cases z
              · rw [hD3] at z; cases z
        refine Po.bindN k3 fun b s3 eb k4 ρ4 F4 H4 b' l4 g4 r4 => ?_
        subst r4
        cases b with
        | false =>
          simp only [Bool.false_eq_true, if_false] at k4
          obtain ⟨w1, w2, w3⟩ := stay l4
          rw [if_neg Bool.false_ne_true]
          exact ⟨hlt, rfl, ρ4, F4, s3, acc, xs, (l2.trans l3).trans l4, g4, w1, w2, w3, Dens.mono (l3.trans l4) _ _ t, Nat.le_succ_of_le hac, k4⟩
        | true =>
          simp only [if_true] at k4
          rw [if_pos rfl]
          refine ⟨env1, ρ4, F4, s3, g4, sl2.mono l4, Po.bindN k4 fun y s5 ey k5 ρ5 F5 H5 v l5 g5 r5 => ?_⟩
          obtain ⟨w1, w2, w3⟩ := stay (l4.trans l5)
          refine ⟨xs, w3, ?_, hlt, rfl, ρ5, F5, s5, acc ++ [y], xs ++ [v], ((l2.trans l3).trans (l4.trans l5)).at_new hD, g5.other _ w1 w2, w1, w2, upd_same, Dens.append (Dens.mono (l3.trans (l4.trans l5)) _ _ t) (Dens.one r5), by rw [List.length_append]; simpa using hac, ?_⟩
          · rw [← t.length]
            exact Nat.lt_of_le_of_lt hac (Nat.lt_of_lt_of_le hlt r1.len)
          · have e : (fun ds => nw (acc ++ [y] ++ ds)) = fun ys => nw (acc ++ (y :: ys)) := by funext ys; rw [List.append_assoc]; rfl
            rw [e]
            exact k5
    · have hie : i = its.length := by omega
      have hdr : its.drop i = [] := List.drop_eq_nil_of_le (by omega)
      rw [hdr] at k2
      have hok : ok s2 := by
        apply Classical.byContradiction
        intro hno
        simp only [bndN, lcGo, if_neg hno] at k2
        exact k2
      simp only [bndN, lcGo, if_pos hok, List.append_nil] at k2
      exact .inl ⟨r1.stop i ρ2 F2 s2 H2 l2.ld g2 hok hie, lst_done n g2 l2 t (Nat.le_trans hac (by rw [hie]; exact r1.len)) hDx hD nr nf k2⟩
theorem es_lc {nw : List Dt → Sto → Out Dt} (n : IsNw nw) {scope : Scope} {own : List (Str × Nat)} (hc : X.calm = true) (hN : X.N.Nodup) (hi : IS J X W tgt iter fi) (ok : BlkOk X.N X.env.scope scope own) (hsub : ∀ i ∈ is, i ∈ own.map (·.2))
    (hg : ∀ (s : Shared) (H : Hp) (C : Addr) (cl : List (Str × Addr)) (fp : List Addr), GS J (X.blk s H scope (compEnvC scope cl C X.env) fp) tgt is tg) (ht : ∀ (s : Shared) (H : Hp) (C : Addr) (cl : List (Str × Addr)) (fp : List Addr), PTs (X.blk s H scope (compEnvC scope cl C X.env) fp) ifs (tT (wd J X) W0 ft))
    (he : ∀ (s : Shared) (H : Hp) (C : Addr) (cl : List (Str × Addr)) (fp : List Addr), ES J (X.blk s H scope (compEnvC scope cl C X.env) fp) W0 elt fe) (hs : ∀ x, foldedSetIterable iter X.env x = pure x := by intro _; rfl) :
    ES J X W (.ListComp elt [⟨tgt, iter, ifs, 0⟩] scope pos) (eLc nw (own.map (·.2)) fi tg ft fe) :=
  PE.imp (pe_lc hc hN hi ok hg ht he hs) fun σ H Q h => lc_of n hsub h
theorem ss_setLc {nw : List Dt → Sto → Out Dt} (n : IsNw nw) {i : Nat} {y : Str} {py spos : Pos} {scope : Scope} {own : List (Str × Nat)} (hc : X.calm = true) (hN : X.N.Nodup) (hy : X.N[i]? = some y) (hyl : X.env.scope.names.lookup y = some .local)
    (hsw : swapsWith (.ListComp elt [⟨tgt, iter, ifs, 0⟩] scope pos) (some (.Name y py)) spos.line X.env = pure true) (hi : IS J X W tgt iter fi) (ok : BlkOk X.N X.env.scope scope own) (hsub : ∀ i ∈ is, i ∈ own.map (·.2))
    (hg : ∀ (s : Shared) (H : Hp) (C : Addr) (cl : List (Str × Addr)) (fp : List Addr), GS J (X.blk s H scope (compEnvC scope cl C X.env) fp) tgt is tg) (ht : ∀ (s : Shared) (H : Hp) (C : Addr) (cl : List (Str × Addr)) (fp : List Addr), PTs (X.blk s H scope (compEnvC scope cl C X.env) fp) ifs (tT (wd J X) W0 ft))
    (he : ∀ (s : Shared) (H : Hp) (C : Addr) (cl : List (Str × Addr)) (fp : List Addr), ES J (X.blk s H scope (compEnvC scope cl C X.env) fp) W0 elt fe) (hs : ∀ x, foldedSetIterable iter X.env x = pure x := by intro _; rfl) :
    SS J X W (.Assign [.Name y py] (.ListComp elt [⟨tgt, iter, ifs, 0⟩] scope pos) spos) (sAsg (eLc nw (own.map (·.2)) fi tg ft fe) (gN i)) :=
  PS.imp (ps_setLc hc hN hy hyl hsw hi ok hg ht he hs) fun D σ H ⟨env, ρ, F, s, g, l, k⟩ => lc_of (W := W) n hsub ⟨env, ρ, F, s, g, l, FPo.bind k l fun d s1 ρ1 F1 H1 v e1 l1 g1 r1 k1 => k1 ρ1 F1 H1 _ LE.refl g1 ((l.mono l1).set r1 i)⟩
def tYes : Tx := fun _ s => .ok true s
theorem PTs.imp {X : Cx} {e : List Expr} {t t' : TT} (h : PTs X e t) (k : ∀ σ H Q, t' σ H Q → t σ H Q) : PTs X e t' := ⟨fun pins s σ H Q I q => h.run pins s σ H Q I (k σ H Q q)⟩
theorem tts_nil : PTs X [] (tT (wd J X) W Pd.tYes) := PTs.imp pts_nil fun σ H Q ⟨env, ρ, F, s, g, l, k⟩ => k ρ F H true LE.refl g rfl
theorem tts_one (h : TSo J X W c ft) : PTs X [c] (tT (wd J X) W ft) := pts_one h
end
end Pd
namespace Pd
open PySem L2
/-- a list that is tracked -/
def trkL (s : Sto) : Dt → Option (List Dt)
  | .lst l => some l
  | .obj i => match s[i]? with
    | some (.lst l) => some l
    | _ => none
  | _ => none
/-- a list of the store -/
def lstAt (s : Sto) : Dt → Option (Nat × List Dt)
  | .obj i => match s[i]? with
    | some (.lst l) => some (i, l)
    | _ => none
  | _ => none
section
variable {Γ : Wd} {ρ : List Addr} {F H : Hp} {s : Sto}
theorem G.trk (g : G Γ ρ F s H) {d : Dt} {v : V} {l : List Dt} (r : Den Γ ρ F d v) (h : trkL s d = some l) : ∃ a xs, v = .ref a ∧ H a = some (.lst xs) ∧ Dens Γ ρ F l xs ∧ l.length ≤ sizeLine := by
  cases d with
  | lst l' =>
    simp only [Den] at r
    simp only [trkL, Option.some.injEq] at h
    subst h
    obtain ⟨z, a, xs, e, q, t⟩ := r
    exact ⟨a, xs, e, g.sub _ _ q, t, z⟩
  | obj i =>
    simp only [Den] at r
    obtain ⟨a, e, q⟩ := r
    simp only [trkL] at h
    split at h
    · rename_i l' hs
      cases h
      obtain ⟨z, xs, ha, t⟩ := g.at_ i a _ q hs
      exact ⟨a, xs, e, ha, t, z⟩
    · cases h
  | _ => simp [trkL] at h
theorem G.lat (g : G Γ ρ F s H) {d : Dt} {v : V} {i : Nat} {l : List Dt} (r : Den Γ ρ F d v) (h : lstAt s d = some (i, l)) : ∃ a xs, v = .ref a ∧ ρ[i]? = some a ∧ H a = some (.lst xs) ∧ Dens Γ ρ F l xs ∧ l.length ≤ sizeLine := by
  cases d with
  | obj j =>
    simp only [Den] at r
    obtain ⟨a, e, q⟩ := r
    simp only [lstAt] at h
    split at h
    · rename_i l' hs
      cases h
      obtain ⟨z, xs, ha, t⟩ := g.at_ _ a _ q hs
      exact ⟨a, xs, e, q, ha, t, z⟩
    · cases h
  | _ => simp [lstAt] at h
/-- a list of the store is written -/
theorem G.setL (g : G Γ ρ F s H) {i : Nat} {a : Addr} {l : List Dt} {xs : List V} (hi : ρ[i]? = some a) (t : Dens Γ ρ F l xs) (z : l.length ≤ sizeLine) : G Γ ρ F (s.set i (.lst l)) (upd H a (.lst xs)) := g.put hi ⟨z, xs, upd_same, t⟩
end
/-! ### a + b -/
def dAdd (nw : List Dt → Sto → Out Dt) (x y : Dt) (s : Sto) : Out Dt := match x with
  | .int i => match y with
    | .int j => .ok (.int (i + j)) s
    | _ => .bad
  | .str i => match y with
    | .str j => if i.length + j.length ≤ 1000000 then .ok (.str (i ++ j)) s else .bad
    | _ => .bad
  | .tup l => match y with
    | .tup m => if l.length + m.length ≤ sizeLine then .ok (.tup (l ++ m)) s else .bad
    | _ => .bad
  | x => match trkL s x with
    | some l => match trkL s y with
      | some m => if l.length + m.length ≤ sizeLine then nw (l ++ m) s else .bad
      | none => .bad
    | none => .bad
theorem sok_app {i j : Str} (hi : sok i = true) (hj : sok j = true) (h : i.length + j.length ≤ 1000000) : sok (i ++ j) = true := by
  have e : (i ++ j).cps.toList = i.cps.toList ++ j.cps.toList := TL.tl_append i j
  refine sok_of (fun c hc => ?_) ?_
  · rw [e] at hc
    rcases List.mem_append.mp hc with hc | hc
    · exact sok_mem hi hc
    · exact sok_mem hj hc
  · have : (i ++ j).length = i.length + j.length := by
      show (i ++ j).cps.size = i.cps.size + j.cps.size
      rw [← Array.length_toList, e, List.length_append, Array.length_toList, Array.length_toList]
    omega
def rAddAll (K : PySem.W.Frag) : R2 := fun x y H Q => rI0 (fun i j => .int (i + j)) x y H Q ∨ ((∃ i j, x = .str i ∧ y = .str j ∧ i.length + j.length ≤ sizeLine ∧ Q (.str (i ++ j)) H) ∨ (rCatA K x y H Q ∨ rCat x y H Q))
theorem dAdd_ok {Γ : Wd} {nw : List Dt → Sto → Out Dt} (n : IsNw nw) : OpS Γ (rAddAll Γ.K) (dAdd nw) := by
  intro ρ F s H x y dx dy Q E g rx ry k
  have gen : ∀ l, trkL s dx = some l → (∀ m, trkL s dy = some m → l.length + m.length ≤ sizeLine → EPo Γ ρ F H Q E (nw (l ++ m) s) → rCat x y H Q) := fun l hl m hm hz k => by
    obtain ⟨a, xs, e1, q1, t1, _⟩ := g.trk rx hl
    obtain ⟨b, ys, e2, q2, t2, _⟩ := g.trk ry hm
    exact ⟨a, b, xs, ys, e1, e2, q1, q2, by rw [← t1.length, ← t2.length]; exact hz, fun p hp => new_lst n g (Dens.append t1 t2) (by rw [List.length_append]; exact hz) hp k⟩
  cases dx with
  | int i =>
    cases dy with
    | int j =>
      simp only [Den] at rx ry
      exact .inl ⟨i, j, rx, ry, k ρ F H _ LE.refl g (by simp only [Den])⟩
    | _ => exact False.elim k
  | str i =>
    cases dy with
    | str j =>
      simp only [Den] at rx ry
      simp only [dAdd] at k
      split at k
      · rename_i h
        refine .inr (.inl ⟨i, j, rx.1, ry.1, by rw [sizeLine_eq]; omega, k ρ F H _ LE.refl g ?_⟩)
        simp only [Den]
        exact ⟨trivial, sok_app rx.2 ry.2 h⟩
      · exact False.elim k
    | _ => exact False.elim k
  | tup l =>
    cases dy with
    | tup m =>
      simp only [dAdd] at k
      split at k
      · rename_i h
        obtain ⟨a, xs, e1, q1, t1, z1⟩ := g.sqT rx (l := l) rfl
        obtain ⟨b, ys, e2, q2, t2, z2⟩ := g.sqT ry (l := m) rfl
        refine .inr (.inr (.inl ⟨a, b, xs, ys, e1, e2, q1, q2, by rw [← t1.length, ← t2.length]; exact h, fun hx => ?_, fun hx hy => ?_, fun hx hy p hp => ?_⟩))
        · have el : l = [] := by
            have := t1.length
            rw [hx] at this
            exact List.length_eq_zero_iff.mp (by simpa using this)
          subst el
          rw [List.nil_append] at k
          have := k ρ F H y LE.refl g ry
          rw [e2] at this
          exact this
        · have em : m = [] := by
            have := t2.length
            rw [hy] at this
            exact List.length_eq_zero_iff.mp (by simpa using this)
          subst em
          rw [List.append_nil] at k
          have := k ρ F H x LE.refl g rx
          rw [e1] at this
          exact this
        · exact new_tup g (Dens.append t1 t2) (by rw [List.length_append]; exact h) hp k
      · exact False.elim k
    | _ => exact False.elim k
  | lst l =>
    simp only [dAdd, trkL] at k
    cases e : trkL s dy with
    | none => simp only [trkL] at e; rw [e] at k; exact False.elim k
    | some m =>
      simp only [trkL] at e
      rw [e] at k
      simp only [] at k
      split at k
      · rename_i h
        exact .inr (.inr (.inr (gen l rfl m e h k)))
      · exact False.elim k
  | obj i =>
    simp only [dAdd] at k
    cases e1 : trkL s (.obj i) with
    | none => rw [e1] at k; exact False.elim k
    | some l =>
      rw [e1] at k
      simp only [] at k
      cases e : trkL s dy with
      | none => rw [e] at k; exact False.elim k
      | some m =>
        rw [e] at k
        simp only [] at k
        split at k
        · rename_i h
          exact .inr (.inr (.inr (gen l e1 m e h k)))
        · exact False.elim k
  | _ => exact False.elim k
section
variable {J : Cn} {X : Cx} {W : WX} {a b c e e2 o tgt iter elt : Expr} {es ifs : List Expr} {fa fb fc fe fo : Ex} {fs : List Ex} {ft fu : Tx} {pos p apos cpos : Pos} {st : Stmt} {rest : List Stmt} {f1 f2 : Sx}
theorem es_add {nw : List Dt → Sto → Out Dt} (n : IsNw nw) (ha : ES J X W a fa) (hb : ES J X W b fb) : ES J X W (.BinOp a .Add b pos) (eOp (dAdd nw) fa fb) :=
  es_op (OpR.or op_add (OpR.or op_add_str (OpR.or op_catA op_cat))) (dAdd_ok n) ha hb
/-! ### methods of built-ins -/
def isLst (s : Sto) (d : Dt) : Bool := (asL s d).isSome
def isStr (_ : Sto) (d : Dt) : Bool := match d with
  | .str _ => true
  | _ => false
def TyS (Γ : Wd) (T : String) (ty : Sto → Dt → Bool) : Prop := ∀ ρ F s H x d, G Γ ρ F s H → Den Γ ρ F d x → ty s d = true → tyV Γ.K T x H
theorem ty_lst {Γ : Wd} : TyS Γ "list" isLst := by
  intro ρ F s H x d g r h
  unfold isLst at h
  obtain ⟨l, e⟩ := Option.isSome_iff_exists.mp h
  obtain ⟨a, xs, e1, q, _⟩ := g.sqL r e
  subst e1
  exact .inl ⟨rfl, xs, q⟩
theorem ty_str {Γ : Wd} : TyS Γ "str" isStr := by
  intro ρ F s H x d g r h
  cases d with
  | str z => simp only [Den] at r; obtain ⟨r, _⟩ := r; subst r; exact rfl
  | _ => exact Bool.noConfusion h
def M0S (Γ : Wd) (r : V → List V → Hp → VK → Prop) (op : Dt → Sto → Out Dt) : Prop := ∀ ρ F s H x dx Q E, G Γ ρ F s H → Den Γ ρ F dx x → EPo Γ ρ F H Q E (op dx s) → r x [] H Q
def M1S (Γ : Wd) (r : V → List V → Hp → VK → Prop) (op : Dt → Dt → Sto → Out Dt) : Prop := ∀ ρ F s H x y dx dy Q E, G Γ ρ F s H → Den Γ ρ F dx x → Den Γ ρ F dy y → EPo Γ ρ F H Q E (op dx dy s) → r x [y] H Q
/-- a method of a built-in, with one argument -/
def Bm1 (J : Cn) (X : Cx) (T : String) (name : Str) (ty : Sto → Dt → Bool) (op : Dt → Dt → Sto → Out Dt) : Prop := ∃ id r, PlainAttrs T ∧ Slot T name id ∧ typeOf (.builtin id) = pure (.type "method_descriptor") ∧ MtR X id r ∧ TyS (wd J X) T ty ∧ M1S (wd J X) r op
def eBm1 (ty : Sto → Dt → Bool) (op : Dt → Dt → Sto → Out Dt) (fo fe : Ex) : Ex := fun env => bnd (fo env) fun x s => if ty s x = true then bnd (fe env) (fun y => op x y) s else .bad
theorem es_bm1 {T : String} {name : Str} {ty : Sto → Dt → Bool} {op : Dt → Dt → Sto → Out Dt} (B : Bm1 J X T name ty op) (ho : ES J X W o fo) (he : ES J X W e fe)
    (hs : starEach (e :: []) X.env = (false, eval e X.env) :: starEach [] X.env := by rfl) (hbase : attributeBase o name X.env (eval o X.env) = eval o X.env := by rfl)
    (hfew : ((backTo cpos (starEach [e] X.env)).all (fun x => !x.1) && (backToKw cpos (keywordEach [] X.env)).all (fun x => x.1.isSome)
      && decide (([e] : List Expr).length + ([] : List Keyword).length + (if ([] : List Keyword).isEmpty then 0 else 1) < 30)) = true := by rfl)
    (hline : (apos.endLine == cpos.line) = true := by rfl) : ES J X W (.Call (.Attribute o name apos) [e] [] cpos) (eBm1 ty op fo fe) := by
  obtain ⟨id, r, pa, slot, hty, hm, tyS, opS⟩ := B
  exact PE.imp (pe_bm pa slot hty hm ho (pa_cons he pa_nil hs) hbase hfew hline hs rfl) fun σ H Q ⟨env, ρ, F, s, g, l, k⟩ => ⟨env, ρ, F, s, g, l, Po.bind k fun x s1 ρ1 F1 H1 v e1 l1 g1 r1 k1 => by
    split at k1
    · rename_i ht
      exact ⟨tyS ρ1 F1 s1 H1 v x g1 r1 ht, env, ρ1, F1, s1, g1, l.mono l1, Po.bind k1 fun y s2 ρ2 F2 H2 u e2 l2 g2 r2 k2 => opS ρ2 F2 s2 H2 v u x y Q _ g2 (Den.mono l2 _ _ r1) r2 k2⟩
    · exact False.elim k1⟩
def dApp (x y : Dt) (s : Sto) : Out Dt := match lstAt s x with
  | some (i, l) => if l.length < sizeLine then .ok .non (s.set i (.lst (l ++ [y]))) else .bad
  | none => .bad
theorem m_append : Bm1 J X "list" "append" isLst dApp := ⟨_, _, PySem.F.plainAttrs_list, PySem.F.slot_list_append, PySem.F.type_list_append, mt_append, ty_lst, fun ρ F s H x y dx dy Q E g rx ry k => by
  unfold dApp at k
  split at k
  · rename_i i l hl
    split at k
    · rename_i hz
      obtain ⟨a, xs, e1, hi, q, t, _⟩ := g.lat rx hl
      refine ⟨a, xs, y, e1, rfl, q, by rw [← t.length]; exact hz, k ρ F _ _ (LE.put (List.mem_of_getElem? hi)) (g.setL hi (Dens.append t (Dens.one ry)) (by rw [List.length_append]; exact hz)) (by simp only [Den])⟩
    · exact False.elim k
  · exact False.elim k⟩
def dExt (x y : Dt) (s : Sto) : Out Dt := match lstAt s x with
  | some (i, l) => match trkL s y with
    | some m => if l.length + m.length ≤ sizeLine then .ok .non (s.set i (.lst (l ++ m))) else .bad
    | none => .bad
  | none => .bad
theorem m_extend : Bm1 J X "list" "extend" isLst dExt := ⟨_, _, PySem.F.plainAttrs_list, PySem.F.slot_list_extend, PySem.F.type_list_extend, mt_extend, ty_lst, fun ρ F s H x y dx dy Q E g rx ry k => by
  unfold dExt at k
  split at k
  · rename_i i l hl
    split at k
    · rename_i m hm
      split at k
      · rename_i hz
        obtain ⟨a, xs, e1, hi, q, t, _⟩ := g.lat rx hl
        obtain ⟨b, ys, e2, q2, t2, _⟩ := g.trk ry hm
        refine ⟨a, b, xs, ys, e1, by rw [e2], q, q2, by rw [← t.length, ← t2.length]; exact hz, k ρ F _ _ (LE.put (List.mem_of_getElem? hi)) (g.setL hi (Dens.append t t2) (by rw [List.length_append]; exact hz)) (by simp only [Den])⟩
      · exact False.elim k
    · exact False.elim k
  · exact False.elim k⟩
/-- xs.pop(k) -/
def dPopAt (x y : Dt) (s : Sto) : Out Dt := match y with
  | .int k => match lstAt s x with
    | some (i, l) => match ixN l.length k with
      | some j => match l[j]? with
        | some d => .ok d (s.set i (.lst (l.eraseIdx j)))
        | none => .bad
      | none => .bad
    | none => .bad
  | _ => .bad
theorem m_popAt : Bm1 J X "list" "pop" isLst dPopAt := ⟨_, _, PySem.F.plainAttrs_list, PySem.F.slot_list_pop, PySem.F.type_list_pop, mt_popAt, ty_lst, fun ρ F s H x y dx dy Q E g rx ry k => by
  cases dy with
  | int n =>
    simp only [Den] at ry
    simp only [dPopAt] at k
    split at k
    · rename_i i l hl
      split at k
      · rename_i j hj
        split at k
        · rename_i d hd
          obtain ⟨a, xs, e1, hi, q, t, z⟩ := g.lat rx hl
          obtain ⟨v, hv, rv⟩ := t.get hd
          obtain ⟨s1, s2, s3, s4⟩ := ixN_seq hj
          have hlen : (l.length : Int) ≤ 16777216 := by rw [sizeLine_eq] at z; omega
          refine ⟨a, xs, n, j, v, e1, by rw [ry], q, by omega, by omega, by rw [← t.length]; exact s1, hv, k ρ F _ _ (LE.put (List.mem_of_getElem? hi)) (g.setL hi (t.eraseIdx j) (Nat.le_trans (len_erase _ _) z)) rv⟩
        · exact False.elim k
      · exact False.elim k
    · exact False.elim k
  | _ => exact False.elim k⟩
/-- ints alone -/
def asI : List Dt → Option (List Int)
  | [] => some []
  | .int b :: r => (asI r).map (b :: ·)
  | _ => none
theorem asI_map : ∀ {l : List Dt} {ns : List Int}, asI l = some ns → l = ns.map Dt.int
  | [], ns, h => by simp only [asI, Option.some.injEq] at h; subst h; rfl
  | d :: l, ns, h => by
    cases d with
    | int i =>
      simp only [asI, Option.map_eq_some_iff] at h
      obtain ⟨r, e1, e2⟩ := h
      subst e2
      rw [asI_map e1]; rfl
    | _ => simp [asI] at h
theorem Dens.ints {Γ : Wd} {ρ : List Addr} {F : Hp} : ∀ {ns : List Int} {xs : List V}, Dens Γ ρ F (ns.map Dt.int) xs → xs = ns.map V.int
  | [], xs, h => by simp only [List.map_nil, Dens] at h; exact h
  | n :: ns, xs, h => by
    simp only [List.map_cons, Dens] at h
    obtain ⟨v, r, e1, q, t⟩ := h
    simp only [Den] at q
    rw [e1, q, Dens.ints t]; rfl
theorem densI {Γ : Wd} {ρ : List Addr} {F : Hp} : ∀ (ns : List Int), Dens Γ ρ F (ns.map Dt.int) (ns.map V.int)
  | [] => by simp only [List.map_nil, Dens]
  | n :: ns => by
    simp only [List.map_cons, Dens]
    exact ⟨_, _, rfl, by simp only [Den], densI ns⟩
/-- xs.remove(n), whole numbers, it is there -/
def dRem (x y : Dt) (s : Sto) : Out Dt := match y with
  | .int k => match lstAt s x with
    | some (i, l) => match asI l with
      | some ns => if k ∈ ns then .ok .non (s.set i (.lst ((ns.erase k).map .int))) else .bad
      | none => .bad
    | none => .bad
  | _ => .bad
theorem erase_ix {ns : List Int} {k : Int} (h : k ∈ ns) : ∃ j : Nat, ns[j]? = some k ∧ (∀ m : Nat, m < j → ns[m]? ≠ some k) ∧ ns.eraseIdx j = ns.erase k := by
  induction ns with
  | nil => simp at h
  | cons a r ih =>
    by_cases e : a = k
    · subst e
      exact ⟨0, rfl, fun m hm => absurd hm (Nat.not_lt_zero _), by simp⟩
    · have hr : k ∈ r := by
        rcases List.mem_cons.mp h with h | h
        · exact absurd h.symm e
        · exact h
      obtain ⟨j, h1, h2, h3⟩ := ih hr
      refine ⟨j + 1, by simpa using h1, fun m hm => ?_, ?_⟩
      · cases m with
        | zero => simpa using e
        | succ m => simpa using h2 m (by omega)
      · rw [List.eraseIdx_cons_succ, h3, List.erase_cons, if_neg (by simpa using e)]
theorem m_remove : Bm1 J X "list" "remove" isLst dRem := ⟨_, _, PySem.F.plainAttrs_list, PySem.F.slot_list_remove, PySem.F.type_list_remove, mt_remove, ty_lst, fun ρ F s H x y dx dy Q E g rx ry k => by
  cases dy with
  | int n =>
    simp only [Den] at ry
    simp only [dRem] at k
    split at k
    · rename_i i l hl
      split at k
      · rename_i ns hn
        split at k
        · rename_i hm
          obtain ⟨a, xs, e1, hi, q, t, z⟩ := g.lat rx hl
          have el := asI_map hn
          subst el
          have ex := t.ints
          subst ex
          obtain ⟨j, h1, h2, h3⟩ := erase_ix hm
          refine ⟨a, ns, n, j, e1, by rw [ry], q, h1, h2, ?_⟩
          rw [h3]
          exact k ρ F _ _ (LE.put (List.mem_of_getElem? hi)) (g.setL hi (densI _) (by
            rw [List.length_map] at z ⊢
            exact Nat.le_trans (List.length_erase_le) z)) (by simp only [Den])
        · exact False.elim k
      · exact False.elim k
    · exact False.elim k
  | _ => exact False.elim k⟩
/-! ### isinstance(x, T), T a built-in class -/
def tyN (s : Sto) : Dt → Option String
  | .non => some "NoneType"
  | .bl _ => some "bool"
  | .int _ => some "int"
  | .str _ => some "str"
  | .tup _ => some "tuple"
  | .lst _ => some "list"
  | .lsk _ => some "list"
  | .obj i => match s[i]? with
    | some (.lst _) => some "list"
    | some (.dic _) => some "dict"
    | some (.dit _) => some "dict"
    | _ => none
  | .exc _ => none
theorem G.ty {Γ : Wd} {ρ : List Addr} {F H : Hp} {s : Sto} (g : G Γ ρ F s H) {d : Dt} {v : V} {T : String} (r : Den Γ ρ F d v) (h : tyN s d = some T) : TyX Γ.K H v (.type T) := by
  cases d with
  | non => simp only [Den] at r; simp only [tyN, Option.some.injEq] at h; subst r; subst h; exact .base .non
  | bl b => simp only [Den] at r; simp only [tyN, Option.some.injEq] at h; subst r; subst h; exact .base (.bl b)
  | int i => simp only [Den] at r; simp only [tyN, Option.some.injEq] at h; subst r; subst h; exact .base (.int i)
  | str x => simp only [Den] at r; simp only [tyN, Option.some.injEq] at h; obtain ⟨r, _⟩ := r; subst r; subst h; exact .base (.str x)
  | tup l =>
    simp only [Den] at r; simp only [tyN, Option.some.injEq] at h
    obtain ⟨z, a, xs, e, q, t⟩ := r
    subst e; subst h
    rcases sqT_sub g.sub q with (q | ⟨o, q⟩) | ⟨o, its, n, hk, hc, _⟩
    · exact .base (.tup q)
    · exact .fTuple q
    · exact .kTuple hk hc
  | lst l =>
    simp only [Den] at r; simp only [tyN, Option.some.injEq] at h
    obtain ⟨z, a, xs, e, q, t⟩ := r
    subst e; subst h
    exact .base (.lst (g.sub _ _ q))
  | lsk l =>
    simp only [Den] at r; simp only [tyN, Option.some.injEq] at h
    obtain ⟨z, a, xs, e, q, t⟩ := r
    subst e; subst h
    rcases sqL_sub g.sub q with (q | ⟨o, q⟩) | ⟨o, its, n, hk, hc, _⟩
    · exact .base (.lst q)
    · exact .base (.frz q)
    · exact .kList hk hc
  | obj i =>
    simp only [Den] at r
    obtain ⟨a, e, q⟩ := r
    subst e
    simp only [tyN] at h
    split at h
    · rename_i l hs
      cases h
      obtain ⟨z, xs, hx, t⟩ := g.at_ i a _ q hs
      exact .base (.lst hx)
    · rename_i l hs
      cases h
      obtain ⟨z, xs, hx, t⟩ := g.at_ i a _ q hs
      exact .base (.dK hx)
    · rename_i l hs
      cases h
      obtain ⟨z, xs, hx, t⟩ := g.at_ i a _ q hs
      exact .base (.dT hx)
    · cases h
  | exc c => simp [tyN] at h
def dIsi (T : String) (d : Dt) (s : Sto) : Out Dt := ofO s ((tyN s d).map fun t => .bl (t == T || (t == "bool" && T == "int")))
/-- of these classes it is known whose heirs they are -/
def kitAll (T : String) : Bool := ["NoneType", "bool", "int", "str", "tuple", "list", "dict"].all fun t => kitB t T == some (t == T || (t == "bool" && T == "int"))
theorem tyN_in {s : Sto} {d : Dt} {t : String} (h : tyN s d = some t) : t ∈ ["NoneType", "bool", "int", "str", "tuple", "list", "dict"] := by
  cases d with
  | obj i =>
    simp only [tyN] at h
    split at h <;> first | (cases h; decide) | cases h
  | exc c => simp [tyN] at h
  | _ => simp only [tyN, Option.some.injEq] at h; subst h; decide
theorem es_isi {T : Str} {n : String} {p2 : Pos} (hk : kitAll n = true) (hg : Gl X "isinstance") (hm : X.mg "isinstance" = none) (hgT : Gl X T) (hmT : X.mg T = none) (hv : bootBuiltins T = some (.type n)) (ha : ES J X W e fe)
    (hn : T ≠ "__name__" := by decide) (hd : (T == ("__debug__" : Str)) = false := by decide)
    (he : starEach [e, .Name T p2] X.env = [(false, eval e X.env), (false, eval (.Name T p2) X.env)] := by rfl) : ES J X W (.Call (.Name "isinstance" p) [e, .Name T p2] [] pos) (eUn (dIsi n) fe) :=
  PE.imp (pe_callB call_isi hg hm (by decide +kernel) (pa_cons ha (pa_cons (pe_bltn (v := .ty n) hgT hmT hv rfl hn hd) pa_nil rfl) (by exact he)) (by decide) (by decide) (by exact he) rfl) fun σ H Q ⟨env, ρ, F, s, g, l, k⟩ => ⟨env, ρ, F, s, g, l, Po.bind k fun x s1 ρ1 F1 H1 v e1 l1 g1 r1 k1 => by
    obtain ⟨d, e3, k1⟩ := Po.ofO k1
    obtain ⟨t, e4, e5⟩ := Option.map_eq_some_iff.mp e3
    subst e5
    have hq := (List.all_eq_true.mp hk) t (tyN_in e4)
    refine ⟨v, .ty n, .type t, .type n, _, rfl, .ty n, g1.ty r1 e4, kit_ty (by simpa using hq), k1 ρ1 F1 H1 _ LE.refl g1 (by simp only [Den])⟩⟩
/-! ### raise X('..') -/
def sRaise (c : Nat) : Sx := fun env s => .exc c env s
theorem ss_raise {z : Bool} {c : Nat} {x m : Str} {C : Addr} {bmB : List Value} {B newId initId : String} {j : Nat} {p p2 pos pos' : Pos} (hJ : (J c).1 = x) (hc : X.calm = true) (tk : Tks z X W) (Fx : ExcBaseFacts B newId initId bmB) (q : PySem.W.excIn X.K C bmB newId = true) (gC : X.mg x = some (.ref C)) (kC : PySem.W.keepIn X.K (.ref C) = true) (r : Raises X (.ref C)) (hg : Gl X x)
    (hdb : (x == ("__debug__" : Str)) = false := by decide) : SS J X W (.Raise (some (.Call (.Name x p) [.Constant (.str m) j p2] [] pos)) none pos') (sRaise c) := by
  have k : ∀ D σ H, tS (wd J X) W (sRaise c) D σ H → W (.ref C) none σ H := fun D σ H ⟨env, ρ, F, s, g, l, k⟩ => k ρ F H σ C LE.refl g l (by show X.mg (J c).1 = _; rw [hJ]; exact gC)
  match z, tk with
  | true, tk => exact PS.imp (L2N.ps_raise hc tk (L2N.pmk_own Fx q gC kC r hg hdb)) k
  | false, tk => exact PS.imp (L2.ps_raise hc tk (L2.pmk_own Fx q gC kC r hg hdb)) k
end
end Pd
namespace Pd
open PySem L2
/-! ### a caught error that is kept -/
theorem exH_ok {P : Program} {w : World} {H : Hp} {h : Heap} {C a : Addr} {oe : Obj} {vs : Array Value} (e : h.get? a = some oe) (z : Zc (.ref C) none oe) (d : oe.data = .fields vs) : ObjOk P w H h a (ExH C a) :=
  ⟨⟨oe, vs, e, z, d⟩, ⟨oe, e⟩, fun _ _ ⟨o, v, q, r⟩ k => ⟨o, v, k o q, r⟩⟩
/-- an object of the body's own time comes to be tracked -/
theorem Inv.track {X : Cx} {pins : List (Addr × Obj)} {σ : St} {H : Hp} {s : Shared} {C a : Addr} {oe : Obj} {vs : Array Value} (I : Inv X pins σ H s) (he : s.heap.get? a = some oe) (hz : Zc (.ref C) none oe) (hd : oe.data = .fields vs) (na : H a = none)
    (n0 : X.s_0.heap.get? a = none) (nL : a ≠ X.env.locals) (np : ∀ p ∈ X.pn ++ pins, p.1 ≠ a) : Inv X pins σ (upd H a (ExH C a)) s where
  ok := I.ok
  os := I.os
  bare := I.bare
  base :=
    { keep := I.base.keep
      slot := I.base.slot
      free := fun b o q n x => by rw [upd_ne (fun z => by rw [z, n0] at q; cases q)]; exact I.base.free b o q n x
      there := I.base.there
      tups := fun b xs q => by have z := I.base.tups b xs q; rw [upd_ne (ne_of_none z na)]; exact z
      frzs := fun b o u q => by have z := I.base.frzs b o u q; rw [upd_ne (ne_of_none z na)]; exact z
      tbls := fun b ps q => by obtain ⟨m, z⟩ := I.base.tbls b ps q; exact ⟨m, by rw [upd_ne (ne_of_none z na)]; exact z⟩ }
  loc := I.loc
  cell := I.cell
  free := by rw [upd_ne (Ne.symm nL)]; exact I.free
  freeC := fun x c h => by
    obtain ⟨v, o, q1, q2⟩ := I.cell x c h
    rw [upd_ne (fun z => by
      rw [z, he] at q1
      cases q1
      rw [hd] at q2
      cases q2)]
    exact I.freeC x c h
  pin := fun p h => by
    obtain ⟨h1, h2, h3⟩ := I.pin p h
    exact ⟨h1, by rw [upd_ne (np p h)]; exact h2, h3⟩
  hok := fun b o q => by
    by_cases e : b = a
    · subst e
      rw [upd_same] at q
      cases q
      exact exH_ok he hz hd
    · rw [upd_ne e] at q
      exact (I.hok b o q).stay (fun _ _ _ z => z) (fun c z => by rw [upd_ne (ne_of_none z na)]; exact z) fun c xs z => by rw [upd_ne (ne_of_none z na)]; exact z
  len := I.len
/-- what is wanted of an error that a clause takes and whose object stays behind -/
def wKept (K : PySem.W.Frag) (c : Value) (i : Nat) (ts : Addr → Value → Option Addr → TS) (D : Ends) : WX := fun cls d σ H =>
  PySem.W.exmOne K cls c = some true ∧ ∃ C, cls = .ref C ∧ d = none ∧ ∀ a, H a = none → ts a cls d { nx := fun σ' H' => H' a = none → D.nx (σ'.set i none) (upd H' a (ExH C a)), rt := fun _ _ => False, bk := fun _ _ => False, ct := fun _ _ => False } (σ.set i (some (.ref a))) H
section
variable {X : Cx} {x n : Str} {c : Value} {i : Nat} {body suite : List Stmt} {b0 : Stmt} {np pos pos' : Pos} {tb : WX → TS} {ts : Addr → Value → Option Addr → TS}
/-- from the catch on -/
theorem catch_kept (hs : X.stack = X.env :: X.outer) (hf : X.env.frame = some X.env.locals) (hN : X.N.Nodup) (hi : X.N[i]? = some n) (hln : X.env.kindOf n = some .local) (hc : Names X x c) (hex : X.ex = [])
    (hsu : ∀ (a : Addr) (oe : Obj) (cls : Value) (d : Option Addr) (pn : List (Addr × Obj)), Zc cls d oe → (∃ vs, oe.data = .fields vs) → PSs (X.suite a ((a, oe) :: pn)) (b0 :: suite) (ts a cls d))
    {pins : List (Addr × Obj)} {D : Ends} {u : Value} {s' : Shared} {xe : Value → Shared → Prop} (ok : X.Ok) (q : L2.XE (X.tr (X.pn ++ pins) xe) (wKept X.K c i ts D) u s') :
    wpAny (model X.prog X.w) X.A (noteFrame u X.env) (fun _ s2 => wpAny (model X.prog X.w) X.A (setFlight u none) (fun _ s3 =>
      wpAny (model X.prog X.w) X.A (handleBy u X.env [.ExceptHandler (some (.Name x np)) (some n) (b0 :: suite) pos']) (SP X pins D) X.xe s3) X.xe s2) X.xe s' := by
  obtain ⟨a, B, sI, pins', σ1, H1, cls, d, eu, I', nb, up, sky, na, os, ag, hm, C, ec, ed, hts⟩ := q
  subst eu; subst ec; subst ed
  have I1 : Inv X pins σ1 H1 sI := I'.ofTry ok
  have hfr : X.A.frames = some (X.env :: X.outer) := by rw [ok.frames, hs]
  rw [show (X.tr (X.pn ++ pins) xe).stack = X.env :: X.outer from hs] at sky
  refine Sky.land Zc.steady hfr hf sky fun h3 fl3 up3 => ?_
  have I3 : Inv X pins σ1 H1 { s' with heap := h3 } := I1.landed nb fl3.1 (up.trans up3) os ag
  obtain ⟨oe3, vs3, he3, hz3, hd3⟩ := fl3.there
  have nfr : a ∉ frs (X.env :: X.outer) := fun z => by
    obtain ⟨_, o, e1, e2⟩ := (fl3.2.2.1).mem z
    rw [he3] at e1
    cases e1
    exact e2 _ hd3
  have nL : a ≠ X.env.locals := fun z => nfr (List.mem_filterMap.mpr ⟨X.env, List.mem_cons_self, by rw [hf, z]⟩)
  have nF : a ∉ X.fs := fun z => by
    obtain ⟨e, h1, h2⟩ := List.mem_filterMap.mp z
    exact nfr (List.mem_filterMap.mpr ⟨e, List.mem_cons_of_mem _ h1, h2⟩)
  have nB : B.get? a = none := fl3.2.1
  have nst : a ∉ frs X.stack := by rw [hs]; exact nfr
  -- it was made behind the entry, and is none of the pins
  have n0 : X.s_0.heap.get? a = none := by
    cases e : X.s_0.heap.get? a with
    | none => rfl
    | some o =>
      obtain ⟨o', e'⟩ := I1.base.there a o e (by rw [hex]; exact List.not_mem_nil)
      rw [nb a o' e' nst] at nB
      cases nB
  have npin : ∀ p ∈ X.pn ++ pins, p.1 ≠ a := fun p hp z => by
    obtain ⟨e1, _, e2, e3, _⟩ := I1.pin p hp
    rw [z] at e1
    have := nb a p.2 e1 nst
    rw [nB] at this
    cases this
  have S3 := I3.suite he3 hd3 na nL nF
  refine wpAny_handleBy_cons (codeAny_handlers_test ?_) (by intro q; cases q)
  have looks : PySem.W.Looks (model X.prog X.w) h3 (typeOf (.ref a)) (.ref C) := fun A Q E s k q => wpAny_typeOf_ref (k _ _ he3) (by rw [hz3.1]; exact q)
  have hit := PySem.W.exm_one (M := model X.prog X.w) I3.kIn looks hm
  have cond : ∀ {Q : Value → Shared → Prop} {E : Value → Shared → Prop}, Q c { s' with heap := h3 } → wpAny (model X.prog X.w) (X.A.mark (some (.ref a))) (eval (.Name x np) X.env) Q E { s' with heap := h3 } := fun {Q E} q => by
    obtain ⟨g1, g2, g3⟩ := hc
    rcases g3 with g3 | ⟨g3, g4, g5⟩
    · exact ld_glob (X := X.suite a ((a, oe3) :: (X.pn ++ pins))) S3 g1 g3 q g2
    · exact ld_blt (X := X.suite a ((a, oe3) :: (X.pn ++ pins))) S3 g1 g3 g4 q g5 g2
  refine cond (hit.here (codeAny_handlers_suite_as (HandSPX.lands_againZ fl3 fun h4 fl4 up4 => ?_)))
  have I4 : Inv X pins σ1 H1 { s' with heap := h4 } := I1.landed nb fl4.1 ((up.trans up3).trans up4) os ag
  obtain ⟨oe4, vs4, he4, hz4, hd4⟩ := fl4.there
  have S4 := I4.suite he4 hd4 na nL nF
  refine store_ok (X := X.suite a ((a, oe4) :: (X.pn ++ pins))) (v := .ref a) S4 hN hi (.inl hln) rfl (fun s5 S5 => ?_) (.inr hln)
  refine wpAny_mono ((hsu a oe4 (.ref C) none (X.pn ++ pins) hz4 ⟨_, hd4⟩).run [] s5 _ H1 _ S5 (hts a na)) (fun f s6 r => ?_) (fun _ _ z => False.elim z)
  cases f with
  | next =>
    obtain ⟨σ6, H6, S6, q6⟩ := r
    obtain ⟨p1, p2, _⟩ := S6.pin (a, oe4) (List.mem_append_left _ List.mem_cons_self)
    have I6 : Inv X pins σ6 H6 s6 := S6.unsuite ok
    exact gone_ok (Inv.track I6 p1 hz4 hd4 p2 n0 nL npin) hN hi hln fun s7 I7 => ⟨_, _, I7, q6 p2⟩
  | brk => obtain ⟨_, _, _, z⟩ := r; exact False.elim z
  | cont => obtain ⟨_, _, _, z⟩ := r; exact False.elim z
  | ret v => obtain ⟨_, _, _, _, _, z⟩ := r; exact False.elim z
theorem ps_try_kept (hs : X.stack = X.env :: X.outer) (hf : X.env.frame = some X.env.locals) (hN : X.N.Nodup) (hi : X.N[i]? = some n) (hln : X.env.kindOf n = some .local) (hc : Names X x c) (hex : X.ex = [])
    (hb : ∀ (W : WX) (pn : List (Addr × Obj)) (xe : Value → Shared → Prop), Takes (X.tr pn xe) W → PassesOwn (model X.prog X.w) X.A X.env xe → PSs (X.tr pn xe) body (tb W))
    (hsu : ∀ (a : Addr) (oe : Obj) (cls : Value) (d : Option Addr) (pn : List (Addr × Obj)), Zc cls d oe → (∃ vs, oe.data = .fields vs) → PSs (X.suite a ((a, oe) :: pn)) (b0 :: suite) (ts a cls d)) :
    PS X (.Try body [.ExceptHandler (some (.Name x np)) (some n) (b0 :: suite) pos'] [] [] pos) (fun D σ H => tb (wKept X.K c i ts D) D σ H) := by
  refine ⟨fun pins s σ H D I h => wpAny_Try_except ?_⟩
  have ok := I.ok
  refine wpAny_mono ((hb _ (X.pn ++ pins) _ (fun u s' q => ?_) PassesOwn.looking).run [] s σ H D (I.toTry _) h) (fun f s1 r => ?_) (fun e s1 he => he)
  · exact catch_kept hs hf hN hi hln hc hex hsu ok q
  · cases f with
    | next => obtain ⟨σ1, H1, J1, q⟩ := r; exact wpAny_execs_nil ⟨σ1, H1, J1.ofTry ok, q⟩
    | brk => obtain ⟨σ1, H1, J1, q⟩ := r; exact ⟨σ1, H1, J1.ofTry ok, q⟩
    | cont => obtain ⟨σ1, H1, J1, q⟩ := r; exact ⟨σ1, H1, J1.ofTry ok, q⟩
    | ret v => obtain ⟨v1, σ1, H1, J1, rv, q⟩ := r; exact ⟨v1, σ1, H1, J1.ofTry ok, rv, q⟩
end
end Pd
namespace Pd
open PySem L2
/-! ### texts as lists of codes -/
abbrev mkS (l : List Nat) : Str := ⟨l.toArray⟩
def splC (c : Nat) : List Nat → List (List Nat)
  | [] => [[]]
  | x :: r => if x = c then [] :: splC c r else match splC c r with
    | [] => [[x]]
    | h :: t => (x :: h) :: t
theorem splC_ne (c : Nat) : ∀ l, splC c l ≠ []
  | [] => by simp [splC]
  | x :: r => by
    unfold splC
    split
    · simp
    · split <;> simp
theorem splC_hit {c : Nat} (r : List Nat) : splC c (c :: r) = [] :: splC c r := by
  rw [splC, if_pos rfl]
theorem splC_miss {c x : Nat} (r : List Nat) (h : x ≠ c) : ∃ p t, splC c r = p :: t ∧ splC c (x :: r) = (x :: p) :: t := by
  rw [splC, if_neg h]
  cases e : splC c r with
  | nil => exact absurd e (splC_ne c r)
  | cons p t => exact ⟨p, t, rfl, rfl⟩
theorem spl_splC (c : Nat) : ∀ (l acc p : List Nat) (t : List (List Nat)), splC c l = p :: t → TL.spl [c] 0 acc l = (acc ++ p) :: t
  | [], acc, p, t, h => by
    simp only [splC, List.cons.injEq] at h
    obtain ⟨h1, h2⟩ := h
    subst h1; subst h2
    rw [TL.spl_nil, List.append_nil]
  | x :: r, acc, p, t, h => by
    by_cases hx : x = c
    · subst hx
      rw [splC_hit, List.cons.injEq] at h
      obtain ⟨h1, h2⟩ := h
      subst h1
      rw [TL.spl_hit (by simp [TL.pre]), List.append_nil]
      cases e : splC x r with
      | nil => exact absurd e (splC_ne x r)
      | cons q u =>
        have ih := spl_splC x r [] q u e
        rw [List.nil_append] at ih
        rw [← h2, e]
        exact congrArg _ ih
    · obtain ⟨q, u, e1, e2⟩ := splC_miss r hx
      rw [e2, List.cons.injEq] at h
      obtain ⟨h1, h2⟩ := h
      subst h1; subst h2
      rw [TL.spl_miss (by simp [TL.pre, hx]), spl_splC c r (acc ++ [x]) q u e1, List.append_assoc]
      rfl
theorem spl_eq (c : Nat) (l : List Nat) : TL.spl [c] 0 [] l = splC c l := by
  cases e : splC c l with
  | nil => exact absurd e (splC_ne c l)
  | cons p t => rw [spl_splC c l [] p t e, List.nil_append]
theorem split_C {a b : Str} {c : Nat} (h : b.cps.toList = [c]) (hc : c < 256) : Txt.split a b = (splC c a.cps.toList).map mkS := by
  have e := TL.split_spl a b (by rw [show TL.tl b = [c] from h]; simp) (TL.kind_ok (by rw [← Array.all_toList, h]; simpa using hc))
  rw [show TL.tl b = [c] from h, spl_eq] at e
  apply TL.map_tl_inj
  rw [e, List.map_map]
  have : (TL.tl ∘ mkS) = id := by funext l; rfl
  rw [this, List.map_id]
theorem splC_len (c : Nat) : ∀ l, (splC c l).length ≤ l.length + 1
  | [] => by simp [splC]
  | x :: r => by
    have ih := splC_len c r
    by_cases hx : x = c
    · subst hx; rw [splC_hit]; simp; omega
    · obtain ⟨q, u, e1, e2⟩ := splC_miss r hx
      rw [e2]; rw [e1] at ih; simp at ih ⊢; omega
theorem splC_mem (c : Nat) : ∀ (l : List Nat), ∀ p ∈ splC c l, (∀ d ∈ p, d ∈ l) ∧ p.length ≤ l.length
  | [], p, h => by simp [splC] at h; subst h; simp
  | x :: r, p, h => by
    have ih := splC_mem c r
    by_cases hx : x = c
    · subst hx
      rw [splC_hit] at h
      rcases List.mem_cons.mp h with h | h
      · subst h; simp
      · obtain ⟨h1, h2⟩ := ih p h
        exact ⟨fun d hd => List.mem_cons_of_mem _ (h1 d hd), by simp; omega⟩
    · obtain ⟨q, u, e1, e2⟩ := splC_miss r hx
      rw [e2] at h
      rw [e1] at ih
      rcases List.mem_cons.mp h with h | h
      · subst h
        obtain ⟨h1, h2⟩ := ih q List.mem_cons_self
        refine ⟨fun d hd => ?_, by simp; omega⟩
        rcases List.mem_cons.mp hd with hd | hd
        · rw [hd]; exact List.mem_cons_self
        · exact List.mem_cons_of_mem _ (h1 d hd)
      · obtain ⟨h1, h2⟩ := ih p (List.mem_cons_of_mem _ h)
        exact ⟨fun d hd => List.mem_cons_of_mem _ (h1 d hd), by simp; omega⟩
theorem splC_free (c : Nat) : ∀ (l : List Nat), ∀ p ∈ splC c l, c ∉ p
  | [], p, h => by simp [splC] at h; subst h; simp
  | x :: r, p, h => by
    have ih := splC_free c r
    by_cases hx : x = c
    · subst hx
      rw [splC_hit] at h
      rcases List.mem_cons.mp h with h | h
      · subst h; simp
      · exact ih p h
    · obtain ⟨q, u, e1, e2⟩ := splC_miss r hx
      rw [e2] at h
      rw [e1] at ih
      rcases List.mem_cons.mp h with h | h
      · subst h
        intro hm
        rcases List.mem_cons.mp hm with hm | hm
        · exact hx hm.symm
        · exact ih q List.mem_cons_self hm
      · exact ih p (List.mem_cons_of_mem _ h)
theorem splC_join (c : Nat) {ps : List (List Nat)} (h : ps ≠ []) (hf : ∀ p ∈ ps, c ∉ p) : splC c (TL.joinL [c] ps) = ps := by rw [← spl_eq]; exact TL.spl_join h hf
theorem len_codes (x : Str) : x.length = x.cps.toList.length := TL.len_tl x
theorem sok_codes {l : List Nat} (h1 : ∀ c ∈ l, c < 0x110000) (h2 : l.length ≤ 1000000) : sok (mkS l) = true := sok_of h1 (by rw [len_codes]; exact h2)
theorem Dens.strs {Γ : Wd} {ρ : List Addr} {F : Hp} : ∀ {ys : List Str}, (∀ y ∈ ys, sok y = true) → Dens Γ ρ F (ys.map Dt.str) (ys.map V.str)
  | [], _ => by simp only [List.map_nil, Dens]
  | y :: ys, h => by
    simp only [List.map_cons, Dens]
    exact ⟨_, _, rfl, by simp only [Den]; exact ⟨trivial, h y List.mem_cons_self⟩, Dens.strs fun z hz => h z (List.mem_cons_of_mem _ hz)⟩
section
variable {J : Cn} {X : Cx} {W : WX} {a b c e e2 o tgt iter elt : Expr} {es ifs : List Expr} {fa fb fc fe fo fi fv : Ex} {fs : List Ex} {ft fu : Tx} {pos p apos cpos tpos : Pos} {st : Stmt} {rest : List Stmt} {f1 f2 : Sx}
/-- x.split(c), c one sign -/
def dSplit (nw : List Dt → Sto → Out Dt) (x y : Dt) (s : Sto) : Out Dt := match x with
  | .str a => match y with
    | .str b => match b.cps.toList with
      | [c] => if c < 256 then nw ((splC c a.cps.toList).map fun l => .str (mkS l)) s else .bad
      | _ => .bad
    | _ => .bad
  | _ => .bad
theorem m_split {nw : List Dt → Sto → Out Dt} (n : IsNw nw) : Bm1 J X "str" "split" isStr (dSplit nw) := ⟨_, _, PySem.F.plainAttrs_str, PySem.F.slot_str_split, PySem.F.type_str_split, mt_split, ty_str, fun ρ F s H x y dx dy Q E g rx ry k => by
  cases dx with
  | str a =>
    cases dy with
    | str b =>
      simp only [Den] at rx ry
      simp only [dSplit] at k
      split at k
      · rename_i c hc
        split at k
        · rename_i h256
          have hl := sok_le rx.2
          have hla : a.cps.toList.length ≤ 1000000 := by rw [← len_codes]; exact hl
          refine ⟨a, b, rx.1, by rw [ry.1], ?_, by rw [sizeLine_eq]; omega, fun p hp => ?_⟩
          · rw [len_codes, hc]; rfl
          · rw [split_C hc h256]
            have t : Dens (wd J X) ρ F (((splC c a.cps.toList).map mkS).map Dt.str) (((splC c a.cps.toList).map mkS).map V.str) := Dens.strs fun y hy => by
              obtain ⟨l, h1, h2⟩ := List.mem_map.mp hy
              obtain ⟨h3, h4⟩ := splC_mem c _ l h1
              rw [← h2]
              exact sok_codes (fun d hd => sok_mem rx.2 (h3 d hd)) (Nat.le_trans h4 hla)
            have hz : (((splC c a.cps.toList).map mkS).map Dt.str).length ≤ sizeLine := by
              have := splC_len c a.cps.toList
              rw [List.length_map, List.length_map, sizeLine_eq]; omega
            refine new_lst (E := E) n g t hz hp ?_
            rw [List.map_map]
            exact k
        · exact False.elim k
      · exact False.elim k
    | _ => exact False.elim k
  | _ => exact False.elim k⟩
/-- texts alone -/
def asS : List Dt → Option (List Str)
  | [] => some []
  | .str b :: r => (asS r).map (b :: ·)
  | _ => none
theorem asS_map : ∀ (ys : List Str), asS (ys.map Dt.str) = some ys
  | [] => rfl
  | y :: ys => by simp only [List.map_cons, asS, asS_map ys, Option.map_some]
theorem Dens.texts {Γ : Wd} {ρ : List Addr} {F : Hp} : ∀ {l : List Dt} {xs : List V} {ys : List Str}, Dens Γ ρ F l xs → asS l = some ys → xs = ys.map V.str ∧ ∀ y ∈ ys, sok y = true
  | [], xs, ys, h, e => by simp only [Dens] at h; simp only [asS, Option.some.injEq] at e; subst e; exact ⟨h, fun _ h => nomatch h⟩
  | d :: l, xs, ys, h, e => by
    simp only [Dens] at h
    obtain ⟨v, r, e1, q, t⟩ := h
    cases d with
    | str b =>
      simp only [asS, Option.map_eq_some_iff] at e
      obtain ⟨ys', e2, e3⟩ := e
      simp only [Den] at q
      obtain ⟨h1, h2⟩ := Dens.texts t e2
      subst e3; subst e1
      rw [q.1, h1]
      refine ⟨rfl, fun y hy => ?_⟩
      rcases List.mem_cons.mp hy with hy | hy
      · rw [hy]; exact q.2
      · exact h2 y hy
    | _ => simp [asS] at e
/-- sep.join(..) -/
def dJoin (x y : Dt) (s : Sto) : Out Dt := match x with
  | .str a => match (asQ s y).bind asS with
    | some ys => if (ys.map (·.length)).sum + ys.length * a.length ≤ 1000000 then .ok (.str (mkS (TL.joinL a.cps.toList (ys.map (·.cps.toList))))) s else .bad
    | none => .bad
  | _ => .bad
theorem joinL_mem {S : List Nat} : ∀ {ps : List (List Nat)} {c : Nat}, c ∈ TL.joinL S ps → c ∈ S ∨ ∃ p ∈ ps, c ∈ p
  | [], c, h => by simp [TL.joinL] at h
  | [p], c, h => .inr ⟨p, List.mem_cons_self, h⟩
  | p :: q :: r, c, h => by
    simp only [TL.joinL, List.mem_append] at h
    rcases h with h | h | h
    · exact .inr ⟨p, List.mem_cons_self, h⟩
    · exact .inl h
    · rcases joinL_mem h with h | ⟨z, h1, h2⟩
      · exact .inl h
      · exact .inr ⟨z, List.mem_cons_of_mem _ h1, h2⟩
theorem joinL_len {S : List Nat} : ∀ (ps : List (List Nat)), (TL.joinL S ps).length ≤ (ps.map (·.length)).sum + ps.length * S.length
  | [] => by simp [TL.joinL]
  | [p] => by simp [TL.joinL]
  | p :: q :: r => by
    have ih := joinL_len (S := S) (q :: r)
    simp only [TL.joinL, List.length_append, List.map_cons, List.sum_cons, List.length_cons] at ih ⊢
    rw [Nat.succ_mul (r.length + 1)]
    omega
theorem m_join : Bm1 J X "str" "join" isStr dJoin := ⟨_, _, PySem.F.plainAttrs_str, PySem.F.slot_str_join, PySem.F.type_str_join, mt_join, ty_str, fun ρ F s H x y dx dy Q E g rx ry k => by
  cases dx with
  | str a =>
    simp only [Den] at rx
    simp only [dJoin] at k
    split at k
    · rename_i ys hys
      split at k
      · rename_i hz
        obtain ⟨l, e1, e2⟩ := Option.bind_eq_some_iff.mp hys
        obtain ⟨ad, xs, e3, q, t, _⟩ := g.sqQ ry e1
        obtain ⟨e4, hs⟩ := t.texts e2
        subst e4
        have ej : Txt.join a ys = mkS (TL.joinL a.cps.toList (ys.map (·.cps.toList))) := by
          apply TL.ext_tl
          rw [TL.join_eq, TL.tl_join]
        refine ⟨a, ad, ys, rx.1, by rw [e3], q, by omega, ?_⟩
        rw [ej]
        refine k ρ F H _ LE.refl g ?_
        simp only [Den]
        refine ⟨trivial, sok_codes (fun c hc => ?_) ?_⟩
        · rcases joinL_mem hc with h | ⟨p, h1, h2⟩
          · exact sok_mem rx.2 h
          · obtain ⟨z, h3, h4⟩ := List.mem_map.mp h1
            rw [← h4] at h2
            exact sok_mem (hs z h3) h2
        · have h1 := joinL_len (S := a.cps.toList) (ys.map (·.cps.toList))
          rw [List.map_map, List.length_map, ← len_codes] at h1
          have h2 : (ys.map ((fun x => x.length) ∘ fun x : Str => x.cps.toList)) = ys.map (·.length) := List.map_congr_left fun z _ => (len_codes z).symm
          rw [h2] at h1
          omega
      · exact False.elim k
    · exact False.elim k
  | _ => exact False.elim k⟩
/-- x.startswith(y) -/
def dStarts (x y : Dt) (s : Sto) : Out Dt := match x with
  | .str a => match y with
    | .str b => .ok (.bl (TL.pre b.cps.toList a.cps.toList)) s
    | _ => .bad
  | _ => .bad
theorem starts_pre (a b : Str) : Txt.startswith a b = TL.pre b.cps.toList a.cps.toList := by
  unfold Txt.startswith
  rw [StrLaws.subAt_eq, List.drop_zero]
  have e : (a.cps.toList.take b.length == b.cps.toList) = TL.pre b.cps.toList a.cps.toList := by unfold TL.pre; rw [len_codes]
  rw [e]
  cases h : TL.pre b.cps.toList a.cps.toList with
  | false => rw [Bool.and_false]
  | true =>
    have h1 := eq_of_beq h
    have h2 := congrArg List.length h1
    rw [List.length_take] at h2
    rw [Bool.and_true]
    refine decide_eq_true ?_
    rw [len_codes, len_codes]
    omega
theorem m_starts : Bm1 J X "str" "startswith" isStr dStarts := ⟨_, _, PySem.F.plainAttrs_str, PySem.F.slot_str_startswith, PySem.F.type_str_startswith, mt_startswith, ty_str, fun ρ F s H x y dx dy Q E g rx ry k => by
  cases dx with
  | str a =>
    cases dy with
    | str b =>
      simp only [Den] at rx ry
      refine ⟨a, b, rx.1, by rw [ry.1], ?_⟩
      rw [starts_pre]
      exact k ρ F H _ LE.refl g (by simp only [Den])
    | _ => exact False.elim k
  | _ => exact False.elim k⟩
/-- xs.index(y), flat things, it is there -/
def dIndex (x y : Dt) (s : Sto) : Out Dt := match asL s x with
  | some l => if flatD y && l.all flatD then ofO s ((l.findIdx? fun e => feq e y).map fun (j : Nat) => .int j) else .bad
  | none => .bad
theorem m_index : Bm1 J X "list" "index" isLst dIndex := ⟨_, _, PySem.F.plainAttrs_list, PySem.F.slot_list_index, PySem.F.type_list_index, mt_index, ty_lst, fun ρ F s H x y dx dy Q E g rx ry k => by
  unfold dIndex at k
  split at k
  · rename_i l hl
    split at k
    · rename_i hf
      simp only [Bool.and_eq_true] at hf
      obtain ⟨d, e, k⟩ := Po.ofO k
      obtain ⟨j, e1, e2⟩ := Option.map_eq_some_iff.mp e
      subst e2
      obtain ⟨ad, xs, e3, q, t, _⟩ := g.sqL rx hl
      have e4 := t.flat hf.2
      have e5 := ry.flat hf.1
      obtain ⟨hj, h1, h2⟩ := List.findIdx?_eq_some_iff_getElem.mp e1
      have fl : ∀ (m : Nat) (hm : m < l.length), flatD l[m] = true := fun m hm => List.all_eq_true.mp hf.2 _ (List.getElem_mem hm)
      subst e4; subst e5
      refine ⟨ad, _, _, j, toVd l[j], e3, rfl, q, flatV_toVd _, all_flat_map _, by rw [List.getElem?_map, List.getElem?_eq_getElem hj]; rfl, by rw [eqV_toVd (fl j hj) hf.1]; exact h1, fun m z' hm hz => ?_, k ρ F H _ LE.refl g (by simp only [Den])⟩
      have hml : m < l.length := by omega
      rw [List.getElem?_map, List.getElem?_eq_getElem hml] at hz
      have hz2 : toVd l[m] = z' := Option.some.inj hz
      rw [← hz2, eqV_toVd (fl m hml) hf.1]
      simpa using h2 m hm
    · exact False.elim k
  · exact False.elim k⟩
/-! ### o[i] = v -/
def putAt (x y v : Dt) (s : Sto) : Option Sto := match y with
  | .int k => match lstAt s x with
    | some (i, l) => (ixN l.length k).map fun j => s.set i (.lst (l.set j v))
    | none => none
  | _ => none
def sSetI (fo fi fv : Ex) : Sx := fun env => sBnd (fv env) env fun v => sBnd (fo env) env fun x => sBnd (fi env) env fun y s => match putAt x y v s with
  | some s' => .fl (.nx env) s'
  | none => .bad
theorem ss_setI (ho : ES J X W o fo) (hi : ES J X W e fi) (hv : ES J X W e2 fv)
    (ha : ∀ v, assign (.Subscript o e tpos) X.env v = (do
      let ov ← holding [v] (eval o X.env)
      let iv ← holding [v, ov] (eval e X.env)
      standAt tpos
      holding [v, ov, iv] (setItem ov iv v)
      release [v, ov, iv] []) := by intro _; rfl)
    (hs : swapsWithSole [.Subscript o e tpos] e2 pos.line X.env = pure false := by rfl) (hw : swappedStores [.Subscript o e tpos] e2 X.env = pure none := by rfl)
    (h1 : (assignEach [.Subscript o e tpos] X.env).map (·.2) = [assign (.Subscript o e tpos) X.env] := by rfl) : SS J X W (.Assign [.Subscript o e tpos] e2 pos) (sSetI fo fi fv) :=
  PS.imp (ps_asg hv (pg_sub ho hi set_list ha) hs hw h1) fun D σ H ⟨env, ρ, F, s, g, l, k⟩ => ⟨env, ρ, F, s, g, l, FPo.bind k l fun v s1 ρ1 F1 H1 u e1 l1 g1 r1 k1 =>
    ⟨env, ρ1, F1, s1, g1, l.mono l1, FPo.bind k1 (l.mono l1) fun x s2 ρ2 F2 H2 ov e3 l2 g2 r2 k2 =>
      ⟨env, ρ2, F2, s2, g2, l.mono (l1.trans l2), FPo.bind k2 (l.mono (l1.trans l2)) fun y s3 ρ3 F3 H3 iv e4 l3 g3 r3 k3 => by
        cases ep : putAt x y v s3 with
        | none => rw [ep] at k3; exact False.elim k3
        | some s4 =>
          rw [ep] at k3
          cases y with
          | int n =>
            simp only [putAt] at ep
            split at ep
            · rename_i i xs hl
              obtain ⟨j, hj, ej⟩ := Option.map_eq_some_iff.mp ep
              subst ej
              obtain ⟨ad, vs, h1, h2, h3, h4, h5⟩ := g3.lat (Den.mono l3 _ _ r2) hl
              simp only [Den] at r3
              have hlen : xs.length = vs.length := h4.length
              refine ⟨ad, vs, n, j, h1, r3, h3, by rw [← hlen]; exact hj, ?_⟩
              exact k3 ρ3 F3 _ σ (LE.put (List.mem_of_getElem? h2)) (g3.setL h2 (Dens.set (Den.mono (l2.trans l3) _ _ r1) j h4) (by rw [List.length_set]; exact h5)) (l.mono ((l1.trans l2).trans l3))
            · cases ep
          | _ => simp [putAt] at ep⟩⟩⟩
/-! ### recursion -/
def sBad : Sx := fun _ _ => .bad
theorem ss_bad {sts : List Stmt} : SSs J X W sts sBad := ⟨fun pins s σ H D I q => by obtain ⟨env, ρ, F, st, g, l, k⟩ := q; exact False.elim k⟩
end
end Pd
namespace Pd
open PySem L2
section
variable {J : Cn} {X : Cx} {W : WX} {a b c e e2 o tgt iter elt : Expr} {es ifs : List Expr} {fa fb fc fe fo fi fv : Ex} {fs : List Ex} {ft fu : Tx} {pos p p2 apos cpos tpos : Pos} {st : Stmt} {rest : List Stmt} {f1 f2 : Sx}
/-! ### isinstance of a caught error -/
def rIsX (K : PySem.W.Frag) : List V → Hp → VK → Prop := fun xs H Q => ∃ (a D : Addr) (c : V) (cv : Value) (b : Bool), xs = [.ref a, c] ∧ ClsV c cv ∧ H a = some (ExH D a) ∧ ExcC K D ∧ PySem.W.kitOne K (.ref D) cv = some b ∧ Q (.bl b) H
theorem call_isX : CallR X (.builtin "isinstance") (rIsX X.K) := by
  intro pins s σ H xs us Q I r h
  obtain ⟨a, D, c, cv, b, rfl, k, hH, C, e, q⟩ := h
  obtain ⟨u1, u2, rfl, r1, r2⟩ := vals2 r
  have e2 := k.eq r2
  subst e2
  cases (show u1 = Value.ref a from r1)
  obtain ⟨⟨oe, vs, hget, hz, hv⟩, _⟩ := I.hok a _ hH
  have J : PySem.W.InstAt s.heap a oe D none := by
    obtain ⟨oc, od, oda, osl⟩ := oe
    obtain ⟨h1, h2⟩ := hz
    dsimp only at h1 h2 hv
    subst h1 h2 hv
    exact ⟨hget, rfl, rfl, trivial⟩
  exact PySem.W.kia_one (PySem.W.handS_kitx_exc C.hg C.hk C.hs C.hd C.ha C.hn C.ht C.hm) I.kIn J e (fun z => nomatch z) fun tk => ⟨.bl b, H, I.kept (t' := tk) fun _ _ z => z, rfl, q⟩
/-- of which classes errors are instances of cv -/
def IsxF (J : Cn) (K : PySem.W.Frag) (mg : Str → Option Value) (tb : List (Nat × Bool)) (cv : Value) : Prop := ∀ n b, tb.lookup n = some b → ∀ C, mg (J n).1 = some (.ref C) → ExcC K C ∧ PySem.W.kitOne K (.ref C) cv = some b
theorem isx_nil {K : PySem.W.Frag} {mg : Str → Option Value} {cv : Value} : IsxF J K mg [] cv := fun n b h => by cases h
theorem isx_cons {K : PySem.W.Frag} {mg : Str → Option Value} {cv : Value} {n : Nat} {b : Bool} {tb : List (Nat × Bool)} {C : Addr} (hC : mg (J n).1 = some (.ref C)) (hE : ExcC K C) (hk : PySem.W.kitOne K (.ref C) cv = some b) (hr : IsxF J K mg tb cv) : IsxF J K mg ((n, b) :: tb) cv := fun m b' h C' hC' => by
  rw [List.lookup_cons] at h
  split at h
  · rename_i q
    have e := eq_of_beq q
    subst e
    cases h
    have z := hC.symm.trans hC'
    cases z
    exact ⟨hE, hk⟩
  · exact hr m b' h C' hC'
def dIsx (tb : List (Nat × Bool)) (d : Dt) (s : Sto) : Out Dt := match d with
  | .exc c => ofO s ((tb.lookup c).map .bl)
  | _ => .bad
theorem isx_of {tb : List (Nat × Bool)} {cv : Value} {c : V} (hcv : ClsV c cv) (hf : IsxF J X.K X.mg tb cv) {ρ : List Addr} {F H : Hp} {s : Sto} {x : V} {d : Dt} {Q : VK} {E : Value → Hp → Prop} (g : G (wd J X) ρ F s H) (r : Den (wd J X) ρ F d x) (k : EPo (wd J X) ρ F H Q E (dIsx tb d s)) : rIsX X.K [x, c] H Q := by
  cases d with
  | exc n =>
    simp only [Den] at r
    obtain ⟨ad, C, e1, hC, hF⟩ := r
    obtain ⟨d, e3, k1⟩ := Po.ofO k
    obtain ⟨t, e4, e5⟩ := Option.map_eq_some_iff.mp e3
    subst e5
    obtain ⟨hE, hk⟩ := hf n t e4 C hC
    exact ⟨ad, C, c, cv, t, by rw [e1], hcv, g.sub _ _ hF, hE, hk, k1 ρ F H _ LE.refl g (by simp only [Den])⟩
  | _ => exact False.elim k
theorem es_isx {T : Str} {C : Addr} {tb : List (Nat × Bool)} (hf : IsxF J X.K X.mg tb (.ref C)) (hg : Gl X "isinstance") (hm : X.mg "isinstance" = none) (hgT : Gl X T) (hmT : X.mg T = some (.ref C)) (ha : ES J X W e fe)
    (hd : (T == ("__debug__" : Str)) = false := by decide)
    (he : starEach [e, .Name T p2] X.env = [(false, eval e X.env), (false, eval (.Name T p2) X.env)] := by rfl) : ES J X W (.Call (.Name "isinstance" p) [e, .Name T p2] [] pos) (eUn (dIsx tb) fe) :=
  PE.imp (pe_callB call_isX hg hm (by decide +kernel) (pa_cons ha (pa_cons (pe_glob (v := .ref C) hgT hmT rfl hd) pa_nil rfl) (by exact he)) (by decide) (by decide) (by exact he) rfl) fun σ H Q ⟨env, ρ, F, s, g, l, k⟩ => ⟨env, ρ, F, s, g, l, Po.bind k fun x s1 ρ1 F1 H1 v e1 l1 g1 r1 k1 => isx_of (.own C) hf g1 r1 k1⟩
theorem es_isxT {T : Str} {n : String} {tb : List (Nat × Bool)} (hf : IsxF J X.K X.mg tb (.type n)) (hg : Gl X "isinstance") (hm : X.mg "isinstance" = none) (hgT : Gl X T) (hmT : X.mg T = none) (hv : bootBuiltins T = some (.type n)) (ha : ES J X W e fe)
    (hn : T ≠ "__name__" := by decide) (hd : (T == ("__debug__" : Str)) = false := by decide)
    (he : starEach [e, .Name T p2] X.env = [(false, eval e X.env), (false, eval (.Name T p2) X.env)] := by rfl) : ES J X W (.Call (.Name "isinstance" p) [e, .Name T p2] [] pos) (eUn (dIsx tb) fe) :=
  PE.imp (pe_callB call_isX hg hm (by decide +kernel) (pa_cons ha (pa_cons (pe_bltn (v := .ty n) hgT hmT hv rfl hn hd) pa_nil rfl) (by exact he)) (by decide) (by decide) (by exact he) rfl) fun σ H Q ⟨env, ρ, F, s, g, l, k⟩ => ⟨env, ρ, F, s, g, l, Po.bind k fun x s1 ρ1 F1 H1 v e1 l1 g1 r1 k1 => isx_of (.ty n) hf g1 r1 k1⟩
/-! ### try: .. except C as n: held = n -/
/-- errors of these classes are taken by the clause of cv -/
def XmF (J : Cn) (K : PySem.W.Frag) (mg : Str → Option Value) (tb : List Nat) (cv : Value) : Prop := ∀ n, n ∈ tb → ∀ C, mg (J n).1 = some (.ref C) → PySem.W.exmOne K (.ref C) cv = some true
theorem xm_nil {K : PySem.W.Frag} {mg : Str → Option Value} {cv : Value} : XmF J K mg [] cv := fun n h => nomatch h
theorem xm_cons {K : PySem.W.Frag} {mg : Str → Option Value} {cv : Value} {n : Nat} {tb : List Nat} {C : Addr} (hC : mg (J n).1 = some (.ref C)) (hk : PySem.W.exmOne K (.ref C) cv = some true) (hr : XmF J K mg tb cv) : XmF J K mg (n :: tb) cv := fun m h C' hC' => by
  rcases List.mem_cons.mp h with e | h
  · subst e
    have z := hC.symm.trans hC'
    cases z
    exact hk
  · exact hr m h C' hC'
def sTryH (ih ie : Nat) (tb : List Nat) (fb : Sx) : Sx := fun env s => match fb env s with
  | .exc c env' s' => if c ∈ tb ∧ ie < env'.length then .fl (.nx ((env'.set ih (some (.exc c))).set ie none)) s' else .bad
  | r => r
theorem ss_try_held {x n h : Str} {cv : Value} {ie ih : Nat} {tb : List Nat} {body : List Stmt} {np pos' hp ep hpos : Pos} {fb : Sx} (hs : X.stack = X.env :: X.outer) (hf : X.env.frame = some X.env.locals) (hN : X.N.Nodup) (hi : X.N[ie]? = some n) (hln : X.env.kindOf n = some .local) (hc : Names X x cv) (hex : X.ex = []) (hm : XmF J X.K X.mg tb cv)
    (hb : ∀ (W : WX) (pn : List (Addr × Obj)) (xe : Value → Shared → Prop), Tks false (X.tr pn xe) W → PassesOwn (model X.prog X.w) X.A X.env xe → SSs J (X.tr pn xe) W body fb)
    (hv : ∀ (a : Addr) (pn : List (Addr × Obj)), PE (X.suite a pn) (.Name n ep) (tVar ie)) (hg : ∀ (a : Addr) (pn : List (Addr × Obj)), PG (X.suite a pn) (.Name h hp) (gName ih))
    (hsw : ∀ (a : Addr) (pn : List (Addr × Obj)), swapsWithSole [.Name h hp] (.Name n ep) hpos.line (X.suite a pn).env = pure false := by intro _ _; rfl) (hw : ∀ (a : Addr) (pn : List (Addr × Obj)), swappedStores [.Name h hp] (.Name n ep) (X.suite a pn).env = pure none := by intro _ _; rfl)
    (h1 : ∀ (a : Addr) (pn : List (Addr × Obj)), (assignEach [.Name h hp] (X.suite a pn).env).map (·.2) = [assign (.Name h hp) (X.suite a pn).env] := by intro _ _; rfl) :
    SS J X W (.Try body [.ExceptHandler (some (.Name x np)) (some n) [.Assign [.Name h hp] (.Name n ep) hpos] pos'] [] [] pos) (sTryH ih ie tb fb) := by
  refine PS.imp (ps_try_kept (tb := fun W => tS (wd J X) W fb) (ts := fun a cls d => tAsg (tVar ie) (gName ih)) hs hf hN hi hln hc hex (fun W pn xe tk po => hb W pn xe tk po) (fun a oe cls d pn _ _ => pss_one (ps_asg (hv a _) (hg a _) (hsw a _) (hw a _) (h1 a _)))) fun D σ H ⟨env, ρ, F, s, g, l, k⟩ => ⟨env, ρ, F, s, g, l, ?_⟩
  unfold sTryH at k
  cases er : fb env s with
  | fl f s1 => rw [er] at k; cases f <;> exact k
  | bad => rw [er] at k; exact k
  | exc cn env1 s1 =>
    rw [er] at k
    simp only [] at k
    split at k
    · rename_i hq
      intro ρ1 F1 H1 σ1 C l1 g1 sl1 hC
      refine ⟨hm cn hq.1 C hC, C, rfl, rfl, fun a ha => ?_⟩
      have hlen : ie < σ1.length := by rw [← sl1.len]; exact hq.2
      refine ⟨.ref a, List.getElem?_set_self hlen, fun hn => ?_⟩
      have g2 := g1.frz (ExH C a) ha
      have l2 := LE.frz (o := ExH C a) g1 ha
      have dx : Den (wd J X) ρ1 (upd F1 a (ExH C a)) (.exc cn) (.ref a) := by
        simp only [Den]
        exact ⟨a, C, rfl, hC, upd_same⟩
      refine k ρ1 _ _ _ (l1.trans l2) g2 ?_
      have s3 := ((sl1.mono l2).set dx ih).unset ie
      refine ⟨by rw [s3.len]; simp, fun i d hd => ?_⟩
      obtain ⟨v, q1, q2⟩ := s3.at_ i d hd
      refine ⟨v, ?_, q2⟩
      rw [← q1]
      by_cases e1 : ie = i
      · subst e1
        rw [List.getElem?_set_self (by simpa using hlen), List.getElem?_set_self (by simpa using hlen)]
      · rw [List.getElem?_set_ne e1, List.getElem?_set_ne e1]
        by_cases e2 : ih = i
        · subst e2
          by_cases e3 : ih < σ1.length
          · rw [List.getElem?_set_self (by simpa using e3), List.getElem?_set_self (by simpa using e3)]
          · rw [List.getElem?_eq_none (by simpa using e3), List.getElem?_eq_none (by simpa using e3)]
        · rw [List.getElem?_set_ne e2, List.getElem?_set_ne e2, List.getElem?_set_ne e1]
    · exact False.elim k
/-! ### xs.count(y), flat things -/
theorem count_eqU {x : V} : ∀ {xs : List V} {us : List Value}, Vals xs us → xs.all flatV = true → us.countP (eqU x) = xs.countP fun y => eqV y x
  | _, _, .nil, _ => rfl
  | y :: ys, u :: us, .cons r t, f => by
    simp only [List.all_cons, Bool.and_eq_true] at f
    rw [List.countP_cons, List.countP_cons, count_eqU t f.2, eqU_of r f.1]
def rCntF (K : PySem.W.Frag) : V → List V → Hp → VK → Prop := fun x xs H Q => ∃ (p : Addr) (ys : List V) (y : V), x = .ref p ∧ xs = [y] ∧ SqL K H p ys ∧ flatV y = true ∧ ys.all flatV = true ∧ Q (.int ((ys.countP fun z => eqV z y : Nat) : Int)) H
theorem mt_cntF : MtR X "list.count" (rCntF X.K) := by
  intro pins s σ H x xs v us Q I rx rxs h
  obtain ⟨p, ys, y, rfl, rfl, hs, fy, fs, q⟩ := h
  cases rx
  obtain ⟨u, rfl, ru⟩ := rxs.one
  obtain ⟨its, rv, ⟨⟨cls, dd, data, sl⟩, n, ho, hc, hdn, hd⟩, hlen⟩ := I.list hs
  simp only at hc hd
  subst hc hd
  refine call_meets PySem.F.slot_list_count ⟨_, ho, rfl⟩ PySem.F.entry_list_count (PySem.F.args_list_count_2 _ _)
    (SeqAt.list_countAt p its.toArray n dd sl u (eqU y)) ⟨ho, fun w hw => mem_eqAt ru fy rv fs w (by simpa using hw), ?_⟩
  have ec : its.toArray.toList.countP (eqU y) = ys.countP fun z => eqV z y := count_eqU rv fs
  refine ⟨.int ((ys.countP fun z => eqV z y : Nat) : Int), H, I.tok _, ⟨s.toks, ?_⟩, q⟩
  show Value.int ((its.toArray.toList.countP (eqU y) : Nat) : Int) s.toks = Value.int ((ys.countP fun z => eqV z y : Nat) : Int) s.toks
  rw [ec]
def dCount (x y : Dt) (s : Sto) : Out Dt := match asL s x with
  | some l => if flatD y && l.all flatD then .ok (.int ((l.countP fun e => feq e y : Nat) : Int)) s else .bad
  | none => .bad
theorem count_toVd {x : Dt} (hx : flatD x = true) : ∀ {ds : List Dt}, ds.all flatD = true → ((ds.map toVd).countP fun z => eqV z (toVd x)) = ds.countP fun e => feq e x
  | [], _ => rfl
  | d :: ds, k => by
    simp only [List.all_cons, Bool.and_eq_true] at k
    rw [List.map_cons, List.countP_cons, List.countP_cons, count_toVd hx k.2, eqV_toVd k.1 hx]
theorem m_count : Bm1 J X "list" "count" isLst dCount := ⟨_, _, PySem.F.plainAttrs_list, PySem.F.slot_list_count, PySem.F.type_list_count, mt_cntF, ty_lst, fun ρ F s H x y dx dy Q E g rx ry k => by
  unfold dCount at k
  split at k
  · rename_i l hl
    split at k
    · rename_i hf
      simp only [Bool.and_eq_true] at hf
      obtain ⟨ad, xs, e3, q, t, _⟩ := g.sqL rx hl
      have e4 := t.flat hf.2
      have e5 := ry.flat hf.1
      subst e4; subst e5
      refine ⟨ad, _, _, e3, rfl, q, flatV_toVd _, all_flat_map _, ?_⟩
      rw [count_toVd hf.1 hf.2]
      exact k ρ F H _ LE.refl g (by simp only [Den])
    · exact False.elim k
  · exact False.elim k⟩
end
end Pd
namespace Pd
open PySem L2
section
variable {J : Cn} {X : Cx} {W : WX} {a b c e e2 o tgt iter elt : Expr} {es ifs : List Expr} {fa fb fc fe fo fi fv : Ex} {fs : List Ex} {ft fu : Tx} {pos p p2 apos cpos tpos : Pos} {st : Stmt} {rest : List Stmt} {f1 f2 : Sx}
/-! ### a, b = x, y -/
def sPar (i j : Nat) (fa fb : Ex) : Sx := fun env => sBnd (evs [fa, fb] env) env fun ds s => match ds with
  | [x, y] => .fl (.nx ((env.set i (some x)).set j (some y))) s
  | _ => .bad
theorem ss_par {i j : Nat} {x y : Str} {px py pt : Pos} {kt k2 pt2} (hc : X.calm = true) (hN : X.N.Nodup) (hi : X.N[i]? = some x) (hj : X.N[j]? = some y) (hij : i ≠ j)
    (hx : X.env.scope.names.lookup x = some .local) (hy : X.env.scope.names.lookup y = some .local) (ha : ASo J X W [a, b] [fa, fb])
    (hw : swappedStores [.Tuple [.Name x px, .Name y py] kt pt] (.Tuple [a, b] k2 pt2) X.env = pure (some [x, y]))
    (hs : swapsWithSole [.Tuple [.Name x px, .Name y py] kt pt] (.Tuple [a, b] k2 pt2) pos.line X.env = pure false := by rfl) :
    SS J X W (.Assign [.Tuple [.Name x px, .Name y py] kt pt] (.Tuple [a, b] k2 pt2) pos) (sPar i j fa fb) :=
  PS.imp (ps_par hc hN hi hj hij hx hy ha hw hs) fun D σ H ⟨env, ρ, F, s, g, l, k⟩ => ⟨env, ρ, F, s, g, l, FPo.bind k l fun ds s1 ρ1 F1 H1 vs e1 l1 g1 r1 k1 => by
    match ds, k1, r1 with
    | [d1, d2], k1, r1 =>
      simp only [Dens] at r1
      obtain ⟨v, r, e2, q1, v2, r2, e3, q2, e4⟩ := r1
      subst e2; subst e3; subst e4
      exact ⟨v, v2, rfl, k1 ρ1 F1 H1 _ LE.refl g1 (((l.mono l1).set q1 i).set q2 j)⟩
    | [], k1, _ => exact False.elim k1
    | [d1], k1, _ => exact False.elim k1
    | d1 :: d2 :: d3 :: ds, k1, _ => exact False.elim k1⟩
/-! ### is, is not of truths -/
theorem op_isB : OpR X (compareOp .Is) (fun x y H Q => ∃ a b, x = .bl a ∧ y = .bl b ∧ Q (.bl (a == b)) H) := by
  intro pins s σ H x y v u Q I rx ry h
  obtain ⟨a, b, rfl, rfl, q⟩ := h
  cases (show v = Value.bool a from rx)
  cases (show u = Value.bool b from ry)
  exact wpAny_is_plain rfl (fin_bl I q (by cases a <;> cases b <;> rfl))
theorem op_isNotB : OpR X (compareOp .IsNot) (fun x y H Q => ∃ a b, x = .bl a ∧ y = .bl b ∧ Q (.bl (!(a == b))) H) := by
  intro pins s σ H x y v u Q I rx ry h
  obtain ⟨a, b, rfl, rfl, q⟩ := h
  cases (show v = Value.bool a from rx)
  cases (show u = Value.bool b from ry)
  exact wpAny_isNot_plain rfl (fin_bl I q (by cases a <;> cases b <;> rfl))
def dIsB (x y : Dt) (s : Sto) : Out Dt := match x with
  | .bl a => match y with
    | .bl b => .ok (.bl (a == b)) s
    | _ => .bad
  | _ => .bad
def dIsNotB (x y : Dt) (s : Sto) : Out Dt := match x with
  | .bl a => match y with
    | .bl b => .ok (.bl (!(a == b))) s
    | _ => .bad
  | _ => .bad
theorem c_isB : CmpOk J X .Is dIsB := ⟨_, op_isB, fun ρ F s H x y dx dy Q E g rx ry k => by
  cases dx with
  | bl a =>
    cases dy with
    | bl b => simp only [Den] at rx ry; exact ⟨a, b, rx, ry, k ρ F H _ LE.refl g (by simp only [Den])⟩
    | _ => exact False.elim k
  | _ => exact False.elim k⟩
theorem c_isNotB : CmpOk J X .IsNot dIsNotB := ⟨_, op_isNotB, fun ρ F s H x y dx dy Q E g rx ry k => by
  cases dx with
  | bl a =>
    cases dy with
    | bl b => simp only [Den] at rx ry; exact ⟨a, b, rx, ry, k ρ F H _ LE.refl g (by simp only [Den])⟩
    | _ => exact False.elim k
  | _ => exact False.elim k⟩
/-! ### list * int -/
def dRep (nw : List Dt → Sto → Out Dt) (x y : Dt) (s : Sto) : Out Dt := match y with
  | .int k => match trkL s x with
    | some l => if k < 1000000 ∧ -1000000 < k ∧ l.length * k.toNat ≤ sizeLine then nw (List.replicate k.toNat l).flatten s else .bad
    | none => .bad
  | _ => .bad
theorem Dens.rep {Γ : Wd} {ρ : List Addr} {F : Hp} {l : List Dt} {xs : List V} (t : Dens Γ ρ F l xs) : ∀ n : Nat, Dens Γ ρ F (List.replicate n l).flatten (List.replicate n xs).flatten
  | 0 => by simp [Dens]
  | n + 1 => by
    rw [List.replicate_succ, List.replicate_succ, List.flatten_cons, List.flatten_cons]
    exact Dens.append t (Dens.rep t n)
theorem es_rep {nw : List Dt → Sto → Out Dt} (n : IsNw nw) (ha : ES J X W a fa) (hb : ES J X W b fb) : ES J X W (.BinOp a .Mult b pos) (eOp (dRep nw) fa fb) :=
  es_op op_rep (fun ρ F s H x y dx dy Q E g rx ry k => by
    cases dy with
    | int m =>
      simp only [Den] at ry
      simp only [dRep] at k
      split at k
      · rename_i l hl
        split at k
        · rename_i hz
          obtain ⟨ad, xs, e1, q, t, _⟩ := g.trk rx hl
          have hlen : (List.replicate m.toNat l).flatten.length ≤ sizeLine := by
            rw [List.length_flatten, List.map_replicate, List.sum_replicate_nat, Nat.mul_comm]
            exact hz.2.2
          exact ⟨ad, m, xs, e1, ry, q, by omega, by omega, by rw [← t.length]; exact hz.2.2, fun p hp => new_lst n g (t.rep m.toNat) hlen hp k⟩
        · exact False.elim k
      · exact False.elim k
    | _ => exact False.elim k) ha hb
end
end Pd
/-! The meanings, run by simp. -/
namespace Pd
open PySem L2
section
variable {α β : Type} {env : En} {s : Sto}
@[simp] theorem run_ok {a : α} {s' : Sto} {k : α → Sto → Out β} : (match (Out.ok a s' : Out α) with | .ok a s' => k a s' | .exc c s' => .exc c s' | .bad => .bad) = k a s' := rfl
@[simp] theorem ev_var {i : Nat} : eVar i env s = (match env[i]? with | some (some d) => .ok d s | _ => .bad) := rfl
@[simp] theorem ev_c {d : Dt} : eC d env s = .ok d s := rfl
@[simp] theorem ev_op {op : Dt → Dt → Sto → Out Dt} {f g : Ex} : eOp op f g env s = bnd (f env) (fun x => bnd (g env) fun y => op x y) s := rfl
@[simp] theorem ev_un {op : Dt → Sto → Out Dt} {f : Ex} : eUn op f env s = bnd (f env) op s := rfl
@[simp] theorem bnd_def {m : Sto → Out α} {k : α → Sto → Out β} : bnd m k s = (match m s with | .ok a s' => k a s' | .exc c s' => .exc c s' | .bad => .bad) := rfl
@[simp] theorem sBnd_def {m : Sto → Out α} {k : α → Sto → Res} : sBnd m env k s = (match m s with | .ok a s' => k a s' | .exc c s' => .exc c env s' | .bad => .bad) := rfl
@[simp] theorem iOp_int {g : Int → Int → Dt} {ok : Int → Int → Bool} {i j : Int} : iOp g ok (.int i) (.int j) s = if ok i j = true then .ok (g i j) s else .bad := rfl
@[simp] theorem ev_seq {f g : Sx} : sSeq f g env s = (match f env s with | .fl (.nx e) s' => g e s' | r => r) := rfl
@[simp] theorem ev_if {t : Tx} {f g : Sx} : sIf t f g env s = sBnd (t env) env (fun c s => if c = true then f env s else g env s) s := rfl
@[simp] theorem ev_ret {f : Ex} : sRet f env s = sBnd (f env) env (fun d s => .fl (.rt d) s) s := rfl
@[simp] theorem ev_next : sNext env s = .fl (.nx env) s := rfl
@[simp] theorem ev_expr {f : Ex} : sExpr f env s = sBnd (f env) env (fun _ s => .fl (.nx env) s) s := rfl
@[simp] theorem ev_asg {f : Ex} {tg : Tg} : sAsg f tg env s = sBnd (f env) env (fun d s => match tg d env with | some e => .fl (.nx e) s | none => .bad) s := rfl
@[simp] theorem ev_gN {i : Nat} {d : Dt} : gN i d env = some (env.set i (some d)) := rfl
@[simp] theorem ev_gT {is : List Nat} {l : List Dt} : gT is (.tup l) env = setAll is l env := rfl
@[simp] theorem setAll_nil : setAll [] [] env = some env := rfl
@[simp] theorem setAll_cons {i : Nat} {is : List Nat} {d : Dt} {ds : List Dt} : setAll (i :: is) (d :: ds) env = setAll is ds (env.set i (some d)) := rfl
@[simp] theorem ev_tru {f : Ex} : tTru f env s = bnd (f env) (fun d s => ofB s (truD s d)) s := rfl
@[simp] theorem ev_bl {f : Ex} : tBl f env s = bnd (f env) (fun d s => match d with | .bl b => .ok b s | _ => .bad) s := rfl
@[simp] theorem ev_and {f g : Tx} : tAnd f g env s = bnd (f env) (fun c s => if c = true then g env s else .ok false s) s := rfl
@[simp] theorem ev_or {f g : Tx} : tOr f g env s = bnd (f env) (fun c s => if c = true then .ok true s else g env s) s := rfl
@[simp] theorem ev_not {f : Tx} : tNot f env s = bnd (f env) (fun c s => .ok (!c) s) s := rfl
@[simp] theorem ev_yes : Pd.tYes env s = .ok true s := rfl
@[simp] theorem ev_andE {f g : Ex} : eAnd f g env s = bnd (f env) (fun d s => match truD s d with | some true => g env s | some false => .ok d s | none => .bad) s := rfl
@[simp] theorem ev_orE {f g : Ex} : eOr f g env s = bnd (f env) (fun d s => match truD s d with | some true => .ok d s | some false => g env s | none => .bad) s := rfl
@[simp] theorem ev_notE {f : Ex} : eNot f env s = bnd (f env) (fun d s => ofO s ((truD s d).map fun b => .bl (!b))) s := rfl
@[simp] theorem ev_ifE {t : Tx} {f g : Ex} : eIf t f g env s = bnd (t env) (fun c s => if c = true then f env s else g env s) s := rfl
@[simp] theorem ev_chain {op op' : Dt → Dt → Sto → Out Dt} {f g h : Ex} : eChain op op' f g h env s = bnd (f env) (fun x => bnd (g env) fun y => bnd (op x y) fun z s => match z with | .bl true => bnd (h env) (fun w => op' y w) s | .bl false => .ok (.bl false) s | _ => .bad) s := rfl
@[simp] theorem ofB_some {b : Bool} : ofB s (some b) = .ok b s := rfl
@[simp] theorem ofO_some {d : Dt} : ofO s (some d) = .ok d s := rfl
@[simp] theorem ofO_none : ofO s none = .bad := rfl
@[simp] theorem truD_non : truD s .non = some false := rfl
@[simp] theorem truD_bl {b : Bool} : truD s (.bl b) = some b := rfl
@[simp] theorem truD_int {i : Int} : truD s (.int i) = some (i != 0) := rfl
@[simp] theorem truD_str {x : Str} : truD s (.str x) = some ((x.length : Int) != 0) := rfl
@[simp] theorem truD_tup {l : List Dt} : truD s (.tup l) = some (!l.isEmpty) := rfl
@[simp] theorem truD_lst {l : List Dt} : truD s (.lst l) = some (!l.isEmpty) := rfl
@[simp] theorem truD_lsk {l : List Dt} : truD s (.lsk l) = some (!l.isEmpty) := rfl
theorem truD_obj {i : Nat} {l : List Dt} (h : s[i]? = some (.lst l)) : truD s (.obj i) = some (!l.isEmpty) := by simp only [truD, h]
theorem truD_dic {i : Nat} {l : List (Key × Dt)} (h : s[i]? = some (.dic l)) : truD s (.obj i) = some (!l.isEmpty) := by simp only [truD, h]
@[simp] theorem evs_nil : evs [] env s = .ok [] s := rfl
@[simp] theorem evs_cons {f : Ex} {fs : List Ex} : evs (f :: fs) env s = bnd (f env) (fun d => bnd (evs fs env) fun ds s => .ok (d :: ds) s) s := rfl
@[simp] theorem ev_tup {fs : List Ex} : eTup fs env s = bnd (evs fs env) (fun ds s => .ok (.tup ds) s) s := rfl
@[simp] theorem ev_lst {nw : List Dt → Sto → Out Dt} {fs : List Ex} : eLst nw fs env s = bnd (evs fs env) nw s := rfl
@[simp] theorem ev_nwF {ds : List Dt} : nwF ds s = .ok (.lst ds) s := rfl
@[simp] theorem ev_nwM {ds : List Dt} : nwM ds s = .ok (.obj s.length) (s ++ [.lst ds]) := rfl
@[simp] theorem ev_call {m : Fn} {fs : List Ex} : eCall m fs env s = bnd (evs fs env) m s := rfl
@[simp] theorem ev_meth {c : Nat} {m : Fn} {fo : Ex} {fs : List Ex} : eMeth c m fo fs env s = bnd (fo env) (fun x s => match insD s c x with | some _ => bnd (evs fs env) (fun ds => m (x :: ds)) s | none => .bad) s := rfl
@[simp] theorem ev_make {c : Nat} {m : Fn} {fs : List Ex} : eMake c m fs env s = bnd (evs fs env) (fun ds s => bnd (m (.obj s.length :: ds)) (fun _ s' => .ok (.obj s.length) s') (s ++ [.ins c []])) s := rfl
@[simp] theorem ev_fld {c i : Nat} {fo : Ex} : eFld c i fo env s = bnd (fo env) (fun d s => ofO s ((insD s c d).bind fun p => p.2[i]?)) s := rfl
theorem insD_obj {c j : Nat} {ds : List Dt} (h : s[j]? = some (.ins c ds)) : insD s c (.obj j) = some (j, ds) := by simp only [insD, h, if_true]
@[simp] theorem ev_setF {c i : Nat} {fo fv : Ex} : sSetF c i fo fv env s = sBnd (fv env) env (fun y => sBnd (fo env) env fun d s => match setFD s c i d y with | some s' => .fl (.nx env) s' | none => .bad) s := rfl
theorem setFD_obj {c i j : Nat} {ds : List Dt} {y : Dt} (h : s[j]? = some (.ins c ds)) (hi : i ≤ ds.length) : setFD s c i (.obj j) y = some (s.set j (.ins c (putI i y ds))) := by simp only [setFD, insD_obj h, Option.bind_some, if_pos hi]
@[simp] theorem ev_bm1 {ty : Sto → Dt → Bool} {op : Dt → Dt → Sto → Out Dt} {fo fe : Ex} : eBm1 ty op fo fe env s = bnd (fo env) (fun x s => if ty s x = true then bnd (fe env) (fun y => op x y) s else .bad) s := rfl
theorem isLst_obj {i : Nat} {l : List Dt} (h : s[i]? = some (.lst l)) : isLst s (.obj i) = true := by simp [isLst, asL, h]
theorem lstAt_obj {i : Nat} {l : List Dt} (h : s[i]? = some (.lst l)) : lstAt s (.obj i) = some (i, l) := by simp only [lstAt, h]
theorem dApp_obj {i : Nat} {l : List Dt} {y : Dt} (h : s[i]? = some (.lst l)) (hz : l.length < sizeLine) : dApp (.obj i) y s = .ok .non (s.set i (.lst (l ++ [y]))) := by simp only [dApp, lstAt_obj h, if_pos hz]
@[simp] theorem asQ_tup {l : List Dt} : asQ s (.tup l) = some l := rfl
@[simp] theorem asQ_lst {l : List Dt} : asQ s (.lst l) = some l := rfl
@[simp] theorem asQ_lsk {l : List Dt} : asQ s (.lsk l) = some l := rfl
@[simp] theorem asL_lst {l : List Dt} : asL s (.lst l) = some l := rfl
@[simp] theorem asL_lsk {l : List Dt} : asL s (.lsk l) = some l := rfl
theorem asQ_obj {i : Nat} {l : List Dt} (h : s[i]? = some (.lst l)) : asQ s (.obj i) = some l := by simp only [asQ, asL, h]
theorem asL_obj {i : Nat} {l : List Dt} (h : s[i]? = some (.lst l)) : asL s (.obj i) = some l := by simp only [asL, h]
@[simp] theorem dLen_tup {l : List Dt} : dLen (.tup l) s = .ok (.int l.length) s := rfl
@[simp] theorem dLen_lst {l : List Dt} : dLen (.lst l) s = .ok (.int l.length) s := rfl
@[simp] theorem dLen_lsk {l : List Dt} : dLen (.lsk l) s = .ok (.int l.length) s := rfl
@[simp] theorem dLen_str {l : Str} : dLen (.str l) s = .ok (.int l.length) s := rfl
theorem dLen_obj {i : Nat} {l : List Dt} (h : s[i]? = some (.lst l)) : dLen (.obj i) s = .ok (.int l.length) s := by simp only [dLen, lenD, h]; rfl
theorem dLen_dic {i : Nat} {l : List (Key × Dt)} (h : s[i]? = some (.dic l)) : dLen (.obj i) s = .ok (.int l.length) s := by simp only [dLen, lenD, h]; rfl
@[simp] theorem dIx_tup {l : List Dt} {i : Int} : dIx (.tup l) (.int i) s = ofO s (atI l i) := rfl
@[simp] theorem dIx_lst {l : List Dt} {i : Int} : dIx (.lst l) (.int i) s = ofO s (atI l i) := rfl
@[simp] theorem dIx_lsk {l : List Dt} {i : Int} : dIx (.lsk l) (.int i) s = ofO s (atI l i) := rfl
@[simp] theorem dIx_str {z : Str} {i : Int} : dIx (.str z) (.int i) s = ofO s ((atI z.cps.toList i).map fun c => .str ⟨#[c]⟩) := rfl
theorem dIx_obj {j : Nat} {l : List Dt} {i : Int} (h : s[j]? = some (.lst l)) : dIx (.obj j) (.int i) s = ofO s (atI l i) := by simp only [dIx, asQ_obj h, Option.bind_some]
@[simp] theorem dAdd_int {nw : List Dt → Sto → Out Dt} {i j : Int} : dAdd nw (.int i) (.int j) s = .ok (.int (i + j)) s := rfl
@[simp] theorem dNeg_int {i : Int} : dNeg (.int i) s = .ok (.int (-i)) s := rfl
@[simp] theorem isN_def {d : Dt} : dIsN d s = .ok (.bl (isNon d)) s := rfl
@[simp] theorem notN_def {d : Dt} : dNotN d s = .ok (.bl (!isNon d)) s := rfl
@[simp] theorem isNon_non : isNon .non = true := rfl
@[simp] theorem isNon_int {i : Int} : isNon (.int i) = false := rfl
@[simp] theorem isNon_bl {i : Bool} : isNon (.bl i) = false := rfl
@[simp] theorem isNon_str {i : Str} : isNon (.str i) = false := rfl
@[simp] theorem isNon_tup {i : List Dt} : isNon (.tup i) = false := rfl
@[simp] theorem isNon_lst {i : List Dt} : isNon (.lst i) = false := rfl
@[simp] theorem isNon_obj {i : Nat} : isNon (.obj i) = false := rfl
@[simp] theorem isNon_exc {i : Nat} : isNon (.exc i) = false := rfl
/-! equality -/
@[simp] theorem dEq_int {i j : Int} : dEq (.int i) (.int j) s = .ok (.bl (i == j)) s := rfl
@[simp] theorem dNe_int {i j : Int} : dNe (.int i) (.int j) s = .ok (.bl (!(i == j))) s := rfl
@[simp] theorem dEq_str {i j : Str} : dEq (.str i) (.str j) s = .ok (.bl (i == j)) s := rfl
@[simp] theorem dNe_str {i j : Str} : dNe (.str i) (.str j) s = .ok (.bl (!(i == j))) s := rfl
@[simp] theorem dEq_bl {i j : Bool} : dEq (.bl i) (.bl j) s = .ok (.bl (i == j)) s := rfl
end
theorem rep_zero : List.replicate 0 (none : Option Dt) = [] := rfl
theorem rep_succ {n : Nat} : List.replicate (n + 1) (none : Option Dt) = none :: List.replicate n none := rfl
/-- places of a written list -/
theorem atI_ofNat {α : Type} (l : List α) (n : Nat) : atI l (n : Int) = l[n]? := by
  unfold atI ixN
  rw [if_pos (Int.natCast_nonneg n)]
  by_cases h : n < l.length
  · rw [if_pos (by exact_mod_cast h)]; simp
  · rw [if_neg (by exact_mod_cast h)]
    simp
    omega
@[simp] theorem atI_zero {α : Type} (l : List α) : atI l 0 = l[0]? := atI_ofNat l 0
@[simp] theorem atI_one {α : Type} (l : List α) : atI l 1 = l[1]? := atI_ofNat l 1
@[simp] theorem atI_2 {α : Type} (l : List α) : atI l 2 = l[2]? := atI_ofNat l 2
@[simp] theorem atI_3 {α : Type} (l : List α) : atI l 3 = l[3]? := atI_ofNat l 3
@[simp] theorem atI_4 {α : Type} (l : List α) : atI l 4 = l[4]? := atI_ofNat l 4
@[simp] theorem atI_5 {α : Type} (l : List α) : atI l 5 = l[5]? := atI_ofNat l 5
@[simp] theorem atI_6 {α : Type} (l : List α) : atI l 6 = l[6]? := atI_ofNat l 6
@[simp] theorem atI_7 {α : Type} (l : List α) : atI l 7 = l[7]? := atI_ofNat l 7
@[simp] theorem atI_8 {α : Type} (l : List α) : atI l 8 = l[8]? := atI_ofNat l 8
@[simp] theorem atI_9 {α : Type} (l : List α) : atI l 9 = l[9]? := atI_ofNat l 9
@[simp] theorem atI_10 {α : Type} (l : List α) : atI l 10 = l[10]? := atI_ofNat l 10
@[simp] theorem atI_11 {α : Type} (l : List α) : atI l 11 = l[11]? := atI_ofNat l 11
@[simp] theorem atI_12 {α : Type} (l : List α) : atI l 12 = l[12]? := atI_ofNat l 12
theorem atI_m1 {α : Type} (l : List α) : atI l (-1) = l.getLast? := by
  rcases List.eq_nil_or_concat l with e | ⟨r, x, e⟩
  · subst e; rfl
  · subst e
    rw [List.concat_eq_append, atI_last, List.getLast?_append]
    rfl
theorem dAdd_tup {nw : List Dt → Sto → Out Dt} {l m : List Dt} {s : Sto} (h : l.length + m.length ≤ 1000) : dAdd nw (.tup l) (.tup m) s = .ok (.tup (l ++ m)) s := by
  simp only [dAdd]
  rw [if_pos (by rw [sizeLine_eq]; omega)]
theorem dIsi_tup {l : List Dt} {s : Sto} : dIsi "tuple" (.tup l) s = .ok (.bl true) s := rfl
end Pd
namespace Pd
open PySem L2
/-- a comprehension that changes nothing -/
theorem lc_pure {tg : Tg} {ft : Tx} {fe : Ex} {ok : Sto → Prop} {env : En} {s : Sto} {p : Dt → Bool} {g : Dt → Dt} (hok : ok s) : ∀ {l : List Dt}, (∀ d ∈ l, ∃ env1, tg d env = some env1 ∧ ft env1 s = .ok (p d) s ∧ (p d = true → fe env1 s = .ok (g d) s)) → lcGo tg ft fe ok l env s = .ok ((l.filter p).map g) s
  | [], _ => by simp only [lcGo, if_pos hok, List.filter_nil, List.map_nil]
  | d :: r, h => by
    obtain ⟨env1, h1, h2, h3⟩ := h d List.mem_cons_self
    have ih := lc_pure (l := r) hok fun d hd => h d (List.mem_cons_of_mem _ hd)
    simp only [lcGo, if_pos hok, h1, bndN, h2]
    cases e : p d with
    | true =>
      rw [if_pos rfl, List.filter_cons_of_pos e, List.map_cons]
      simp only [h3 e, ih]
    | false =>
      rw [if_neg Bool.false_ne_true, List.filter_cons_of_neg (by simp [e])]
      exact ih
/-- a loop by what holds between its turns -/
theorem for_inv {tg : Tg} {body : Sx} {ok : Sto → Prop} (I : List Dt → En → Sto → Prop) (all : List Dt) : ∀ (l pre : List Dt), all = pre ++ l → ∀ (env : En) (s : Sto), I pre env s →
    (∀ pre d post env s, all = pre ++ d :: post → I pre env s → ok s ∧ ∃ env1, tg d env = some env1 ∧ ∃ e s', (body env1 s = .fl (.nx e) s' ∨ body env1 s = .fl (.ct e) s') ∧ I (pre ++ [d]) e s') → (∀ env s, I all env s → ok s) →
    ∃ e s', forGo tg body ok l env s = .fl (.nx e) s' ∧ I all e s'
  | [], pre, ha, env, s, hi, hs, hd => by
    rw [List.append_nil] at ha
    subst ha
    exact ⟨env, s, by simp only [forGo, if_pos (hd env s hi)], hi⟩
  | d :: r, pre, ha, env, s, hi, hs, hd => by
    obtain ⟨hok, env1, h1, e, s', h2, h3⟩ := hs pre d r env s ha hi
    obtain ⟨e2, s2, h4, h5⟩ := for_inv I all r (pre ++ [d]) (by rw [ha, List.append_assoc]; rfl) e s' h3 hs hd
    refine ⟨e2, s2, ?_, h5⟩
    rcases h2 with h2 | h2
    · simp only [forGo, if_pos hok, h1, h2]; exact h4
    · simp only [forGo, if_pos hok, h1, h2]; exact h4
/-- .. over the numbers below n -/
theorem for_range_inv {tg : Tg} {body : Sx} (I : Nat → En → Sto → Prop) (n : Nat) {env : En} {s : Sto} (h0 : I 0 env s)
    (hs : ∀ k env s, k < n → I k env s → ∃ env1, tg (.int k) env = some env1 ∧ ∃ e s', (body env1 s = .fl (.nx e) s' ∨ body env1 s = .fl (.ct e) s') ∧ I (k + 1) e s') :
    ∃ e s', forGo tg body (fun _ => True) ((List.range n).map fun (k : Nat) => .int k) env s = .fl (.nx e) s' ∧ I n e s' := by
  obtain ⟨e, s', h1, h2⟩ := for_inv (tg := tg) (body := body) (ok := fun _ => True) (fun pre env s => ∃ k, k ≤ n ∧ pre = (List.range k).map (fun (k : Nat) => Dt.int k) ∧ I k env s) ((List.range n).map fun (k : Nat) => .int k) _ [] rfl env s ⟨0, Nat.zero_le _, rfl, h0⟩
    (fun pre d post env s ha ⟨k, hk, ep, hi⟩ => by
      have hlen : pre.length = k := by rw [ep, List.length_map, List.length_range]
      have hkn : k < n := by
        have := congrArg List.length ha
        simp at this
        omega
      have ed : d = .int k := by
        have z : ((List.range n).map fun (k : Nat) => Dt.int k)[k]? = some d := by rw [ha, ← hlen]; simp
        rw [List.getElem?_map, List.getElem?_range hkn] at z
        simpa using z.symm
      subst ed
      obtain ⟨env1, h1, e, s', h2, h3⟩ := hs k env s hkn hi
      exact ⟨trivial, env1, h1, e, s', h2, k + 1, hkn, by rw [ep, List.range_succ, List.map_append]; rfl, h3⟩) (fun _ _ _ => trivial)
  obtain ⟨k, hk, ep, hi⟩ := h2
  have : k = n := by
    have := congrArg List.length ep
    simp at this
    omega
  subst this
  exact ⟨e, s', h1, hi⟩
@[simp] theorem ev_for {fi : Is} {tg : Tg} {body : Sx} {env : En} {s : Sto} : sFor fi tg body env s = sBnd (fi env) env (fun p => forGo tg body p.2 p.1 env) s := rfl
@[simp] theorem ev_lc {nw : List Dt → Sto → Out Dt} {vs : List Nat} {fi : Is} {tg : Tg} {ft : Tx} {fe : Ex} {env : En} {s : Sto} : eLc nw vs fi tg ft fe env s = bnd (fi env) (fun p => bndN (lcGo tg ft fe p.2 p.1 (wipeD env vs)) nw) s := rfl
@[simp] theorem wipeD_nil {env : En} : wipeD env [] = env := rfl
@[simp] theorem wipeD_cons {env : En} {v : Nat} {vs : List Nat} : wipeD env (v :: vs) = (wipeD env vs).set v none := rfl
theorem bndN_ok {α β : Type} {m : Sto → Out α} {k : α → Sto → Out β} {s s' : Sto} {a : α} (h : m s = .ok a s') : bndN m k s = k a s' := by unfold bndN; rw [h]
@[simp] theorem ev_iSeq {f : Ex} {env : En} {s : Sto} : iSeq f env s = bnd (β := List Dt × (Sto → Prop)) (f env) (fun d s => match d with
  | .str x => .ok (signs x, fun _ => True) s
  | d => match asQ s d with
    | some l => .ok (l, fun s' => asQ s' d = some l) s
    | none => .bad) s := rfl
@[simp] theorem ev_iRange {f : Ex} {env : En} {s : Sto} : iRange f env s = bnd (β := List Dt × (Sto → Prop)) (f env) (fun d s => match d with
  | .int n => if n ≤ 16777216 ∧ -(2 ^ 62) ≤ n then .ok ((List.range n.toNat).map fun (k : Nat) => .int k, fun _ => True) s else .bad
  | _ => .bad) s := rfl
theorem ev_sl {nw : List Dt → Sto → Out Dt} {fa : Ex} {lo hi : Option Ex} {env : En} {s : Sto} : eSl nw fa lo hi env s = bnd (fa env) (fun x => bnd (evp lo env) fun l => bnd (evp hi env) fun u => dSl nw x l u) s := rfl
theorem evp_none {env : En} {s : Sto} : evp none env s = .ok none s := rfl
theorem evp_some {f : Ex} {env : En} {s : Sto} : evp (some f) env s = bnd (f env) (fun d s => match d with | .int i => .ok (some i) s | _ => .bad) s := rfl
theorem dSl_tup {nw : List Dt → Sto → Out Dt} {l : List Dt} {lo hi : Option Int} {s : Sto} : dSl nw (.tup l) lo hi s = .ok (.tup (cutD l lo hi)) s := rfl
theorem dSl_lst {nw : List Dt → Sto → Out Dt} {l : List Dt} {lo hi : Option Int} {s : Sto} : dSl nw (.lst l) lo hi s = nw (cutD l lo hi) s := rfl
theorem dSl_obj {nw : List Dt → Sto → Out Dt} {i : Nat} {l : List Dt} {lo hi : Option Int} {s : Sto} (h : s[i]? = some (.lst l)) : dSl nw (.obj i) lo hi s = nw (cutD l lo hi) s := by simp only [dSl, asL_obj h]
/-! ### equal data -/
mutual
theorem eqv_refl : ∀ p : PyData, p.canLay0 = true → PyData.eqv p p = true
  | .none, _ => rfl
  | .bool b, _ => by simp [PyData.eqv]
  | .int i, _ => by simp [PyData.eqv]
  | .str x, _ => by simp [PyData.eqv]
  | .list xs, h => by simp only [PyData.eqv]; exact eqvAll_refl xs (by simpa only [PyData.canLay0] using h)
  | .tuple xs, h => by simp only [PyData.eqv]; exact eqvAll_refl xs (by simpa only [PyData.canLay0] using h)
  | .dict xs, h => by simp [PyData.canLay0] at h
theorem eqvAll_refl : ∀ p : List PyData, PyData.canLayAll0 p = true → PyData.eqvAll p p = true
  | [], _ => rfl
  | x :: xs, h => by
    simp only [PyData.canLayAll0, Bool.and_eq_true] at h
    simp only [PyData.eqvAll, eqv_refl x h.1, eqvAll_refl xs h.2, Bool.and_self]
end
mutual
def noDict : PyData → Bool
  | .list xs => noDicts xs
  | .tuple xs => noDicts xs
  | .dict _ => false
  | _ => true
def noDicts : List PyData → Bool
  | [] => true
  | x :: xs => noDict x && noDicts xs
end
mutual
theorem eqv_self : ∀ p : PyData, noDict p = true → PyData.eqv p p = true
  | .none, _ => rfl
  | .bool b, _ => by simp [PyData.eqv]
  | .int i, _ => by simp [PyData.eqv]
  | .str x, _ => by simp [PyData.eqv]
  | .list xs, h => by simp only [PyData.eqv]; exact eqvAll_self xs (by simpa only [noDict] using h)
  | .tuple xs, h => by simp only [PyData.eqv]; exact eqvAll_self xs (by simpa only [noDict] using h)
  | .dict xs, h => by simp [noDict] at h
theorem eqvAll_self : ∀ p : List PyData, noDicts p = true → PyData.eqvAll p p = true
  | [], _ => rfl
  | x :: xs, h => by
    simp only [noDicts, Bool.and_eq_true] at h
    simp only [PyData.eqvAll, eqv_self x h.1, eqvAll_self xs h.2, Bool.and_self]
end
mutual
theorem toPy_noDict : ∀ (d : Dt) (p : PyData), toPy d = some p → noDict p = true
  | .non, p, h => by simp only [toPy, Option.some.injEq] at h; subst h; rfl
  | .bl _, p, h => by simp only [toPy, Option.some.injEq] at h; subst h; rfl
  | .int _, p, h => by simp only [toPy, Option.some.injEq] at h; subst h; rfl
  | .str _, p, h => by simp only [toPy, Option.some.injEq] at h; subst h; rfl
  | .tup l, p, h => by
    simp only [toPy, Option.map_eq_some_iff] at h
    obtain ⟨q, e1, e2⟩ := h
    subst e2
    simp only [noDict]
    exact toPys_noDict l q e1
  | .lst l, p, h => by
    simp only [toPy, Option.map_eq_some_iff] at h
    obtain ⟨q, e1, e2⟩ := h
    subst e2
    simp only [noDict]
    exact toPys_noDict l q e1
  | .lsk l, p, h => by
    simp only [toPy, Option.map_eq_some_iff] at h
    obtain ⟨q, e1, e2⟩ := h
    subst e2
    simp only [noDict]
    exact toPys_noDict l q e1
  | .obj _, p, h => by simp [toPy] at h
  | .exc _, p, h => by simp [toPy] at h
theorem toPys_noDict : ∀ (d : List Dt) (p : List PyData), toPys d = some p → noDicts p = true
  | [], p, h => by simp only [toPys, Option.some.injEq] at h; subst h; rfl
  | d :: ds, p, h => by
    simp only [toPys] at h
    split at h
    · rename_i a b ha hb
      cases h
      simp only [noDicts, toPy_noDict d a ha, toPys_noDict ds b hb, Bool.and_self]
    · cases h
end
mutual
def dpt : Dt → Option Nat
  | .non => some 0
  | .bl _ => some 0
  | .int _ => some 0
  | .str _ => some 0
  | .tup l => (dpts l).map (· + 1)
  | .lst l => (dpts l).map (· + 1)
  | .lsk l => (dpts l).map (· + 1)
  | .obj _ => none
  | .exc _ => none
def dpts : List Dt → Option Nat
  | [] => some 0
  | d :: ds => match dpt d, dpts ds with
    | some a, some b => some (max a b)
    | _, _ => none
end
mutual
theorem dpt_py : ∀ (d : Dt) (n : Nat), dpt d = some n → ∃ p, toPy d = some p ∧ p.depth = n
  | .non, n, h => by simp only [dpt, Option.some.injEq] at h; exact ⟨_, rfl, by simp only [PyData.depth]; exact h⟩
  | .bl _, n, h => by simp only [dpt, Option.some.injEq] at h; exact ⟨_, rfl, by simp only [PyData.depth]; exact h⟩
  | .int _, n, h => by simp only [dpt, Option.some.injEq] at h; exact ⟨_, rfl, by simp only [PyData.depth]; exact h⟩
  | .str _, n, h => by simp only [dpt, Option.some.injEq] at h; exact ⟨_, rfl, by simp only [PyData.depth]; exact h⟩
  | .tup l, n, h => by
    simp only [dpt, Option.map_eq_some_iff] at h
    obtain ⟨m, e1, e2⟩ := h
    obtain ⟨q, e3, e4⟩ := dpts_py l m e1
    exact ⟨.tuple q, by simp only [toPy, e3, Option.map_some], by simp only [PyData.depth]; omega⟩
  | .lst l, n, h => by
    simp only [dpt, Option.map_eq_some_iff] at h
    obtain ⟨m, e1, e2⟩ := h
    obtain ⟨q, e3, e4⟩ := dpts_py l m e1
    exact ⟨.list q, by simp only [toPy, e3, Option.map_some], by simp only [PyData.depth]; omega⟩
  | .lsk l, n, h => by
    simp only [dpt, Option.map_eq_some_iff] at h
    obtain ⟨m, e1, e2⟩ := h
    obtain ⟨q, e3, e4⟩ := dpts_py l m e1
    exact ⟨.list q, by simp only [toPy, e3, Option.map_some], by simp only [PyData.depth]; omega⟩
  | .obj _, n, h => by simp [dpt] at h
  | .exc _, n, h => by simp [dpt] at h
theorem dpts_py : ∀ (d : List Dt) (n : Nat), dpts d = some n → ∃ p, toPys d = some p ∧ PyData.depthAll p = n
  | [], n, h => by simp only [dpts, Option.some.injEq] at h; exact ⟨[], rfl, by simp only [PyData.depthAll]; exact h⟩
  | d :: ds, n, h => by
    simp only [dpts] at h
    split at h
    · rename_i a b ha hb
      cases h
      obtain ⟨p, e1, e2⟩ := dpt_py d a ha
      obtain ⟨q, e3, e4⟩ := dpts_py ds b hb
      exact ⟨p :: q, by simp only [toPys, e1, e3], by simp only [PyData.depthAll, e2, e4]⟩
    · cases h
end
theorem dEq_self {d : Dt} {n : Nat} {s : Sto} (h : dpt d = some n) (hn : n ≤ 64) : dEq d d s = .ok (.bl true) s ∧ dNe d d s = .ok (.bl false) s := by
  obtain ⟨p, e1, e2⟩ := dpt_py d n h
  have e3 : toPyS s d = some p := by
    cases d with
    | obj i => simp [dpt] at h
    | _ => exact e1
  have e4 : dEqB s d d = some true := by
    simp only [dEqB, e3, e2, if_pos (And.intro hn hn), eqv_self p (toPy_noDict d p e1)]
  constructor
  · simp only [dEq, e4, Option.map_some, ofO_some]
  · simp only [dNe, e4, Option.map_some, ofO_some, Bool.not_true]
end Pd
namespace Pd
open PySem L2
/-! ### comprehensions over written-out lists -/
theorem lc_map {α : Type} {tg : Tg} {ft : Tx} {fe : Ex} {ok : Sto → Prop} {env : En} {s : Sto} {f g : α → Dt} (hok : ok s) : ∀ {l : List α}, (∀ a ∈ l, ∃ env1, tg (f a) env = some env1 ∧ ft env1 s = .ok true s ∧ fe env1 s = .ok (g a) s) → lcGo tg ft fe ok (l.map f) env s = .ok (l.map g) s
  | [], _ => by simp only [List.map_nil, lcGo, if_pos hok]
  | d :: r, h => by
    obtain ⟨env1, h1, h2, h3⟩ := h d List.mem_cons_self
    have ih := lc_map (l := r) hok fun d hd => h d (List.mem_cons_of_mem _ hd)
    simp only [List.map_cons, lcGo, if_pos hok, h1, bndN, h2, h3, ih, if_true]
theorem lc_filter {α : Type} {tg : Tg} {ft : Tx} {fe : Ex} {ok : Sto → Prop} {env : En} {s : Sto} {f g : α → Dt} {p : α → Bool} (hok : ok s) : ∀ {l : List α}, (∀ a ∈ l, ∃ env1, tg (f a) env = some env1 ∧ ft env1 s = .ok (p a) s ∧ (p a = true → fe env1 s = .ok (g a) s)) → lcGo tg ft fe ok (l.map f) env s = .ok ((l.filter p).map g) s
  | [], _ => by simp only [List.map_nil, lcGo, if_pos hok, List.filter_nil]
  | d :: r, h => by
    obtain ⟨env1, h1, h2, h3⟩ := h d List.mem_cons_self
    have ih := lc_filter (l := r) hok fun d hd => h d (List.mem_cons_of_mem _ hd)
    cases e : p d with
    | true => simp only [List.map_cons, lcGo, if_pos hok, h1, bndN, h2, h3 e, ih, e, if_true, List.filter_cons]
    | false => simp only [List.map_cons, lcGo, if_pos hok, h1, bndN, h2, ih, e, Bool.false_eq_true, if_false, List.filter_cons]
/-- .. where the store changes: what holds between the turns -/
theorem lc_inv {tg : Tg} {fe : Ex} {ok : Sto → Prop} {env : En} (I : Nat → Sto → Prop) (P : Dt → Prop) (N : Nat) (hok : ∀ n s, I n s → ok s) : ∀ {l : List Dt} {n : Nat} {s : Sto}, n + l.length ≤ N → I n s →
    (∀ n s, ∀ d ∈ l, n < N → I n s → ∃ env1, tg d env = some env1 ∧ ∃ y s', fe env1 s = .ok y s' ∧ P y ∧ I (n + 1) s') → ∃ ys s', lcGo tg Pd.tYes fe ok l env s = .ok ys s' ∧ I (n + l.length) s' ∧ ys.length = l.length ∧ ∀ y ∈ ys, P y
  | [], n, s, _, hi, _ => ⟨[], s, by simp only [lcGo, if_pos (hok n s hi)], hi, rfl, fun _ h => nomatch h⟩
  | d :: r, n, s, hN, hi, h => by
    rw [List.length_cons] at hN
    obtain ⟨env1, h1, y, s1, h2, hp, h3⟩ := h n s d List.mem_cons_self (by omega) hi
    obtain ⟨ys, s2, h4, h5, h6, h7⟩ := lc_inv (tg := tg) (fe := fe) (ok := ok) (env := env) I P N hok (l := r) (n := n + 1) (by omega) h3 fun n s d hd => h n s d (List.mem_cons_of_mem _ hd)
    refine ⟨y :: ys, s2, ?_, ?_, by rw [List.length_cons, List.length_cons, h6], fun z hz => ?_⟩
    · simp only [lcGo, if_pos (hok n s hi), h1, bndN, ev_yes, if_true, h2, h4]
    · rw [List.length_cons]; rw [show n + (r.length + 1) = n + 1 + r.length by omega]; exact h5
    · rcases List.mem_cons.mp hz with e | hz
      · rw [e]; exact hp
      · exact h7 z hz
/-! ### texts -/
theorem mkS_beq (a b : List Nat) : (mkS a == mkS b) = (a == b) := by
  rw [Bool.eq_iff_iff]
  simp only [beq_iff_eq]
  exact ⟨fun h => by have := congrArg (fun x : Str => x.cps.toList) h; simpa using this, fun h => by rw [h]⟩
theorem mkS_eq (x : Str) : x = mkS x.cps.toList := (TL.mk_tl x).symm
theorem mkS_len (l : List Nat) : (mkS l).length = l.length := len_codes _
theorem dLen_mk {l : List Nat} {s : Sto} : dLen (.str (mkS l)) s = .ok (.int l.length) s := by rw [dLen_str, mkS_len]
theorem dEq_mk {a b : List Nat} {s : Sto} : dEq (.str (mkS a)) (.str (mkS b)) s = .ok (.bl (a == b)) s := by rw [dEq_str, mkS_beq]
theorem dNe_mk {a b : List Nat} {s : Sto} : dNe (.str (mkS a)) (.str (mkS b)) s = .ok (.bl (!(a == b))) s := by rw [dNe_str, mkS_beq]
theorem isStr_str {x : Str} {s : Sto} : isStr s (.str x) = true := rfl
theorem isLst_lst {l : List Dt} {s : Sto} : isLst s (.lst l) = true := rfl
theorem dSplit_mk {nw : List Dt → Sto → Out Dt} {a : List Nat} {s : Sto} : dSplit nw (.str (mkS a)) (.str (mkS [47])) s = nw ((splC 47 a).map fun l => .str (mkS l)) s := rfl
theorem signs_mk (l : List Nat) : signs (mkS l) = l.map fun c => .str (mkS [c]) := rfl
theorem dOrd_mk {c : Nat} {s : Sto} : dOrd (.str (mkS [c])) s = .ok (.int c) s := rfl
theorem dIn_sign {c : Nat} {z : List Nat} {s : Sto} : dIn (.str (mkS [c])) (.str (mkS z)) s = .ok (.bl (decide (c ∈ z))) s := rfl
theorem dNotIn_sign {c : Nat} {z : List Nat} {s : Sto} : dNotIn (.str (mkS [c])) (.str (mkS z)) s = .ok (.bl (!decide (c ∈ z))) s := rfl
theorem dIn_two {p a b : List Nat} {s : Sto} : dIn (.str (mkS p)) (.tup [.str (mkS a), .str (mkS b)]) s = .ok (.bl (a == p || b == p)) s := by
  have e : inB s (.str (mkS p)) (.tup [.str (mkS a), .str (mkS b)]) = some ((mkS a == mkS p) || ((mkS b == mkS p) || false)) := rfl
  simp only [dIn, e, Option.map_some, ofO_some, mkS_beq, Bool.or_false]
theorem dNotIn_two {p a b : List Nat} {s : Sto} : dNotIn (.str (mkS p)) (.tup [.str (mkS a), .str (mkS b)]) s = .ok (.bl (!(a == p || b == p))) s := by
  have e : inB s (.str (mkS p)) (.tup [.str (mkS a), .str (mkS b)]) = some ((mkS a == mkS p) || ((mkS b == mkS p) || false)) := rfl
  simp only [dNotIn, e, Option.map_some, ofO_some, mkS_beq, Bool.or_false]
theorem dNotIn_three {n a b c : Int} {s : Sto} : dNotIn (.int n) (.tup [.int a, .int b, .int c]) s = .ok (.bl (!(a == n || (b == n || c == n)))) s := by
  have e : inB s (.int n) (.tup [.int a, .int b, .int c]) = some ((a == n) || ((b == n) || ((c == n) || false))) := rfl
  simp only [dNotIn, e, Option.map_some, ofO_some, Bool.or_false]
theorem asB_map {α : Type} (q : α → Bool) : ∀ l : List α, asB (l.map fun a => .bl (q a)) = some (l.map q)
  | [] => rfl
  | a :: r => by simp only [List.map_cons, asB, asB_map q r, Option.map_some]
theorem dAll_map {α : Type} {q : α → Bool} {l : List α} {s : Sto} : dAll (.lst (l.map fun a => .bl (q a))) s = .ok (.bl (l.all q)) s := by
  simp only [dAll, asL_lst, Option.bind_some, asB_map, Option.map_some, ofO_some, List.all_map]
  rfl
theorem dAny_map {α : Type} {q : α → Bool} {l : List α} {s : Sto} : dAny (.lst (l.map fun a => .bl (q a))) s = .ok (.bl (l.any q)) s := by
  simp only [dAny, asL_lst, Option.bind_some, asB_map, Option.map_some, ofO_some, List.any_map]
  rfl
/-! slices -/
theorem cut_tail {α : Type} (x : α) (xs : List α) : cutD (x :: xs) (some 1) none = xs := by
  have h1 : HT.sIx (x :: xs).length 0 (some 1) = 1 := by
    have := HT.sIx_nat (x :: xs).length 0 1
    rw [show ((1 : Nat) : Int) = 1 from rfl] at this
    rw [this, List.length_cons]; omega
  unfold cutD
  rw [h1, HT.sIx_none, List.drop_one, List.tail_cons, List.length_cons, Nat.add_sub_cancel, List.take_length]
theorem cut_take {α : Type} (xs : List α) (k : Nat) : cutD xs none (some (k : Int)) = xs.take k := by
  unfold cutD
  rw [HT.sIx_none, HT.sIx_nat, List.drop_zero, Nat.sub_zero]
  by_cases h : k ≤ xs.length
  · rw [Nat.min_eq_left h]
  · rw [Nat.min_eq_right (by omega), List.take_length, List.take_of_length_le (by omega)]
theorem cut_one {α : Type} (xs : List α) : cutD xs none (some 1) = xs.take 1 := cut_take xs 1
theorem cut_init {α : Type} (xs : List α) : cutD xs none (some (-1)) = xs.dropLast := by
  unfold cutD
  have h1 : HT.sIx xs.length xs.length (some (-1)) = xs.length - 1 := by
    show (if (-1 : Int) < 0 then (-1 + (xs.length : Int)).toNat else min (-1 : Int).toNat xs.length) = _
    rw [if_pos (by decide)]
    omega
  rw [HT.sIx_none, h1, List.drop_zero, Nat.sub_zero, List.dropLast_eq_take]
theorem cutS_one (l : List Nat) : cutS (mkS l) none (some 1) = mkS (l.take 1) := by
  have e : cutS (mkS l) none (some 1) = mkS (cutD l none (some 1)) := by
    unfold cutS cutD
    rw [mkS_len]
  rw [e, cut_one]
theorem dSl_str {nw : List Dt → Sto → Out Dt} {z : Str} {lo hi : Option Int} {s : Sto} : dSl nw (.str z) lo hi s = .ok (.str (cutS z lo hi)) s := rfl
/-- a list of levels -/
abbrev lvs (ps : List (List Nat)) : List Dt := ps.map fun l => .str (mkS l)
theorem dEq_lst1 {p q : List Nat} {s : Sto} : dEq (.lst [.str (mkS p)]) (.lst [.str (mkS q)]) s = .ok (.bl (p == q)) s := by
  have e : dEq (.lst [.str (mkS p)]) (.lst [.str (mkS q)]) s = .ok (.bl ((mkS p == mkS q) && true)) s := by
    have : dEqB s (.lst [.str (mkS p)]) (.lst [.str (mkS q)]) = some ((mkS p == mkS q) && true) := by
      simp [dEqB, toPyS, toPy, toPys, PyData.depth, PyData.depthAll, PyData.eqv, PyData.eqvAll]
    simp only [dEq, this, Option.map_some, ofO_some]
  rw [e, mkS_beq, Bool.and_true]
theorem dEq_nil1 {q : List Nat} {s : Sto} : dEq (.lst []) (.lst [.str (mkS q)]) s = .ok (.bl false) s := by
  have : dEqB s (.lst []) (.lst [.str (mkS q)]) = some false := by
    simp [dEqB, toPyS, toPy, toPys, PyData.depth, PyData.depthAll, PyData.eqv, PyData.eqvAll]
  simp only [dEq, this, Option.map_some, ofO_some]
theorem str_obj {a b : List Nat} : dAdd nwF (.str (mkS a)) (.str (mkS b)) = fun s => if a.length + b.length ≤ 1000000 then .ok (.str (mkS (a ++ b))) s else .bad := by
  funext s
  have e : mkS a ++ mkS b = mkS (a ++ b) := TL.ext_tl (TL.tl_append _ _)
  simp only [dAdd, mkS_len, e]
theorem asS_lvs (ps : List (List Nat)) : asS (lvs ps) = some (ps.map mkS) := by
  have := asS_map (ps.map mkS)
  rw [List.map_map] at this
  exact this
theorem sum_mkS (ps : List (List Nat)) : ((ps.map mkS).map (·.length)).sum = (ps.map (·.length)).sum := by
  rw [List.map_map]
  congr 1
theorem dJoin_lst {ps : List (List Nat)} {s : Sto} {d : Dt} (hd : asQ s d = some (lvs ps)) (h : (ps.map (·.length)).sum + ps.length ≤ 1000000) : dJoin (.str (mkS [47])) d s = .ok (.str (mkS (TL.joinL [47] ps))) s := by
  simp only [dJoin, hd, Option.bind_some, asS_lvs]
  rw [sum_mkS, List.length_map, if_pos (by rw [mkS_len]; simpa using h), List.map_map]
  have : ((fun x : Str => x.cps.toList) ∘ mkS) = id := by funext l; rfl
  rw [this, List.map_id]
theorem splC_last_ne (l : List Nat) : ∃ p, (splC 47 l).getLast? = some p := by
  cases e : (splC 47 l).getLast? with
  | none => exact absurd (List.getLast?_eq_none_iff.mp e) (splC_ne 47 l)
  | some p => exact ⟨p, rfl⟩
@[simp] theorem ev_tryH {ih ie : Nat} {tb : List Nat} {fb : Sx} {env : En} {s : Sto} : sTryH ih ie tb fb env s = (match fb env s with | .exc c env' s' => if c ∈ tb ∧ ie < env'.length then .fl (.nx ((env'.set ih (some (.exc c))).set ie none)) s' else .bad | r => r) := rfl
@[simp] theorem ev_setI {fo fi fv : Ex} {env : En} {s : Sto} : sSetI fo fi fv env s = sBnd (fv env) env (fun v => sBnd (fo env) env fun x => sBnd (fi env) env fun y s => match putAt x y v s with | some s' => .fl (.nx env) s' | none => .bad) s := rfl
@[simp] theorem ev_raise {c : Nat} {env : En} {s : Sto} : sRaise c env s = .exc c env s := rfl
@[simp] theorem dIsx_exc {tb : List (Nat × Bool)} {c : Nat} {s : Sto} : dIsx tb (.exc c) s = ofO s ((tb.lookup c).map .bl) := rfl
end Pd
namespace Tx
open PySem L2 Pd
def top (i : Nat) : Stmt := PySem.Challenge.pw_tidinghall_k02_whole_covers.main.body.getD i (.Pass ⟨0, 0, 0, 0⟩)
def J : Cn
  | 0 => (Str.ofString "TidingError", [])
  | 1 => (Str.ofString "BadName", [])
  | 2 => (Str.ofString "BadPacket", [])
  | 3 => (Str.ofString "BadBytes", [])
  | 4 => (Str.ofString "BadLine", [])
  | 5 => (Str.ofString "BadText", [])
  | _ => (Str.ofString "", [])
abbrev s_is_level : Stmt := top 10
theorem sc_is_level : FnScope ["level", "sign"] ["level"] (defScope s_is_level) := ⟨rfl, rfl, rfl, by decide +kernel, rfl, by decide +kernel, by decide +kernel⟩
abbrev s_is_wide : Stmt := top 13
theorem sc_is_wide : FnScope ["level"] ["level"] (defScope s_is_wide) := ⟨rfl, rfl, rfl, by decide +kernel, rfl, by decide +kernel, by decide +kernel⟩
abbrev s_plain_levels : Stmt := top 18
theorem sc_plain_levels : FnScope ["wished", "level"] ["wished"] (defScope s_plain_levels) := ⟨rfl, rfl, rfl, by decide +kernel, rfl, by decide +kernel, by decide +kernel⟩
abbrev s_law_cell : Stmt := top 22
theorem sc_law_cell : FnScope ["script", "k"] ["script", "k"] (defScope s_law_cell) := ⟨rfl, rfl, rfl, by decide +kernel, rfl, by decide +kernel, by decide +kernel⟩
abbrev s_law_refusal : Stmt := top 26
theorem sc_law_refusal : FnScope ["held", "kinds"] ["held"] (defScope s_law_refusal) := ⟨rfl, rfl, rfl, by decide +kernel, rfl, by decide +kernel, by decide +kernel⟩
abbrev s_law_is_level : Stmt := top 29
theorem sc_law_is_level : FnScope ["level", "codes", "sign", "one"] ["level"] (defScope s_law_is_level) := ⟨rfl, rfl, rfl, by decide +kernel, rfl, by decide +kernel, by decide +kernel⟩
abbrev s_law_fits : Stmt := top 32
theorem sc_law_fits : FnScope ["wish", "name", "wished", "levels", "k"] ["wish", "name"] (defScope s_law_fits) := ⟨rfl, rfl, rfl, by decide +kernel, rfl, by decide +kernel, by decide +kernel⟩
abbrev s_law_names : Stmt := top 34
theorem sc_law_names : FnScope ["found", "rows", "k", "longer", "row", "level", "name"] [] (defScope s_law_names) := ⟨rfl, rfl, rfl, by decide +kernel, rfl, by decide +kernel, by decide +kernel⟩
abbrev s_look_name : Stmt := top 11
theorem sc_look_name : FnScope ["name", "levels", "level"] ["name"] (defScope s_look_name) := ⟨rfl, rfl, rfl, by decide +kernel, rfl, by decide +kernel, by decide +kernel⟩
abbrev s_look_wish : Stmt := top 12
theorem sc_look_wish : FnScope ["wish", "levels", "plain", "level"] ["wish"] (defScope s_look_wish) := ⟨rfl, rfl, rfl, by decide +kernel, rfl, by decide +kernel, by decide +kernel⟩
abbrev s_law_mix : Stmt := top 23
theorem sc_law_mix : FnScope ["script", "k", "number"] ["script", "k"] (defScope s_law_mix) := ⟨rfl, rfl, rfl, by decide +kernel, rfl, by decide +kernel, by decide +kernel⟩
abbrev s_law_is_name : Stmt := top 30
theorem sc_law_is_name : FnScope ["name", "levels", "level"] ["name"] (defScope s_law_is_name) := ⟨rfl, rfl, rfl, by decide +kernel, rfl, by decide +kernel, by decide +kernel⟩
abbrev s_law_is_wish : Stmt := top 31
theorem sc_law_is_wish : FnScope ["wish", "levels", "level"] ["wish"] (defScope s_law_is_wish) := ⟨rfl, rfl, rfl, by decide +kernel, rfl, by decide +kernel, by decide +kernel⟩
abbrev s_law_draw : Stmt := top 24
theorem sc_law_draw : FnScope ["script", "town", "many"] ["script", "town", "many"] (defScope s_law_draw) := ⟨rfl, rfl, rfl, by decide +kernel, rfl, by decide +kernel, by decide +kernel⟩
abbrev s_law_pick : Stmt := top 25
theorem sc_law_pick : FnScope ["script", "town", "some"] ["script", "town", "some"] (defScope s_law_pick) := ⟨rfl, rfl, rfl, by decide +kernel, rfl, by decide +kernel, by decide +kernel⟩
abbrev s_law_signs : Stmt := top 27
theorem sc_law_signs : FnScope ["script", "town", "many", "also", "signs", "found", "k", "sign"] ["script", "town", "many", "also"] (defScope s_law_signs) := ⟨rfl, rfl, rfl, by decide +kernel, rfl, by decide +kernel, by decide +kernel⟩
abbrev s_law_small : Stmt := top 35
theorem sc_law_small : FnScope ["script", "town", "levels", "k"] ["script", "town"] (defScope s_law_small) := ⟨rfl, rfl, rfl, by decide +kernel, rfl, by decide +kernel, by decide +kernel⟩
abbrev s_law_level : Stmt := top 28
theorem sc_law_level : FnScope ["script", "town", "way"] ["script", "town"] (defScope s_law_level) := ⟨rfl, rfl, rfl, by decide +kernel, rfl, by decide +kernel, by decide +kernel⟩
abbrev s_law_great : Stmt := top 37
theorem sc_law_great : FnScope ["script", "town", "levels", "k", "level"] ["script", "town"] (defScope s_law_great) := ⟨rfl, rfl, rfl, by decide +kernel, rfl, by decide +kernel, by decide +kernel⟩
abbrev s_fits_levels : Stmt := top 14
theorem sc_fits_levels : FnScope ["wished", "levels"] ["wished", "levels"] (defScope s_fits_levels) := ⟨rfl, rfl, rfl, by decide +kernel, rfl, by decide +kernel, by decide +kernel⟩
abbrev s_covers_levels : Stmt := top 16
theorem sc_covers_levels : FnScope ["wished", "others"] ["wished", "others"] (defScope s_covers_levels) := ⟨rfl, rfl, rfl, by decide +kernel, rfl, by decide +kernel, by decide +kernel⟩
abbrev s_fits : Stmt := top 15
theorem sc_fits : FnScope ["wish", "name", "wished"] ["wish", "name"] (defScope s_fits) := ⟨rfl, rfl, rfl, by decide +kernel, rfl, by decide +kernel, by decide +kernel⟩
abbrev s_covers : Stmt := top 17
theorem sc_covers : FnScope ["wish", "other", "wished", "others"] ["wish", "other"] (defScope s_covers) := ⟨rfl, rfl, rfl, by decide +kernel, rfl, by decide +kernel, by decide +kernel⟩
abbrev s_both_levels : Stmt := top 19
theorem sc_both_levels : FnScope ["wished", "others", "level", "rest"] ["wished", "others"] (defScope s_both_levels) := ⟨rfl, rfl, rfl, by decide +kernel, rfl, by decide +kernel, by decide +kernel⟩
abbrev s_meeting : Stmt := top 20
theorem sc_meeting : FnScope ["wish", "other", "wished", "others", "found"] ["wish", "other"] (defScope s_meeting) := ⟨rfl, rfl, rfl, by decide +kernel, rfl, by decide +kernel, by decide +kernel⟩
abbrev s_law_told : Stmt := top 33
theorem sc_law_told : FnScope ["way", "wish", "other", "held", "found", "e"] ["way", "wish", "other"] (defScope s_law_told) := ⟨rfl, rfl, rfl, by decide +kernel, rfl, by decide +kernel, by decide +kernel⟩
abbrev s_law_good : Stmt := top 36
theorem sc_law_good : FnScope ["wish", "other", "names", "mine", "its", "due", "found", "name", "k"] ["wish", "other", "names"] (defScope s_law_good) := ⟨rfl, rfl, rfl, by decide +kernel, rfl, by decide +kernel, by decide +kernel⟩
abbrev s_law : Stmt := top 38
theorem sc_law : FnScope ["script", "town", "known", "wish", "wished", "others", "other", "name", "met", "level", "way"] ["script"] (defScope s_law) := ⟨rfl, rfl, rfl, by decide +kernel, rfl, by decide +kernel, by decide +kernel⟩
structure Ad where
  (f_is_level f_is_wide f_plain_levels f_law_cell f_law_refusal f_law_is_level f_law_fits f_law_names f_look_name f_look_wish f_law_mix f_law_is_name f_law_is_wish f_law_draw f_law_pick f_law_signs f_law_small f_law_level f_law_great f_fits_levels f_covers_levels f_fits f_covers f_both_levels f_meeting f_law_told f_law_good f_law C_TidingError C_BadName C_BadPacket C_BadBytes C_BadLine C_BadText : Addr)
  (t_MOST_LEVELS t_MOST_SIGNS : Tok)
structure Txt (K : PySem.W.Frag) (mg : Str → Option Value) (A : Ad) : Prop where
  d_is_level : ∃ fd, Fun K "is_level" "is_level" s_is_level A.f_is_level fd ∧ Binds K fd ["level"] []
  g_is_level : mg "is_level" = some (.ref A.f_is_level)
  k_is_level : PySem.W.keepIn K (.ref A.f_is_level) = true
  d_is_wide : ∃ fd, Fun K "is_wide" "is_wide" s_is_wide A.f_is_wide fd ∧ Binds K fd ["level"] []
  g_is_wide : mg "is_wide" = some (.ref A.f_is_wide)
  k_is_wide : PySem.W.keepIn K (.ref A.f_is_wide) = true
  d_plain_levels : ∃ fd, Fun K "plain_levels" "plain_levels" s_plain_levels A.f_plain_levels fd ∧ Binds K fd ["wished"] []
  g_plain_levels : mg "plain_levels" = some (.ref A.f_plain_levels)
  k_plain_levels : PySem.W.keepIn K (.ref A.f_plain_levels) = true
  d_law_cell : ∃ fd, Fun K "_law_cell" "_law_cell" s_law_cell A.f_law_cell fd ∧ Binds K fd ["script", "k"] []
  g_law_cell : mg "_law_cell" = some (.ref A.f_law_cell)
  k_law_cell : PySem.W.keepIn K (.ref A.f_law_cell) = true
  d_law_refusal : ∃ fd, Fun K "_law_refusal" "_law_refusal" s_law_refusal A.f_law_refusal fd ∧ Binds K fd ["held"] []
  g_law_refusal : mg "_law_refusal" = some (.ref A.f_law_refusal)
  k_law_refusal : PySem.W.keepIn K (.ref A.f_law_refusal) = true
  d_law_is_level : ∃ fd, Fun K "_law_is_level" "_law_is_level" s_law_is_level A.f_law_is_level fd ∧ Binds K fd ["level"] []
  g_law_is_level : mg "_law_is_level" = some (.ref A.f_law_is_level)
  k_law_is_level : PySem.W.keepIn K (.ref A.f_law_is_level) = true
  d_law_fits : ∃ fd, Fun K "_law_fits" "_law_fits" s_law_fits A.f_law_fits fd ∧ Binds K fd ["wish", "name"] []
  g_law_fits : mg "_law_fits" = some (.ref A.f_law_fits)
  k_law_fits : PySem.W.keepIn K (.ref A.f_law_fits) = true
  d_law_names : ∃ fd, Fun K "_law_names" "_law_names" s_law_names A.f_law_names fd ∧ Binds K fd [] []
  g_law_names : mg "_law_names" = some (.ref A.f_law_names)
  k_law_names : PySem.W.keepIn K (.ref A.f_law_names) = true
  d_look_name : ∃ fd, Fun K "look_name" "look_name" s_look_name A.f_look_name fd ∧ Binds K fd ["name"] []
  g_look_name : mg "look_name" = some (.ref A.f_look_name)
  k_look_name : PySem.W.keepIn K (.ref A.f_look_name) = true
  d_look_wish : ∃ fd, Fun K "look_wish" "look_wish" s_look_wish A.f_look_wish fd ∧ Binds K fd ["wish"] []
  g_look_wish : mg "look_wish" = some (.ref A.f_look_wish)
  k_look_wish : PySem.W.keepIn K (.ref A.f_look_wish) = true
  d_law_mix : ∃ fd, Fun K "_law_mix" "_law_mix" s_law_mix A.f_law_mix fd ∧ Binds K fd ["script", "k"] []
  g_law_mix : mg "_law_mix" = some (.ref A.f_law_mix)
  k_law_mix : PySem.W.keepIn K (.ref A.f_law_mix) = true
  d_law_is_name : ∃ fd, Fun K "_law_is_name" "_law_is_name" s_law_is_name A.f_law_is_name fd ∧ Binds K fd ["name"] []
  g_law_is_name : mg "_law_is_name" = some (.ref A.f_law_is_name)
  k_law_is_name : PySem.W.keepIn K (.ref A.f_law_is_name) = true
  d_law_is_wish : ∃ fd, Fun K "_law_is_wish" "_law_is_wish" s_law_is_wish A.f_law_is_wish fd ∧ Binds K fd ["wish"] []
  g_law_is_wish : mg "_law_is_wish" = some (.ref A.f_law_is_wish)
  k_law_is_wish : PySem.W.keepIn K (.ref A.f_law_is_wish) = true
  d_law_draw : ∃ fd, Fun K "_law_draw" "_law_draw" s_law_draw A.f_law_draw fd ∧ Binds K fd ["script", "town", "many"] []
  g_law_draw : mg "_law_draw" = some (.ref A.f_law_draw)
  k_law_draw : PySem.W.keepIn K (.ref A.f_law_draw) = true
  d_law_pick : ∃ fd, Fun K "_law_pick" "_law_pick" s_law_pick A.f_law_pick fd ∧ Binds K fd ["script", "town", "some"] []
  g_law_pick : mg "_law_pick" = some (.ref A.f_law_pick)
  k_law_pick : PySem.W.keepIn K (.ref A.f_law_pick) = true
  d_law_signs : ∃ fd, Fun K "_law_signs" "_law_signs" s_law_signs A.f_law_signs fd ∧ Binds K fd ["script", "town", "many", "also"] []
  g_law_signs : mg "_law_signs" = some (.ref A.f_law_signs)
  k_law_signs : PySem.W.keepIn K (.ref A.f_law_signs) = true
  d_law_small : ∃ fd, Fun K "_law_small" "_law_small" s_law_small A.f_law_small fd ∧ Binds K fd ["script", "town"] []
  g_law_small : mg "_law_small" = some (.ref A.f_law_small)
  k_law_small : PySem.W.keepIn K (.ref A.f_law_small) = true
  d_law_level : ∃ fd, Fun K "_law_level" "_law_level" s_law_level A.f_law_level fd ∧ Binds K fd ["script", "town"] []
  g_law_level : mg "_law_level" = some (.ref A.f_law_level)
  k_law_level : PySem.W.keepIn K (.ref A.f_law_level) = true
  d_law_great : ∃ fd, Fun K "_law_great" "_law_great" s_law_great A.f_law_great fd ∧ Binds K fd ["script", "town"] []
  g_law_great : mg "_law_great" = some (.ref A.f_law_great)
  k_law_great : PySem.W.keepIn K (.ref A.f_law_great) = true
  d_fits_levels : ∃ fd, Fun K "fits_levels" "fits_levels" s_fits_levels A.f_fits_levels fd ∧ Binds K fd ["wished", "levels"] []
  g_fits_levels : mg "fits_levels" = some (.ref A.f_fits_levels)
  k_fits_levels : PySem.W.keepIn K (.ref A.f_fits_levels) = true
  d_covers_levels : ∃ fd, Fun K "covers_levels" "covers_levels" s_covers_levels A.f_covers_levels fd ∧ Binds K fd ["wished", "others"] []
  g_covers_levels : mg "covers_levels" = some (.ref A.f_covers_levels)
  k_covers_levels : PySem.W.keepIn K (.ref A.f_covers_levels) = true
  d_fits : ∃ fd, Fun K "fits" "fits" s_fits A.f_fits fd ∧ Binds K fd ["wish", "name"] []
  g_fits : mg "fits" = some (.ref A.f_fits)
  k_fits : PySem.W.keepIn K (.ref A.f_fits) = true
  d_covers : ∃ fd, Fun K "covers" "covers" s_covers A.f_covers fd ∧ Binds K fd ["wish", "other"] []
  g_covers : mg "covers" = some (.ref A.f_covers)
  k_covers : PySem.W.keepIn K (.ref A.f_covers) = true
  d_both_levels : ∃ fd, Fun K "both_levels" "both_levels" s_both_levels A.f_both_levels fd ∧ Binds K fd ["wished", "others"] []
  g_both_levels : mg "both_levels" = some (.ref A.f_both_levels)
  k_both_levels : PySem.W.keepIn K (.ref A.f_both_levels) = true
  d_meeting : ∃ fd, Fun K "meeting" "meeting" s_meeting A.f_meeting fd ∧ Binds K fd ["wish", "other"] []
  g_meeting : mg "meeting" = some (.ref A.f_meeting)
  k_meeting : PySem.W.keepIn K (.ref A.f_meeting) = true
  d_law_told : ∃ fd, Fun K "_law_told" "_law_told" s_law_told A.f_law_told fd ∧ Binds K fd ["way", "wish", "other"] []
  g_law_told : mg "_law_told" = some (.ref A.f_law_told)
  k_law_told : PySem.W.keepIn K (.ref A.f_law_told) = true
  d_law_good : ∃ fd, Fun K "_law_good" "_law_good" s_law_good A.f_law_good fd ∧ Binds K fd ["wish", "other", "names"] []
  g_law_good : mg "_law_good" = some (.ref A.f_law_good)
  k_law_good : PySem.W.keepIn K (.ref A.f_law_good) = true
  d_law : ∃ fd, Fun K "law" "law" s_law A.f_law fd ∧ Binds K fd ["script"] []
  g_law : mg "law" = some (.ref A.f_law)
  k_law : PySem.W.keepIn K (.ref A.f_law) = true
  x_TidingError : PySem.W.excIn K A.C_TidingError [.type "ValueError", .type "Exception", .type "BaseException", .type "object"] "ValueError.__new__" = true
  gc_TidingError : mg "TidingError" = some (.ref A.C_TidingError)
  kc_TidingError : PySem.W.keepIn K (.ref A.C_TidingError) = true
  b_TidingError : PySem.W.subIn K (.ref A.C_TidingError) (.type "BaseException") = some true
  t_TidingError : PySem.W.typeIn K (.ref A.C_TidingError) = some (.type "type")
  x_BadName : PySem.W.excIn K A.C_BadName [.type "ValueError", .type "Exception", .type "BaseException", .type "object"] "ValueError.__new__" = true
  gc_BadName : mg "BadName" = some (.ref A.C_BadName)
  kc_BadName : PySem.W.keepIn K (.ref A.C_BadName) = true
  b_BadName : PySem.W.subIn K (.ref A.C_BadName) (.type "BaseException") = some true
  t_BadName : PySem.W.typeIn K (.ref A.C_BadName) = some (.type "type")
  x_BadPacket : PySem.W.excIn K A.C_BadPacket [.type "ValueError", .type "Exception", .type "BaseException", .type "object"] "ValueError.__new__" = true
  gc_BadPacket : mg "BadPacket" = some (.ref A.C_BadPacket)
  kc_BadPacket : PySem.W.keepIn K (.ref A.C_BadPacket) = true
  b_BadPacket : PySem.W.subIn K (.ref A.C_BadPacket) (.type "BaseException") = some true
  t_BadPacket : PySem.W.typeIn K (.ref A.C_BadPacket) = some (.type "type")
  x_BadBytes : PySem.W.excIn K A.C_BadBytes [.type "ValueError", .type "Exception", .type "BaseException", .type "object"] "ValueError.__new__" = true
  gc_BadBytes : mg "BadBytes" = some (.ref A.C_BadBytes)
  kc_BadBytes : PySem.W.keepIn K (.ref A.C_BadBytes) = true
  b_BadBytes : PySem.W.subIn K (.ref A.C_BadBytes) (.type "BaseException") = some true
  t_BadBytes : PySem.W.typeIn K (.ref A.C_BadBytes) = some (.type "type")
  x_BadLine : PySem.W.excIn K A.C_BadLine [.type "ValueError", .type "Exception", .type "BaseException", .type "object"] "ValueError.__new__" = true
  gc_BadLine : mg "BadLine" = some (.ref A.C_BadLine)
  kc_BadLine : PySem.W.keepIn K (.ref A.C_BadLine) = true
  b_BadLine : PySem.W.subIn K (.ref A.C_BadLine) (.type "BaseException") = some true
  t_BadLine : PySem.W.typeIn K (.ref A.C_BadLine) = some (.type "type")
  x_BadText : PySem.W.excIn K A.C_BadText [.type "ValueError", .type "Exception", .type "BaseException", .type "object"] "ValueError.__new__" = true
  gc_BadText : mg "BadText" = some (.ref A.C_BadText)
  kc_BadText : PySem.W.keepIn K (.ref A.C_BadText) = true
  b_BadText : PySem.W.subIn K (.ref A.C_BadText) (.type "BaseException") = some true
  t_BadText : PySem.W.typeIn K (.ref A.C_BadText) = some (.type "type")
  xm_TidingError : XmF J K mg [0, 1, 2, 3, 4, 5] (.ref A.C_TidingError)
  ix_BadName : IsxF J K mg [(0, false), (1, true), (2, false), (3, false), (4, false), (5, false)] (.ref A.C_BadName)
  ix_BadPacket : IsxF J K mg [(0, false), (1, false), (2, true), (3, false), (4, false), (5, false)] (.ref A.C_BadPacket)
  ix_BadBytes : IsxF J K mg [(0, false), (1, false), (2, false), (3, true), (4, false), (5, false)] (.ref A.C_BadBytes)
  ix_BadLine : IsxF J K mg [(0, false), (1, false), (2, false), (3, false), (4, true), (5, false)] (.ref A.C_BadLine)
  ix_BadText : IsxF J K mg [(0, false), (1, false), (2, false), (3, false), (4, false), (5, true)] (.ref A.C_BadText)
  ix_ValueError : IsxF J K mg [(0, true), (1, true), (2, true), (3, true), (4, true), (5, true)] (.type "ValueError")
  n_ValueError : mg "ValueError" = none
  n_all : mg "all" = none
  n_any : mg "any" = none
  n_bool : mg "bool" = none
  n_isinstance : mg "isinstance" = none
  n_len : mg "len" = none
  n_ord : mg "ord" = none
  n_range : mg "range" = none
  c_MOST_LEVELS : mg "MOST_LEVELS" = some (.int 8 A.t_MOST_LEVELS)
  c_MOST_SIGNS : mg "MOST_SIGNS" = some (.int 12 A.t_MOST_SIGNS)
/-! ### what each def means -/
noncomputable def b_is_level : Sx := sSeq (sIf (tBl (eOp dGt (eUn dLen (eVar 0)) (eC (.int 12)))) (sRet (eC (.bl false))) (sNext)) (sRet (eUn dAll (eLc nwF [1] (iSeq (eVar 0)) (gN 1) (Pd.tYes) (eAnd (eChain dLe dLt (eC (.int 32)) (eUn dOrd (eVar 1)) (eC (.int 127))) (eAnd (eOp dNe (eUn dOrd (eVar 1)) (eC (.int 37))) (eOp dNotIn (eVar 1) (eC (.str (Str.ofString "+#/")))))))))
noncomputable def m_is_level : Fn := fnOf 2 b_is_level
noncomputable def b_is_wide : Sx := sRet (eOp dIn (eVar 0) (eTup [eC (.str (Str.ofString "+")), eC (.str (Str.ofString "#"))]))
noncomputable def m_is_wide : Fn := fnOf 1 b_is_wide
noncomputable def b_plain_levels : Sx := sRet (eLc nwF [1] (iSeq (eVar 0)) (gN 1) (tBl (eOp dNe (eVar 1) (eC (.str (Str.ofString "#"))))) (eIf (tBl (eOp dEq (eVar 1) (eC (.str (Str.ofString "+"))))) (eC (.str (Str.ofString "a"))) (eVar 1)))
noncomputable def m_plain_levels : Fn := fnOf 2 b_plain_levels
noncomputable def b_law_cell : Sx := sSeq (sIf (tTru (eVar 0)) (sRet (eOp dIx (eVar 0) (eOp dMod (eVar 1) (eUn dLen (eVar 0))))) (sNext)) (sRet (eC (.int 0)))
noncomputable def m_law_cell : Fn := fnOf 2 b_law_cell
noncomputable def b_law_refusal : Sx := sSeq (sIf (tBl (eUn dIsN (eVar 0))) (sRet (eTup [eC (.str (Str.ofString "ok"))])) (sNext)) (sSeq (sAsg (eLst nwF [eUn (dIsx [(0, false), (1, true), (2, false), (3, false), (4, false), (5, false)]) (eVar 0), eUn (dIsx [(0, false), (1, false), (2, true), (3, false), (4, false), (5, false)]) (eVar 0), eUn (dIsx [(0, false), (1, false), (2, false), (3, true), (4, false), (5, false)]) (eVar 0)]) (gN 1)) (sSeq (sAsg (eOp (dAdd nwF) (eVar 1) (eLst nwF [eUn (dIsx [(0, false), (1, false), (2, false), (3, false), (4, true), (5, false)]) (eVar 0), eUn (dIsx [(0, false), (1, false), (2, false), (3, false), (4, false), (5, true)]) (eVar 0)])) (gN 1)) (sSeq (sIf (tOr (tBl (eOp dNe (eBm1 isLst dCount (eVar 1) (eC (.bl true))) (eC (.int 1)))) (tNot (tTru (eUn (dIsx [(0, true), (1, true), (2, true), (3, true), (4, true), (5, true)]) (eVar 0))))) (sRet (eTup [eC (.str (Str.ofString "wrong"))])) (sNext)) (sRet (eTup [eC (.str (Str.ofString "refused")), eOp dIx (eLst nwF [eC (.str (Str.ofString "name")), eC (.str (Str.ofString "packet")), eC (.str (Str.ofString "bytes")), eC (.str (Str.ofString "line")), eC (.str (Str.ofString "text"))]) (eBm1 isLst dIndex (eVar 1) (eC (.bl true)))])))))
noncomputable def m_law_refusal : Fn := fnOf 2 b_law_refusal
noncomputable def b_law_is_level : Sx := sSeq (sAsg (eLc nwF [2] (iSeq (eVar 0)) (gN 2) (Pd.tYes) (eUn dOrd (eVar 2))) (gN 1)) (sRet (eAnd (eOp dLt (eUn dLen (eVar 0)) (eC (.int 13))) (eUn dAll (eLc nwF [3] (iSeq (eVar 1)) (gN 3) (Pd.tYes) (eAnd (eChain dLe dLt (eC (.int 32)) (eVar 3) (eC (.int 127))) (eOp dNotIn (eVar 3) (eTup [eC (.int 35), eC (.int 37), eC (.int 43)])))))))
noncomputable def m_law_is_level : Fn := fnOf 4 b_law_is_level
noncomputable def b_law_fits : Sx := sSeq (sAsg (eBm1 isStr (dSplit nwF) (eVar 0) (eC (.str (Str.ofString "/")))) (gN 2)) (sSeq (sAsg (eBm1 isStr (dSplit nwF) (eVar 1) (eC (.str (Str.ofString "/")))) (gN 3)) (sSeq (sIf (tAnd (tBl (eOp dIn (eOp dIx (eVar 2) (eC (.int 0))) (eTup [eC (.str (Str.ofString "+")), eC (.str (Str.ofString "#"))]))) (tBl (eOp dEq (eSl nwF (eOp dIx (eVar 3) (eC (.int 0))) none (some (eC (.int 1)))) (eC (.str (Str.ofString "$")))))) (sRet (eC (.bl false))) (sNext)) (sSeq (sIf (tBl (eOp dEq (eOp dIx (eVar 2) (eUn dNeg (eC (.int 1)))) (eC (.str (Str.ofString "#"))))) (sSeq (sAsg (eSl nwF (eVar 2) none (some (eUn dNeg (eC (.int 1))))) (gN 2)) (sSeq (sIf (tBl (eOp dLt (eUn dLen (eVar 3)) (eUn dLen (eVar 2)))) (sRet (eC (.bl false))) (sNext)) (sAsg (eSl nwF (eVar 3) none (some (eUn dLen (eVar 2)))) (gN 3)))) (sNext)) (sSeq (sIf (tBl (eOp dNe (eUn dLen (eVar 2)) (eUn dLen (eVar 3)))) (sRet (eC (.bl false))) (sNext)) (sRet (eUn dAll (eLc nwF [4] (iRange (eUn dLen (eVar 2))) (gN 4) (Pd.tYes) (eOp dIn (eOp dIx (eVar 2) (eVar 4)) (eTup [eC (.str (Str.ofString "+")), eOp dIx (eVar 3) (eVar 4)])))))))))
noncomputable def m_law_fits : Fn := fnOf 5 b_law_fits
noncomputable def l_law_names_1 : Sx := sAsg (eOp (dAdd nwF) (eVar 3) (eLc nwF [5] (iSeq (eLst nwF [eC (.str (Str.ofString "a")), eC (.str (Str.ofString "b")), eC (.str (Str.ofString "c")), eC (.str (Str.ofString "")), eC (.str (Str.ofString "$s"))])) (gN 5) (Pd.tYes) (eOp (dAdd nwF) (eOp (dAdd nwF) (eVar 4) (eIf (tBl (eOp dGt (eVar 2) (eC (.int 0)))) (eC (.str (Str.ofString "/"))) (eC (.str (Str.ofString ""))))) (eVar 5)))) (gN 3)
noncomputable def w_law_names_1 : Sx := sAsg (eLst nwF []) (gN 3)
noncomputable def w_law_names_2 : Sx := sFor (iSeq (eVar 1)) (gN 4) (l_law_names_1)
noncomputable def w_law_names_3 : Sx := sAsg (eVar 3) (gN 1)
noncomputable def w_law_names_4 : Sx := sAsg (eOp (dAdd nwF) (eVar 0) (eVar 1)) (gN 0)
noncomputable def l_law_names_2 : Sx := sSeq w_law_names_1 (sSeq w_law_names_2 (sSeq w_law_names_3 (w_law_names_4)))
noncomputable def u_law_names_1 : Sx := sAsg (eLst nwF []) (gN 0)
noncomputable def u_law_names_2 : Sx := sAsg (eLst nwF [eC (.str (Str.ofString ""))]) (gN 1)
noncomputable def u_law_names_3 : Sx := sFor (iRange (eC (.int 4))) (gN 2) (l_law_names_2)
noncomputable def u_law_names_4 : Sx := sRet (eLc nwF [6] (iSeq (eVar 0)) (gN 6) (tBl (eOp dNe (eVar 6) (eC (.str (Str.ofString ""))))) (eVar 6))
noncomputable def b_law_names : Sx := sSeq u_law_names_1 (sSeq u_law_names_2 (sSeq u_law_names_3 (u_law_names_4)))
noncomputable def m_law_names : Fn := fnOf 7 b_law_names
noncomputable def b_look_name : Sx := sSeq (sAsg (eBm1 isStr (dSplit nwF) (eVar 0) (eC (.str (Str.ofString "/")))) (gN 1)) (sIf (tOr (tBl (eOp dEq (eVar 0) (eC (.str (Str.ofString ""))))) (tOr (tBl (eOp dGt (eUn dLen (eVar 1)) (eC (.int 8)))) (tNot (tTru (eUn dAll (eLc nwF [2] (iSeq (eVar 1)) (gN 2) (Pd.tYes) (eCall m_is_level [eVar 2]))))))) (sRaise 1) (sNext))
noncomputable def m_look_name : Fn := fnOf 3 b_look_name
noncomputable def b_look_wish : Sx := sSeq (sAsg (eBm1 isStr (dSplit nwF) (eVar 0) (eC (.str (Str.ofString "/")))) (gN 1)) (sSeq (sAsg (eIf (tBl (eOp dEq (eOp dIx (eVar 1) (eUn dNeg (eC (.int 1)))) (eC (.str (Str.ofString "#"))))) (eSl nwF (eVar 1) none (some (eUn dNeg (eC (.int 1))))) (eVar 1)) (gN 2)) (sIf (tOr (tBl (eOp dEq (eVar 0) (eC (.str (Str.ofString ""))))) (tOr (tBl (eOp dGt (eUn dLen (eVar 1)) (eC (.int 8)))) (tNot (tTru (eUn dAll (eLc nwF [3] (iSeq (eVar 2)) (gN 3) (Pd.tYes) (eOr (eOp dEq (eVar 3) (eC (.str (Str.ofString "+")))) (eCall m_is_level [eVar 3])))))))) (sRaise 1) (sNext)))
noncomputable def m_look_wish : Fn := fnOf 4 b_look_wish
noncomputable def b_law_mix : Sx := sSeq (sAsg (eOp dMod (eOp (dAdd nwF) (eCall m_law_cell [eVar 0, eVar 1]) (eOp dMul (eC (.int 104729)) (eOp (dAdd nwF) (eVar 1) (eC (.int 1))))) (eC (.int 4294967291))) (gN 2)) (sSeq (sAsg (eOp dMod (eOp dPow (eVar 2) (eC (.int 5))) (eC (.int 4294967279))) (gN 2)) (sRet (eOp dMod (eOp (dAdd nwF) (eOp dMul (eOp dFdv (eVar 2) (eC (.int 64))) (eC (.int 69621))) (eVar 2)) (eC (.int 4294967231)))))
noncomputable def m_law_mix : Fn := fnOf 3 b_law_mix
noncomputable def b_law_is_name : Sx := sSeq (sAsg (eBm1 isStr (dSplit nwF) (eVar 0) (eC (.str (Str.ofString "/")))) (gN 1)) (sRet (eAnd (eOp dNe (eVar 0) (eC (.str (Str.ofString "")))) (eAnd (eOp dLt (eUn dLen (eVar 1)) (eC (.int 9))) (eUn dAll (eLc nwF [2] (iSeq (eVar 1)) (gN 2) (Pd.tYes) (eCall m_law_is_level [eVar 2]))))))
noncomputable def m_law_is_name : Fn := fnOf 3 b_law_is_name
noncomputable def b_law_is_wish : Sx := sSeq (sAsg (eBm1 isStr (dSplit nwM) (eVar 0) (eC (.str (Str.ofString "/")))) (gN 1)) (sSeq (sIf (tBl (eOp dEq (eOp dIx (eVar 1) (eUn dNeg (eC (.int 1)))) (eC (.str (Str.ofString "#"))))) (sSetI (eVar 1) (eUn dNeg (eC (.int 1))) (eC (.str (Str.ofString "a")))) (sNext)) (sRet (eAnd (eOp dNe (eVar 0) (eC (.str (Str.ofString "")))) (eAnd (eOp dLt (eUn dLen (eVar 1)) (eC (.int 9))) (eUn dAll (eLc nwF [2] (iSeq (eVar 1)) (gN 2) (Pd.tYes) (eOr (eOp dEq (eVar 2) (eC (.str (Str.ofString "+")))) (eCall m_law_is_level [eVar 2]))))))))
noncomputable def m_law_is_wish : Fn := fnOf 3 b_law_is_wish
noncomputable def b_law_draw : Sx := sSeq (sExpr (eBm1 isLst dApp (eVar 1) (eC (.int 0)))) (sRet (eOp dMod (eOp dFdv (eCall m_law_mix [eVar 0, eUn dLen (eVar 1)]) (eC (.int 8))) (eVar 2)))
noncomputable def m_law_draw : Fn := fnOf 3 b_law_draw
noncomputable def b_law_pick : Sx := sRet (eOp dIx (eVar 2) (eCall m_law_draw [eVar 0, eVar 1, eUn dLen (eVar 2)]))
noncomputable def m_law_pick : Fn := fnOf 3 b_law_pick
noncomputable def l_law_signs_1 : Sx := sSeq (sAsg (eCall m_law_pick [eVar 0, eVar 1, eVar 4]) (gN 7)) (sAsg (eOp (dAdd nwF) (eVar 5) (eIf (tAnd (tBl (eOp dIn (eVar 7) (eC (.str (Str.ofString "+#/"))))) (tNot (tTru (eVar 3)))) (eC (.str (Str.ofString "x"))) (eVar 7))) (gN 5))
noncomputable def b_law_signs : Sx := sSeq (sAsg (eC (.str (Str.ofString " !#$&'()*+,-./0123456789:;<=>?@ABCXYZ[]^_abcdefghijklmnopqrstuvwxyz{|}~"))) (gN 4)) (sSeq (sAsg (eC (.str (Str.ofString ""))) (gN 5)) (sSeq (sFor (iRange (eVar 2)) (gN 6) (l_law_signs_1)) (sRet (eVar 5))))
noncomputable def m_law_signs : Fn := fnOf 8 b_law_signs
noncomputable def u_law_small_1 : Sx := sAsg (eLc nwF [3] (iRange (eOp (dAdd nwF) (eC (.int 1)) (eCall m_law_draw [eVar 0, eVar 1, eC (.int 3)]))) (gN 3) (Pd.tYes) (eCall m_law_pick [eVar 0, eVar 1, eLst nwF [eC (.str (Str.ofString "a")), eC (.str (Str.ofString "b")), eC (.str (Str.ofString "+")), eC (.str (Str.ofString "+")), eC (.str (Str.ofString "")), eC (.str (Str.ofString "$s"))]])) (gN 2)
noncomputable def u_law_small_2 : Sx := sIf (tBl (eOp dEq (eCall m_law_draw [eVar 0, eVar 1, eC (.int 3)]) (eC (.int 0)))) (sAsg (eOp (dAdd nwF) (eSl nwF (eVar 2) none (some (eCall m_law_draw [eVar 0, eVar 1, eUn dLen (eVar 2)]))) (eLst nwF [eC (.str (Str.ofString "#"))])) (gN 2)) (sNext)
noncomputable def u_law_small_3 : Sx := sRet (eIf (tBl (eOp dNe (eVar 2) (eLst nwF [eC (.str (Str.ofString ""))]))) (eBm1 isStr dJoin (eC (.str (Str.ofString "/"))) (eVar 2)) (eC (.str (Str.ofString "+"))))
noncomputable def b_law_small : Sx := sSeq u_law_small_1 (sSeq u_law_small_2 (u_law_small_3))
noncomputable def m_law_small : Fn := fnOf 4 b_law_small
noncomputable def b_law_level : Sx := sSeq (sAsg (eCall m_law_draw [eVar 0, eVar 1, eC (.int 8)]) (gN 2)) (sSeq (sIf (tBl (eOp dLt (eVar 2) (eC (.int 5)))) (sRet (eCall m_law_pick [eVar 0, eVar 1, eLst nwF [eC (.str (Str.ofString "a")), eC (.str (Str.ofString "b")), eC (.str (Str.ofString "")), eC (.str (Str.ofString "$s")), eC (.str (Str.ofString "ab"))]])) (sNext)) (sRet (eCall m_law_signs [eVar 0, eVar 1, eCall m_law_pick [eVar 0, eVar 1, eLst nwF [eC (.int 1), eC (.int 2), eC (.int 5), eC (.int 12)]], eC (.bl false)])))
noncomputable def m_law_level : Fn := fnOf 3 b_law_level
noncomputable def b_law_great : Sx := sSeq (sAsg (eLc nwF [3] (iRange (eOp (dAdd nwF) (eC (.int 1)) (eCall m_law_draw [eVar 0, eVar 1, eC (.int 8)]))) (gN 3) (Pd.tYes) (eCall m_law_level [eVar 0, eVar 1])) (gN 2)) (sRet (eLc nwF [4] (iSeq (eVar 2)) (gN 4) (Pd.tYes) (eCall m_law_pick [eVar 0, eVar 1, eLst nwF [eVar 4, eVar 4, eC (.str (Str.ofString "+"))]])))
noncomputable def m_law_great : Fn := fnOf 5 b_law_great
noncomputable def b_fits_levels (rec : Fn) : Sx := sSeq (sIf (tBl (eOp dEq (eSl nwF (eVar 0) none (some (eC (.int 1)))) (eLst nwF [eC (.str (Str.ofString "#"))]))) (sRet (eC (.bl true))) (sNext)) (sSeq (sIf (tOr (tNot (tTru (eVar 0))) (tNot (tTru (eVar 1)))) (sRet (eAnd (eNot (eVar 0)) (eNot (eVar 1)))) (sNext)) (sRet (eAnd (eOp dIn (eOp dIx (eVar 0) (eC (.int 0))) (eTup [eC (.str (Str.ofString "+")), eOp dIx (eVar 1) (eC (.int 0))])) (eCall rec [eSl nwF (eVar 0) (some (eC (.int 1))) none, eSl nwF (eVar 1) (some (eC (.int 1))) none]))))
noncomputable def r_fits_levels : Nat → Fn
  | 0 => fnOf 2 sBad
  | n + 1 => fnOf 2 (b_fits_levels (r_fits_levels n))
noncomputable def m_fits_levels : Fn := r_fits_levels 12
noncomputable def b_covers_levels (rec : Fn) : Sx := sSeq (sIf (tBl (eOp dEq (eSl nwF (eVar 0) none (some (eC (.int 1)))) (eLst nwF [eC (.str (Str.ofString "#"))]))) (sRet (eC (.bl true))) (sNext)) (sSeq (sIf (tOr (tNot (tTru (eVar 0))) (tNot (tTru (eVar 1)))) (sRet (eAnd (eNot (eVar 0)) (eNot (eVar 1)))) (sNext)) (sSeq (sIf (tBl (eOp dEq (eOp dIx (eVar 1) (eC (.int 0))) (eC (.str (Str.ofString "#"))))) (sRet (eC (.bl false))) (sNext)) (sRet (eAnd (eOp dIn (eOp dIx (eVar 0) (eC (.int 0))) (eTup [eC (.str (Str.ofString "+")), eOp dIx (eVar 1) (eC (.int 0))])) (eCall rec [eSl nwF (eVar 0) (some (eC (.int 1))) none, eSl nwF (eVar 1) (some (eC (.int 1))) none])))))
noncomputable def r_covers_levels : Nat → Fn
  | 0 => fnOf 2 sBad
  | n + 1 => fnOf 2 (b_covers_levels (r_covers_levels n))
noncomputable def m_covers_levels : Fn := r_covers_levels 12
noncomputable def b_fits : Sx := sSeq (sExpr (eCall m_look_wish [eVar 0])) (sSeq (sExpr (eCall m_look_name [eVar 1])) (sSeq (sAsg (eBm1 isStr (dSplit nwF) (eVar 0) (eC (.str (Str.ofString "/")))) (gN 2)) (sRet (eAnd (eNot (eAnd (eCall m_is_wide [eOp dIx (eVar 2) (eC (.int 0))]) (eBm1 isStr dStarts (eVar 1) (eC (.str (Str.ofString "$")))))) (eCall m_fits_levels [eVar 2, eBm1 isStr (dSplit nwF) (eVar 1) (eC (.str (Str.ofString "/")))])))))
noncomputable def m_fits : Fn := fnOf 3 b_fits
noncomputable def u_covers_1 : Sx := sExpr (eCall m_look_wish [eVar 0])
noncomputable def u_covers_2 : Sx := sExpr (eCall m_look_wish [eVar 1])
noncomputable def u_covers_3 : Sx := sAsg (eBm1 isStr (dSplit nwF) (eVar 0) (eC (.str (Str.ofString "/")))) (gN 2)
noncomputable def u_covers_4 : Sx := sAsg (eBm1 isStr (dSplit nwF) (eVar 1) (eC (.str (Str.ofString "/")))) (gN 3)
noncomputable def u_covers_5 : Sx := sIf (tBl (eOp dIn (eVar 3) (eTup [eLst nwF [eC (.str (Str.ofString "#"))], eLst nwF [eC (.str (Str.ofString "")), eC (.str (Str.ofString "#"))]]))) (sAsg (eOp (dAdd nwF) (eSl nwF (eVar 3) none (some (eUn dNeg (eC (.int 1))))) (eLst nwF [eC (.str (Str.ofString "+")), eC (.str (Str.ofString "#"))])) (gN 3)) (sNext)
noncomputable def u_covers_6 : Sx := sRet (eAnd (eNot (eAnd (eCall m_is_wide [eOp dIx (eVar 2) (eC (.int 0))]) (eBm1 isStr dStarts (eVar 1) (eC (.str (Str.ofString "$")))))) (eCall m_covers_levels [eVar 2, eVar 3]))
noncomputable def b_covers : Sx := sSeq u_covers_1 (sSeq u_covers_2 (sSeq u_covers_3 (sSeq u_covers_4 (sSeq u_covers_5 (u_covers_6)))))
noncomputable def m_covers : Fn := fnOf 4 b_covers
noncomputable def u_both_levels_1 (rec : Fn) : Sx := sIf (tBl (eOp dEq (eSl nwF (eVar 0) none (some (eC (.int 1)))) (eLst nwF [eC (.str (Str.ofString "#"))]))) (sRet (eCall m_plain_levels [eVar 1])) (sNext)
noncomputable def u_both_levels_2 (rec : Fn) : Sx := sIf (tBl (eOp dEq (eSl nwF (eVar 1) none (some (eC (.int 1)))) (eLst nwF [eC (.str (Str.ofString "#"))]))) (sRet (eCall m_plain_levels [eVar 0])) (sNext)
noncomputable def u_both_levels_3 (rec : Fn) : Sx := sIf (tOr (tNot (tTru (eVar 0))) (tNot (tTru (eVar 1)))) (sRet (eIf (tOr (tTru (eVar 0)) (tTru (eVar 1))) (eC .non) (eLst nwF []))) (sNext)
noncomputable def u_both_levels_4 (rec : Fn) : Sx := sIf (tAnd (tBl (eOp dNe (eOp dIx (eVar 0) (eC (.int 0))) (eOp dIx (eVar 1) (eC (.int 0))))) (tBl (eOp dNotIn (eC (.str (Str.ofString "+"))) (eTup [eOp dIx (eVar 0) (eC (.int 0)), eOp dIx (eVar 1) (eC (.int 0))])))) (sRet (eC .non)) (sNext)
noncomputable def u_both_levels_5 (rec : Fn) : Sx := sAsg (eIf (tBl (eOp dEq (eOp dIx (eVar 0) (eC (.int 0))) (eC (.str (Str.ofString "+"))))) (eOp dIx (eVar 1) (eC (.int 0))) (eOp dIx (eVar 0) (eC (.int 0)))) (gN 2)
noncomputable def u_both_levels_6 (rec : Fn) : Sx := sAsg (eCall rec [eSl nwF (eVar 0) (some (eC (.int 1))) none, eSl nwF (eVar 1) (some (eC (.int 1))) none]) (gN 3)
noncomputable def u_both_levels_7 (rec : Fn) : Sx := sRet (eIf (tBl (eUn dIsN (eVar 3))) (eC .non) (eOp (dAdd nwF) (eCall m_plain_levels [eLst nwF [eVar 2]]) (eVar 3)))
noncomputable def b_both_levels (rec : Fn) : Sx := sSeq (u_both_levels_1 rec) (sSeq (u_both_levels_2 rec) (sSeq (u_both_levels_3 rec) (sSeq (u_both_levels_4 rec) (sSeq (u_both_levels_5 rec) (sSeq (u_both_levels_6 rec) ((u_both_levels_7 rec)))))))
noncomputable def r_both_levels : Nat → Fn
  | 0 => fnOf 4 sBad
  | n + 1 => fnOf 4 (b_both_levels (r_both_levels n))
noncomputable def m_both_levels : Fn := r_both_levels 12
noncomputable def u_meeting_1 : Sx := sExpr (eCall m_look_wish [eVar 0])
noncomputable def u_meeting_2 : Sx := sExpr (eCall m_look_wish [eVar 1])
noncomputable def u_meeting_3 : Sx := sAsg (eBm1 isStr (dSplit nwF) (eVar 0) (eC (.str (Str.ofString "/")))) (gN 2)
noncomputable def u_meeting_4 : Sx := sAsg (eBm1 isStr (dSplit nwF) (eVar 1) (eC (.str (Str.ofString "/")))) (gN 3)
noncomputable def u_meeting_5 : Sx := sIf (tOr (tAnd (tTru (eCall m_is_wide [eOp dIx (eVar 2) (eC (.int 0))])) (tTru (eBm1 isStr dStarts (eVar 1) (eC (.str (Str.ofString "$")))))) (tAnd (tTru (eCall m_is_wide [eOp dIx (eVar 3) (eC (.int 0))])) (tTru (eBm1 isStr dStarts (eVar 0) (eC (.str (Str.ofString "$"))))))) (sRet (eC .non)) (sNext)
noncomputable def u_meeting_6 : Sx := sAsg (eCall m_both_levels [eVar 2, eVar 3]) (gN 4)
noncomputable def u_meeting_7 : Sx := sIf (tBl (eOp dEq (eVar 4) (eLst nwF []))) (sRet (eC (.str (Str.ofString "a")))) (sNext)
noncomputable def u_meeting_8 : Sx := sIf (tBl (eOp dEq (eVar 4) (eLst nwF [eC (.str (Str.ofString ""))]))) (sRet (eIf (tAnd (tTru (eCall m_fits [eVar 0, eC (.str (Str.ofString "/a"))])) (tTru (eCall m_fits [eVar 1, eC (.str (Str.ofString "/a"))]))) (eC (.str (Str.ofString "/a"))) (eC .non))) (sNext)
noncomputable def u_meeting_9 : Sx := sRet (eIf (tBl (eUn dIsN (eVar 4))) (eC .non) (eBm1 isStr dJoin (eC (.str (Str.ofString "/"))) (eVar 4)))
noncomputable def b_meeting : Sx := sSeq u_meeting_1 (sSeq u_meeting_2 (sSeq u_meeting_3 (sSeq u_meeting_4 (sSeq u_meeting_5 (sSeq u_meeting_6 (sSeq u_meeting_7 (sSeq u_meeting_8 (u_meeting_9))))))))
noncomputable def m_meeting : Fn := fnOf 5 b_meeting
noncomputable def b_law_told : Sx := sSeq (sAsg (eC .non) (gN 3)) (sSeq (sAsg (eC .non) (gN 4)) (sSeq (sTryH 3 5 [0, 1, 2, 3, 4, 5] (sAsg (eIf (tBl (eOp dEq (eVar 0) (eC (.int 0)))) (eCall m_covers [eVar 1, eVar 2]) (eCall m_meeting [eVar 1, eVar 2])) (gN 4))) (sRet (eIf (tBl (eUn dIsN (eVar 3))) (eVar 4) (eCall m_law_refusal [eVar 3])))))
noncomputable def m_law_told : Fn := fnOf 6 b_law_told
noncomputable def u_law_good_1 : Sx := sAsg (eLc nwF [7] (iSeq (eVar 2)) (gN 7) (Pd.tYes) (eCall m_law_fits [eVar 0, eVar 7])) (gN 3)
noncomputable def u_law_good_2 : Sx := sAsg (eLc nwF [7] (iSeq (eVar 2)) (gN 7) (Pd.tYes) (eCall m_law_fits [eVar 1, eVar 7])) (gN 4)
noncomputable def u_law_good_3 : Sx := sAsg (eNot (eUn dAny (eLc nwF [8] (iRange (eUn dLen (eVar 2))) (gN 8) (Pd.tYes) (eAnd (eOp dIx (eVar 4) (eVar 8)) (eNot (eOp dIx (eVar 3) (eVar 8))))))) (gN 5)
noncomputable def u_law_good_4 : Sx := sAsg (eCall m_law_told [eC (.int 0), eVar 0, eVar 1]) (gN 6)
noncomputable def u_law_good_5 : Sx := sIf (tOr (tNot (tTru (eUn (dIsi "bool") (eVar 6)))) (tBl (eOp dNe (eVar 6) (eVar 5)))) (sRet (eC (.bl false))) (sNext)
noncomputable def u_law_good_6 : Sx := sAsg (eCall m_law_told [eC (.int 1), eVar 0, eVar 1]) (gN 7)
noncomputable def u_law_good_7 : Sx := sIf (tBl (eUn dIsN (eVar 7))) (sRet (eNot (eUn dAny (eLc nwF [8] (iRange (eUn dLen (eVar 2))) (gN 8) (Pd.tYes) (eAnd (eOp dIx (eVar 4) (eVar 8)) (eOp dIx (eVar 3) (eVar 8))))))) (sNext)
noncomputable def u_law_good_8 : Sx := sRet (eAnd (eCall m_law_is_name [eVar 7]) (eAnd (eCall m_law_fits [eVar 0, eVar 7]) (eCall m_law_fits [eVar 1, eVar 7])))
noncomputable def b_law_good : Sx := sSeq u_law_good_1 (sSeq u_law_good_2 (sSeq u_law_good_3 (sSeq u_law_good_4 (sSeq u_law_good_5 (sSeq u_law_good_6 (sSeq u_law_good_7 (u_law_good_8)))))))
noncomputable def m_law_good : Fn := fnOf 9 b_law_good
noncomputable def u_law_1 : Sx := sAsg (eLst nwM []) (gN 1)
noncomputable def u_law_2 : Sx := sAsg (eLst nwF [eCall m_law_told [eC (.int 0), eC (.str (Str.ofString "+/#")), eC (.str (Str.ofString "#"))], eCall m_law_told [eC (.int 0), eC (.str (Str.ofString "/+/#")), eC (.str (Str.ofString "/#"))], eCall m_law_told [eC (.int 0), eC (.str (Str.ofString "/#")), eC (.str (Str.ofString "+"))], eCall m_law_told [eC (.int 0), eC (.str (Str.ofString "+/+")), eC (.str (Str.ofString "#"))]]) (gN 2)
noncomputable def u_law_3 : Sx := sIf (tOr (tBl (eOp dNe (eVar 2) (eLst nwF [eC (.bl true), eC (.bl true), eC (.bl false), eC (.bl false)]))) (tBl (eUn dNotN (eCall m_law_told [eC (.int 1), eC (.str (Str.ofString "/#")), eC (.str (Str.ofString "+"))])))) (sRet (eC (.bl false))) (sNext)
noncomputable def u_law_4 : Sx := sIf (tBl (eOp dGt (eCall m_law_draw [eVar 0, eVar 1, eC (.int 3)]) (eC (.int 0)))) (sSeq (sAsg (eCall m_law_small [eVar 0, eVar 1]) (gN 3)) (sRet (eCall m_law_good [eVar 3, eCall m_law_small [eVar 0, eVar 1], eCall m_law_names []]))) (sNext)
noncomputable def u_law_5 : Sx := sAsg (eCall m_law_great [eVar 0, eVar 1]) (gN 4)
noncomputable def u_law_6 : Sx := sAsg (eLc nwM [9] (iSeq (eVar 4)) (gN 9) (Pd.tYes) (eCall m_law_pick [eVar 0, eVar 1, eLst nwF [eVar 9, eVar 9, eVar 9, eC (.str (Str.ofString "+"))]])) (gN 5)
noncomputable def u_law_7 : Sx := sIf (tBl (eOp dEq (eCall m_law_draw [eVar 0, eVar 1, eC (.int 3)]) (eC (.int 0)))) (sAsg (eOp (dAdd nwM) (eSl nwF (eVar 5) none (some (eCall m_law_draw [eVar 0, eVar 1, eUn dLen (eVar 5)]))) (eLst nwF [eC (.str (Str.ofString "#"))])) (gN 5)) (sNext)
noncomputable def u_law_8 : Sx := sIf (tBl (eOp dEq (eCall m_law_draw [eVar 0, eVar 1, eC (.int 6)]) (eC (.int 0)))) (sSetI (eVar 5) (eCall m_law_draw [eVar 0, eVar 1, eUn dLen (eVar 5)]) (eCall m_law_pick [eVar 0, eVar 1, eLst nwF [eC (.str (Str.ofString "zz")), eC (.str (Str.ofString "#a")), eC (.str (Str.ofString "")), eC (.str (Str.ofString "$t"))]])) (sNext)
noncomputable def u_law_9 : Sx := sAsg (eTup [eBm1 isStr dJoin (eC (.str (Str.ofString "/"))) (eVar 4), eBm1 isStr dJoin (eC (.str (Str.ofString "/"))) (eVar 5)]) (gT [3, 6])
noncomputable def u_law_10 : Sx := sIf (tOr (tNot (tTru (eCall m_law_is_wish [eVar 3]))) (tNot (tTru (eCall m_law_is_wish [eVar 6])))) (sRet (eOp dEq (eLc nwF [10] (iRange (eC (.int 2))) (gN 10) (Pd.tYes) (eCall m_law_told [eVar 10, eVar 3, eVar 6])) (eOp (dRep nwF) (eLst nwF [eTup [eC (.str (Str.ofString "refused")), eC (.str (Str.ofString "name"))]]) (eC (.int 2))))) (sNext)
noncomputable def u_law_11 : Sx := sAsg (eCall m_law_told [eC (.int 1), eVar 3, eVar 6]) (gN 7)
noncomputable def u_law_12 : Sx := sIf (tOr (tBl (eOp dIsNotB (eCall m_law_told [eC (.int 0), eVar 3, eVar 3]) (eC (.bl true)))) (tBl (eOp dIsNotB (eCall m_law_told [eC (.int 0), eVar 6, eVar 6]) (eC (.bl true))))) (sRet (eC (.bl false))) (sNext)
noncomputable def u_law_13 : Sx := sIf (tAnd (tBl (eUn dNotN (eVar 7))) (tNot (tAnd (tTru (eCall m_law_is_name [eVar 7])) (tAnd (tTru (eCall m_law_fits [eVar 3, eVar 7])) (tTru (eCall m_law_fits [eVar 6, eVar 7])))))) (sRet (eC (.bl false))) (sNext)
noncomputable def u_law_14 : Sx := sAsg (eLst nwF [eCall m_law_told [eC (.int 0), eVar 3, eVar 6], eCall m_law_told [eC (.int 0), eVar 6, eVar 3]]) (gN 8)
noncomputable def u_law_15 : Sx := sRet (eOr (eUn dNotN (eVar 7)) (eOp dEq (eVar 8) (eLst nwF [eC (.bl false), eC (.bl false)])))
noncomputable def b_law : Sx := sSeq u_law_1 (sSeq u_law_2 (sSeq u_law_3 (sSeq u_law_4 (sSeq u_law_5 (sSeq u_law_6 (sSeq u_law_7 (sSeq u_law_8 (sSeq u_law_9 (sSeq u_law_10 (sSeq u_law_11 (sSeq u_law_12 (sSeq u_law_13 (sSeq u_law_14 (u_law_15))))))))))))))
noncomputable def m_law : Fn := fnOf 11 b_law
end Tx
namespace Tx
open PySem L2 Pd
section
variable {P : Program} {w : World} {K : PySem.W.Frag} {mg : Str → Option Value} {base : Heap} {A : Ad}
theorem d_is_level (T : Txt K mg A) : Df true P w K mg base J 1 1 A.f_is_level m_is_level := by
  obtain ⟨fd, F, hb⟩ := T.d_is_level
  exact df_of F sc_is_level hb fun cdv A outer s H E hr =>
    (ss_cons (ss_if (ts_cmp (c_gt) (es_b1 (b_len) rfl T.n_len (by decide +kernel) (es_var (pv 0))) (es_gint rfl T.c_MOST_SIGNS) (nomark _)) (ss_one (ss_ret (es_bl))) (ss_nil))
      (ss_one (ss_ret (es_b1 (b_all rfl) rfl T.n_all (by decide +kernel) (es_lc (own := [("sign", 1)]) isF rfl sc_is_level.nd (is_seq (es_var (pv 0))) (blkOk_by (own := [("sign", 1)]) (N := ["level", "sign"]) (sc := defScope s_is_level) (by decide +kernel)) (by decide) (fun _ _ _ _ _ => gs_name (pg_name (i := 1) sc_is_level.nd rfl (by first | exact Or.inl rfl | exact Or.inr rfl))) (fun _ _ _ _ _ => tts_nil) (fun _ _ _ _ _ => es_and (es_leLt (es_int) (es_b1 (b_ord) rfl T.n_ord (by decide +kernel) (es_var (pv 1))) (es_int)) (es_and (es_cmp (c_ne hr.units) (es_b1 (b_ord) rfl T.n_ord (by decide +kernel) (es_var (pv 1))) (es_int) (nomark _)) (es_one (es_cmp (c_notIn hr.u65) (es_var (pv 1)) (es_str))))))))))
theorem d_is_wide (T : Txt K mg A) : Df true P w K mg base J 1 1 A.f_is_wide m_is_wide := by
  obtain ⟨fd, F, hb⟩ := T.d_is_wide
  exact df_of F sc_is_wide hb fun cdv A outer s H E hr =>
    (ss_one (ss_ret (es_cmp (c_in hr.u65) (es_var (pv 0)) (es_tup (as_cons (es_str) (as_cons (es_str) (as_nil)))))))
theorem d_plain_levels (T : Txt K mg A) : Df true P w K mg base J 1 1 A.f_plain_levels m_plain_levels := by
  obtain ⟨fd, F, hb⟩ := T.d_plain_levels
  exact df_of F sc_plain_levels hb fun cdv A outer s H E hr =>
    (ss_one (ss_ret (es_lc (own := [("level", 1)]) isF rfl sc_plain_levels.nd (is_seq (es_var (pv 0))) (blkOk_by (own := [("level", 1)]) (N := ["wished", "level"]) (sc := defScope s_plain_levels) (by decide +kernel)) (by decide) (fun _ _ _ _ _ => gs_name (pg_name (i := 1) sc_plain_levels.nd rfl (by first | exact Or.inl rfl | exact Or.inr rfl))) (fun _ _ _ _ _ => tts_one (ts_cmp (c_ne hr.units) (es_var (pv 1)) (es_str) (nomark _))) (fun _ _ _ _ _ => es_if (ts_cmp (c_eq hr.units) (es_var (pv 1)) (es_str) (nomark _)) (es_str) (es_var (pv 1))))))
theorem d_law_cell (T : Txt K mg A) : Df true P w K mg base J 1 2 A.f_law_cell m_law_cell := by
  obtain ⟨fd, F, hb⟩ := T.d_law_cell
  exact df_of F sc_law_cell hb fun cdv A outer s H E hr =>
    (ss_cons (ss_if (ts_tru (es_var (pv 0))) (ss_one (ss_ret (es_ix (es_var (pv 0)) (es_mod (es_var (pv 1)) (es_b1 (b_len) rfl T.n_len (by decide +kernel) (es_var (pv 0))))))) (ss_nil))
      (ss_one (ss_ret (es_int))))
theorem d_law_refusal (T : Txt K mg A) : Df true P w K mg base J 1 1 A.f_law_refusal m_law_refusal := by
  obtain ⟨fd, F, hb⟩ := T.d_law_refusal
  exact df_of F sc_law_refusal hb fun cdv A outer s H E hr =>
    (ss_cons (ss_if (ts_isN (es_var (pv 0))) (ss_one (ss_ret (es_tup (as_cons (es_str) (as_nil))))) (ss_nil))
      (ss_cons (ss_asg (es_lst isF (as_cons (es_isx T.ix_BadName rfl T.n_isinstance rfl T.gc_BadName (es_var (pv 0))) (as_cons (es_isx T.ix_BadPacket rfl T.n_isinstance rfl T.gc_BadPacket (es_var (pv 0))) (as_cons (es_isx T.ix_BadBytes rfl T.n_isinstance rfl T.gc_BadBytes (es_var (pv 0))) (as_nil))))) (gs_name (pg_name (i := 1) sc_law_refusal.nd rfl (by first | exact Or.inl rfl | exact Or.inr rfl))))
      (ss_cons (ss_asg (es_add isF (es_var (pv 1)) (es_lst isF (as_cons (es_isx T.ix_BadLine rfl T.n_isinstance rfl T.gc_BadLine (es_var (pv 0))) (as_cons (es_isx T.ix_BadText rfl T.n_isinstance rfl T.gc_BadText (es_var (pv 0))) (as_nil))))) (gs_name (pg_name (i := 1) sc_law_refusal.nd rfl (by first | exact Or.inl rfl | exact Or.inr rfl))))
      (ss_cons (ss_if (ts_w (ws_or (ts_cmp (c_ne hr.units) (es_bm1 m_count (es_var (pv 1)) (es_bl)) (es_int) (nomark _)) (ws_or1 (ts_not (ts_tru (es_isxT T.ix_ValueError rfl T.n_isinstance rfl T.n_ValueError (by decide +kernel) (es_var (pv 0)))))))) (ss_one (ss_ret (es_tup (as_cons (es_str) (as_nil))))) (ss_nil))
      (ss_one (ss_ret (es_tup (as_cons (es_str) (as_cons (es_ix (es_lst isF (as_cons (es_str) (as_cons (es_str) (as_cons (es_str) (as_cons (es_str) (as_cons (es_str) (as_nil))))))) (es_bm1 m_index (es_var (pv 1)) (es_bl))) (as_nil))))))))))
theorem d_law_is_level (T : Txt K mg A) : Df true P w K mg base J 1 1 A.f_law_is_level m_law_is_level := by
  obtain ⟨fd, F, hb⟩ := T.d_law_is_level
  exact df_of F sc_law_is_level hb fun cdv A outer s H E hr =>
    (ss_cons (ss_setLc (i := 1) (own := [("sign", 2)]) isF rfl sc_law_is_level.nd rfl rfl (sw_true rfl rfl rfl (by decide +kernel)) (is_seq (es_var (pv 0))) (blkOk_by (own := [("sign", 2)]) (N := ["level", "codes", "sign", "one"]) (sc := defScope s_law_is_level) (by decide +kernel)) (by decide) (fun _ _ _ _ _ => gs_name (pg_name (i := 2) sc_law_is_level.nd rfl (by first | exact Or.inl rfl | exact Or.inr rfl))) (fun _ _ _ _ _ => tts_nil) (fun _ _ _ _ _ => es_b1 (b_ord) rfl T.n_ord (by decide +kernel) (es_var (pv 2))))
      (ss_one (ss_ret (es_and (es_cmp (c_lt) (es_b1 (b_len) rfl T.n_len (by decide +kernel) (es_var (pv 0))) (es_int) (nomark _)) (es_one (es_b1 (b_all rfl) rfl T.n_all (by decide +kernel) (es_lc (own := [("one", 3)]) isF rfl sc_law_is_level.nd (is_seq (es_var (pv 1))) (blkOk_by (own := [("one", 3)]) (N := ["level", "codes", "sign", "one"]) (sc := defScope s_law_is_level) (by decide +kernel)) (by decide) (fun _ _ _ _ _ => gs_name (pg_name (i := 3) sc_law_is_level.nd rfl (by first | exact Or.inl rfl | exact Or.inr rfl))) (fun _ _ _ _ _ => tts_nil) (fun _ _ _ _ _ => es_and (es_leLt (es_int) (es_var (pv 3)) (es_int)) (es_one (es_cmp (c_notIn hr.u65) (es_var (pv 3)) (es_tup (as_cons (es_int) (as_cons (es_int) (as_cons (es_int) (as_nil)))))))))))))))
theorem d_law_fits (T : Txt K mg A) : Df true P w K mg base J 1 2 A.f_law_fits m_law_fits := by
  obtain ⟨fd, F, hb⟩ := T.d_law_fits
  exact df_of F sc_law_fits hb fun cdv A outer s H E hr =>
    (ss_cons (ss_asg (es_bm1 (m_split isF) (es_var (pv 0)) (es_str)) (gs_name (pg_name (i := 2) sc_law_fits.nd rfl (by first | exact Or.inl rfl | exact Or.inr rfl))))
      (ss_cons (ss_asg (es_bm1 (m_split isF) (es_var (pv 1)) (es_str)) (gs_name (pg_name (i := 3) sc_law_fits.nd rfl (by first | exact Or.inl rfl | exact Or.inr rfl))))
      (ss_cons (ss_if (ts_w (ws_and (ts_cmp (c_in hr.u65) (es_ix (es_var (pv 2)) (es_int)) (es_tup (as_cons (es_str) (as_cons (es_str) (as_nil))))) (ws_and1 (ts_cmp (c_eq hr.units) (es_sl isF (es_ix (es_var (pv 3)) (es_int)) (os_none) (os_some (es_int))) (es_str) (nomark _))))) (ss_one (ss_ret (es_bl))) (ss_nil))
      (ss_cons (ss_if (ts_cmp (c_eq hr.units) (es_ix (es_var (pv 2)) (es_neg (es_int))) (es_str) (nomark _)) (ss_cons (ss_asg (es_sl isF (es_var (pv 2)) (os_none) (os_some (es_neg (es_int)))) (gs_name (pg_name (i := 2) sc_law_fits.nd rfl (by first | exact Or.inl rfl | exact Or.inr rfl))))
      (ss_cons (ss_if (ts_cmp (c_lt) (es_b1 (b_len) rfl T.n_len (by decide +kernel) (es_var (pv 3))) (es_b1 (b_len) rfl T.n_len (by decide +kernel) (es_var (pv 2))) (nomark _)) (ss_one (ss_ret (es_bl))) (ss_nil))
      (ss_one (ss_asg (es_sl isF (es_var (pv 3)) (os_none) (os_some (es_b1 (b_len) rfl T.n_len (by decide +kernel) (es_var (pv 2))))) (gs_name (pg_name (i := 3) sc_law_fits.nd rfl (by first | exact Or.inl rfl | exact Or.inr rfl))))))) (ss_nil))
      (ss_cons (ss_if (ts_cmp (c_ne hr.units) (es_b1 (b_len) rfl T.n_len (by decide +kernel) (es_var (pv 2))) (es_b1 (b_len) rfl T.n_len (by decide +kernel) (es_var (pv 3))) (nomark _)) (ss_one (ss_ret (es_bl))) (ss_nil))
      (ss_one (ss_ret (es_b1 (b_all rfl) rfl T.n_all (by decide +kernel) (es_lc (own := [("k", 4)]) isF rfl sc_law_fits.nd (is_range rfl T.n_range (es_b1 (b_len) rfl T.n_len (by decide +kernel) (es_var (pv 2)))) (blkOk_by (own := [("k", 4)]) (N := ["wish", "name", "wished", "levels", "k"]) (sc := defScope s_law_fits) (by decide +kernel)) (by decide) (fun _ _ _ _ _ => gs_name (pg_name (i := 4) sc_law_fits.nd rfl (by first | exact Or.inl rfl | exact Or.inr rfl))) (fun _ _ _ _ _ => tts_nil) (fun _ _ _ _ _ => es_cmp (c_in hr.u65) (es_ix (es_var (pv 2)) (es_var (pv 4))) (es_tup (as_cons (es_str) (as_cons (es_ix (es_var (pv 3)) (es_var (pv 4))) (as_nil))))))))))))))
theorem d_law_names (T : Txt K mg A) : Df true P w K mg base J 1 0 A.f_law_names m_law_names := by
  obtain ⟨fd, F, hb⟩ := T.d_law_names
  exact df_of F sc_law_names hb fun cdv A outer s H E hr =>
    (ss_cons (ss_asg (es_lst isF (as_nil)) (gs_name (pg_name (i := 0) sc_law_names.nd rfl (by first | exact Or.inl rfl | exact Or.inr rfl))))
      (ss_cons (ss_asg (es_lst isF (as_cons (es_str) (as_nil))) (gs_name (pg_name (i := 1) sc_law_names.nd rfl (by first | exact Or.inl rfl | exact Or.inr rfl))))
      (ss_cons (ss_for (passes_of rfl) rfl (is_range rfl T.n_range (es_int)) (gs_name (pg_name (i := 2) sc_law_names.nd rfl (by first | exact Or.inl rfl | exact Or.inr rfl))) (ss_cons (ss_asg (es_lst isF (as_nil)) (gs_name (pg_name (i := 3) sc_law_names.nd rfl (by first | exact Or.inl rfl | exact Or.inr rfl))))
      (ss_cons (ss_for (passes_of rfl) rfl (is_seq (es_var (pv 1))) (gs_name (pg_name (i := 4) sc_law_names.nd rfl (by first | exact Or.inl rfl | exact Or.inr rfl))) (ss_one (ss_asg (es_add isF (es_var (pv 3)) (es_lc (own := [("level", 5)]) isF rfl sc_law_names.nd (is_seq (es_lst isF (as_cons (es_str) (as_cons (es_str) (as_cons (es_str) (as_cons (es_str) (as_cons (es_str) (as_nil)))))))) (blkOk_by (own := [("level", 5)]) (N := ["found", "rows", "k", "longer", "row", "level", "name"]) (sc := defScope s_law_names) (by decide +kernel)) (by decide) (fun _ _ _ _ _ => gs_name (pg_name (i := 5) sc_law_names.nd rfl (by first | exact Or.inl rfl | exact Or.inr rfl))) (fun _ _ _ _ _ => tts_nil) (fun _ _ _ _ _ => es_add isF (es_add isF (es_var (pv 4)) (es_if (ts_cmp (c_gt) (es_var (pv 2)) (es_int) (nomark _)) (es_str) (es_str))) (es_var (pv 5))))) (gs_name (pg_name (i := 3) sc_law_names.nd rfl (by first | exact Or.inl rfl | exact Or.inr rfl))))))
      (ss_cons (ss_asg (es_var (pv 3)) (gs_name (pg_name (i := 1) sc_law_names.nd rfl (by first | exact Or.inl rfl | exact Or.inr rfl))))
      (ss_one (ss_asg (es_add isF (es_var (pv 0)) (es_var (pv 1))) (gs_name (pg_name (i := 0) sc_law_names.nd rfl (by first | exact Or.inl rfl | exact Or.inr rfl)))))))))
      (ss_one (ss_ret (es_lc (own := [("name", 6)]) isF rfl sc_law_names.nd (is_seq (es_var (pv 0))) (blkOk_by (own := [("name", 6)]) (N := ["found", "rows", "k", "longer", "row", "level", "name"]) (sc := defScope s_law_names) (by decide +kernel)) (by decide) (fun _ _ _ _ _ => gs_name (pg_name (i := 6) sc_law_names.nd rfl (by first | exact Or.inl rfl | exact Or.inr rfl))) (fun _ _ _ _ _ => tts_one (ts_cmp (c_ne hr.units) (es_var (pv 6)) (es_str) (nomark _))) (fun _ _ _ _ _ => es_var (pv 6))))))))
theorem d_look_name (T : Txt K mg A) : Df true P w K mg base J 2 1 A.f_look_name m_look_name := by
  obtain ⟨fd, F, hb⟩ := T.d_look_name
  exact df_of F sc_look_name hb fun cdv A outer s H E hr =>
    (ss_cons (ss_asg (es_bm1 (m_split isF) (es_var (pv 0)) (es_str)) (gs_name (pg_name (i := 1) sc_look_name.nd rfl (by first | exact Or.inl rfl | exact Or.inr rfl))))
      (ss_one (ss_if (ts_w (ws_or (ts_cmp (c_eq hr.units) (es_var (pv 0)) (es_str) (nomark _)) (ws_or (ts_cmp (c_gt) (es_b1 (b_len) rfl T.n_len (by decide +kernel) (es_var (pv 1))) (es_gint rfl T.c_MOST_LEVELS) (nomark _)) (ws_or1 (ts_not (ts_tru (es_b1 (b_all rfl) rfl T.n_all (by decide +kernel) (es_lc (own := [("level", 2)]) isF rfl sc_look_name.nd (is_seq (es_var (pv 1))) (blkOk_by (own := [("level", 2)]) (N := ["name", "levels", "level"]) (sc := defScope s_look_name) (by decide +kernel)) (by decide) (fun _ _ _ _ _ => gs_name (pg_name (i := 2) sc_look_name.nd rfl (by first | exact Or.inl rfl | exact Or.inr rfl))) (fun _ _ _ _ _ => tts_nil) (fun _ _ _ _ _ => es_call tks0 (d_is_level T) (hr.mono (by omega)) rfl T.g_is_level T.k_is_level (as_cons (es_var (pv 2)) (as_nil))))))))))) (ss_one (ss_raise (c := 1) rfl rfl ((tks_of rfl rfl rfl rfl)) PySem.F.excBase_ValueError T.x_BadName T.gc_BadName T.kc_BadName (raises_own T.b_BadName T.t_BadName) rfl)) (ss_nil))))
theorem d_look_wish (T : Txt K mg A) : Df true P w K mg base J 2 1 A.f_look_wish m_look_wish := by
  obtain ⟨fd, F, hb⟩ := T.d_look_wish
  exact df_of F sc_look_wish hb fun cdv A outer s H E hr =>
    (ss_cons (ss_asg (es_bm1 (m_split isF) (es_var (pv 0)) (es_str)) (gs_name (pg_name (i := 1) sc_look_wish.nd rfl (by first | exact Or.inl rfl | exact Or.inr rfl))))
      (ss_cons (ss_asg (es_if (ts_cmp (c_eq hr.units) (es_ix (es_var (pv 1)) (es_neg (es_int))) (es_str) (nomark _)) (es_sl isF (es_var (pv 1)) (os_none) (os_some (es_neg (es_int)))) (es_var (pv 1))) (gs_name (pg_name (i := 2) sc_look_wish.nd rfl (by first | exact Or.inl rfl | exact Or.inr rfl))))
      (ss_one (ss_if (ts_w (ws_or (ts_cmp (c_eq hr.units) (es_var (pv 0)) (es_str) (nomark _)) (ws_or (ts_cmp (c_gt) (es_b1 (b_len) rfl T.n_len (by decide +kernel) (es_var (pv 1))) (es_gint rfl T.c_MOST_LEVELS) (nomark _)) (ws_or1 (ts_not (ts_tru (es_b1 (b_all rfl) rfl T.n_all (by decide +kernel) (es_lc (own := [("level", 3)]) isF rfl sc_look_wish.nd (is_seq (es_var (pv 2))) (blkOk_by (own := [("level", 3)]) (N := ["wish", "levels", "plain", "level"]) (sc := defScope s_look_wish) (by decide +kernel)) (by decide) (fun _ _ _ _ _ => gs_name (pg_name (i := 3) sc_look_wish.nd rfl (by first | exact Or.inl rfl | exact Or.inr rfl))) (fun _ _ _ _ _ => tts_nil) (fun _ _ _ _ _ => es_or (es_cmp (c_eq hr.units) (es_var (pv 3)) (es_str) (nomark _)) (es_one (es_call tks0 (d_is_level T) (hr.mono (by omega)) rfl T.g_is_level T.k_is_level (as_cons (es_var (pv 3)) (as_nil))))))))))))) (ss_one (ss_raise (c := 1) rfl rfl ((tks_of rfl rfl rfl rfl)) PySem.F.excBase_ValueError T.x_BadName T.gc_BadName T.kc_BadName (raises_own T.b_BadName T.t_BadName) rfl)) (ss_nil)))))
theorem d_law_mix (T : Txt K mg A) : Df true P w K mg base J 2 2 A.f_law_mix m_law_mix := by
  obtain ⟨fd, F, hb⟩ := T.d_law_mix
  exact df_of F sc_law_mix hb fun cdv A outer s H E hr =>
    (ss_cons (ss_asg (es_mod (es_add isF (es_call (tks_of rfl rfl rfl rfl) (d_law_cell T) (hr.mono (by omega)) rfl T.g_law_cell T.k_law_cell (as_cons (es_var (pv 0)) (as_cons (es_var (pv 1)) (as_nil)))) (es_mul (es_int) (es_add isF (es_var (pv 1)) (es_int)))) (es_int)) (gs_name (pg_name (i := 2) sc_law_mix.nd rfl (by first | exact Or.inl rfl | exact Or.inr rfl))))
      (ss_cons (ss_asg (es_mod (es_pow (es_var (pv 2)) (es_int)) (es_int)) (gs_name (pg_name (i := 2) sc_law_mix.nd rfl (by first | exact Or.inl rfl | exact Or.inr rfl))))
      (ss_one (ss_ret (es_mod (es_add isF (es_mul (es_fdv (es_var (pv 2)) (es_int)) (es_int)) (es_var (pv 2))) (es_int))))))
theorem d_law_is_name (T : Txt K mg A) : Df true P w K mg base J 2 1 A.f_law_is_name m_law_is_name := by
  obtain ⟨fd, F, hb⟩ := T.d_law_is_name
  exact df_of F sc_law_is_name hb fun cdv A outer s H E hr =>
    (ss_cons (ss_asg (es_bm1 (m_split isF) (es_var (pv 0)) (es_str)) (gs_name (pg_name (i := 1) sc_law_is_name.nd rfl (by first | exact Or.inl rfl | exact Or.inr rfl))))
      (ss_one (ss_ret (es_and (es_cmp (c_ne hr.units) (es_var (pv 0)) (es_str) (nomark _)) (es_and (es_cmp (c_lt) (es_b1 (b_len) rfl T.n_len (by decide +kernel) (es_var (pv 1))) (es_int) (nomark _)) (es_one (es_b1 (b_all rfl) rfl T.n_all (by decide +kernel) (es_lc (own := [("level", 2)]) isF rfl sc_law_is_name.nd (is_seq (es_var (pv 1))) (blkOk_by (own := [("level", 2)]) (N := ["name", "levels", "level"]) (sc := defScope s_law_is_name) (by decide +kernel)) (by decide) (fun _ _ _ _ _ => gs_name (pg_name (i := 2) sc_law_is_name.nd rfl (by first | exact Or.inl rfl | exact Or.inr rfl))) (fun _ _ _ _ _ => tts_nil) (fun _ _ _ _ _ => es_call tks0 (d_law_is_level T) (hr.mono (by omega)) rfl T.g_law_is_level T.k_law_is_level (as_cons (es_var (pv 2)) (as_nil)))))))))))
theorem d_law_is_wish (T : Txt K mg A) : Df true P w K mg base J 2 1 A.f_law_is_wish m_law_is_wish := by
  obtain ⟨fd, F, hb⟩ := T.d_law_is_wish
  exact df_of F sc_law_is_wish hb fun cdv A outer s H E hr =>
    (ss_cons (ss_asg (es_bm1 (m_split isM) (es_var (pv 0)) (es_str)) (gs_name (pg_name (i := 1) sc_law_is_wish.nd rfl (by first | exact Or.inl rfl | exact Or.inr rfl))))
      (ss_cons (ss_if (ts_cmp (c_eq hr.units) (es_ix (es_var (pv 1)) (es_neg (es_int))) (es_str) (nomark _)) (ss_one (ss_setI (es_var (pv 1)) (es_neg (es_int)) (es_str))) (ss_nil))
      (ss_one (ss_ret (es_and (es_cmp (c_ne hr.units) (es_var (pv 0)) (es_str) (nomark _)) (es_and (es_cmp (c_lt) (es_b1 (b_len) rfl T.n_len (by decide +kernel) (es_var (pv 1))) (es_int) (nomark _)) (es_one (es_b1 (b_all rfl) rfl T.n_all (by decide +kernel) (es_lc (own := [("level", 2)]) isF rfl sc_law_is_wish.nd (is_seq (es_var (pv 1))) (blkOk_by (own := [("level", 2)]) (N := ["wish", "levels", "level"]) (sc := defScope s_law_is_wish) (by decide +kernel)) (by decide) (fun _ _ _ _ _ => gs_name (pg_name (i := 2) sc_law_is_wish.nd rfl (by first | exact Or.inl rfl | exact Or.inr rfl))) (fun _ _ _ _ _ => tts_nil) (fun _ _ _ _ _ => es_or (es_cmp (c_eq hr.units) (es_var (pv 2)) (es_str) (nomark _)) (es_one (es_call tks0 (d_law_is_level T) (hr.mono (by omega)) rfl T.g_law_is_level T.k_law_is_level (as_cons (es_var (pv 2)) (as_nil))))))))))))))
theorem d_law_draw (T : Txt K mg A) : Df true P w K mg base J 3 3 A.f_law_draw m_law_draw := by
  obtain ⟨fd, F, hb⟩ := T.d_law_draw
  exact df_of F sc_law_draw hb fun cdv A outer s H E hr =>
    (ss_cons (ss_expr (es_bm1 m_append (es_var (pv 1)) (es_int)))
      (ss_one (ss_ret (es_mod (es_fdv (es_call (tks_of rfl rfl rfl rfl) (d_law_mix T) (hr.mono (by omega)) rfl T.g_law_mix T.k_law_mix (as_cons (es_var (pv 0)) (as_cons (es_b1 (b_len) rfl T.n_len (by decide +kernel) (es_var (pv 1))) (as_nil)))) (es_int)) (es_var (pv 2))))))
theorem d_law_pick (T : Txt K mg A) : Df true P w K mg base J 4 3 A.f_law_pick m_law_pick := by
  obtain ⟨fd, F, hb⟩ := T.d_law_pick
  exact df_of F sc_law_pick hb fun cdv A outer s H E hr =>
    (ss_one (ss_ret (es_ix (es_var (pv 2)) (es_call (tks_of rfl rfl rfl rfl) (d_law_draw T) (hr.mono (by omega)) rfl T.g_law_draw T.k_law_draw (as_cons (es_var (pv 0)) (as_cons (es_var (pv 1)) (as_cons (es_b1 (b_len) rfl T.n_len (by decide +kernel) (es_var (pv 2))) (as_nil))))))))
theorem d_law_signs (T : Txt K mg A) : Df true P w K mg base J 5 4 A.f_law_signs m_law_signs := by
  obtain ⟨fd, F, hb⟩ := T.d_law_signs
  exact df_of F sc_law_signs hb fun cdv A outer s H E hr =>
    (ss_cons (ss_asg (es_str) (gs_name (pg_name (i := 4) sc_law_signs.nd rfl (by first | exact Or.inl rfl | exact Or.inr rfl))))
      (ss_cons (ss_asg (es_str) (gs_name (pg_name (i := 5) sc_law_signs.nd rfl (by first | exact Or.inl rfl | exact Or.inr rfl))))
      (ss_cons (ss_for (passes_of rfl) rfl (is_range rfl T.n_range (es_var (pv 2))) (gs_name (pg_name (i := 6) sc_law_signs.nd rfl (by first | exact Or.inl rfl | exact Or.inr rfl))) (ss_cons (ss_asg (es_call (tks_of rfl rfl rfl rfl) (d_law_pick T) (hr.mono (by omega)) rfl T.g_law_pick T.k_law_pick (as_cons (es_var (pv 0)) (as_cons (es_var (pv 1)) (as_cons (es_var (pv 4)) (as_nil))))) (gs_name (pg_name (i := 7) sc_law_signs.nd rfl (by first | exact Or.inl rfl | exact Or.inr rfl))))
      (ss_one (ss_asg (es_add isF (es_var (pv 5)) (es_if (ts_w (ws_and (ts_cmp (c_in hr.u65) (es_var (pv 7)) (es_str)) (ws_and1 (ts_not (ts_tru (es_var (pv 3))))))) (es_str) (es_var (pv 7)))) (gs_name (pg_name (i := 5) sc_law_signs.nd rfl (by first | exact Or.inl rfl | exact Or.inr rfl)))))))
      (ss_one (ss_ret (es_var (pv 5)))))))
theorem d_law_small (T : Txt K mg A) : Df true P w K mg base J 5 2 A.f_law_small m_law_small := by
  obtain ⟨fd, F, hb⟩ := T.d_law_small
  exact df_of F sc_law_small hb fun cdv A outer s H E hr =>
    (ss_cons (ss_setLc (i := 2) (own := [("k", 3)]) isF rfl sc_law_small.nd rfl rfl (sw_true rfl rfl rfl (by decide +kernel)) (is_range rfl T.n_range (es_add isF (es_int) (es_call (tks_of rfl rfl rfl rfl) (d_law_draw T) (hr.mono (by omega)) rfl T.g_law_draw T.k_law_draw (as_cons (es_var (pv 0)) (as_cons (es_var (pv 1)) (as_cons (es_int) (as_nil))))))) (blkOk_by (own := [("k", 3)]) (N := ["script", "town", "levels", "k"]) (sc := defScope s_law_small) (by decide +kernel)) (by decide) (fun _ _ _ _ _ => gs_name (pg_name (i := 3) sc_law_small.nd rfl (by first | exact Or.inl rfl | exact Or.inr rfl))) (fun _ _ _ _ _ => tts_nil) (fun _ _ _ _ _ => es_call tks0 (d_law_pick T) (hr.mono (by omega)) rfl T.g_law_pick T.k_law_pick (as_cons (es_var (pv 0)) (as_cons (es_var (pv 1)) (as_cons (es_lst isF (as_cons (es_str) (as_cons (es_str) (as_cons (es_str) (as_cons (es_str) (as_cons (es_str) (as_cons (es_str) (as_nil)))))))) (as_nil))))))
      (ss_cons (ss_if (ts_cmp (c_eq hr.units) (es_call (tks_of rfl rfl rfl rfl) (d_law_draw T) (hr.mono (by omega)) rfl T.g_law_draw T.k_law_draw (as_cons (es_var (pv 0)) (as_cons (es_var (pv 1)) (as_cons (es_int) (as_nil))))) (es_int) (nomark _)) (ss_one (ss_asg (es_add isF (es_sl isF (es_var (pv 2)) (os_none) (os_some (es_call (tks_of rfl rfl rfl rfl) (d_law_draw T) (hr.mono (by omega)) rfl T.g_law_draw T.k_law_draw (as_cons (es_var (pv 0)) (as_cons (es_var (pv 1)) (as_cons (es_b1 (b_len) rfl T.n_len (by decide +kernel) (es_var (pv 2))) (as_nil))))))) (es_lst isF (as_cons (es_str) (as_nil)))) (gs_name (pg_name (i := 2) sc_law_small.nd rfl (by first | exact Or.inl rfl | exact Or.inr rfl))))) (ss_nil))
      (ss_one (ss_ret (es_if (ts_cmp (c_ne hr.units) (es_var (pv 2)) (es_lst isF (as_cons (es_str) (as_nil))) (nomark _)) (es_bm1 m_join (es_str) (es_var (pv 2))) (es_str))))))
theorem d_law_level (T : Txt K mg A) : Df true P w K mg base J 6 2 A.f_law_level m_law_level := by
  obtain ⟨fd, F, hb⟩ := T.d_law_level
  exact df_of F sc_law_level hb fun cdv A outer s H E hr =>
    (ss_cons (ss_asg (es_call (tks_of rfl rfl rfl rfl) (d_law_draw T) (hr.mono (by omega)) rfl T.g_law_draw T.k_law_draw (as_cons (es_var (pv 0)) (as_cons (es_var (pv 1)) (as_cons (es_int) (as_nil))))) (gs_name (pg_name (i := 2) sc_law_level.nd rfl (by first | exact Or.inl rfl | exact Or.inr rfl))))
      (ss_cons (ss_if (ts_cmp (c_lt) (es_var (pv 2)) (es_int) (nomark _)) (ss_one (ss_ret (es_call (tks_of rfl rfl rfl rfl) (d_law_pick T) (hr.mono (by omega)) rfl T.g_law_pick T.k_law_pick (as_cons (es_var (pv 0)) (as_cons (es_var (pv 1)) (as_cons (es_lst isF (as_cons (es_str) (as_cons (es_str) (as_cons (es_str) (as_cons (es_str) (as_cons (es_str) (as_nil))))))) (as_nil))))))) (ss_nil))
      (ss_one (ss_ret (es_call (tks_of rfl rfl rfl rfl) (d_law_signs T) (hr.mono (by omega)) rfl T.g_law_signs T.k_law_signs (as_cons (es_var (pv 0)) (as_cons (es_var (pv 1)) (as_cons (es_call (tks_of rfl rfl rfl rfl) (d_law_pick T) (hr.mono (by omega)) rfl T.g_law_pick T.k_law_pick (as_cons (es_var (pv 0)) (as_cons (es_var (pv 1)) (as_cons (es_lst isF (as_cons (es_int) (as_cons (es_int) (as_cons (es_int) (as_cons (es_int) (as_nil)))))) (as_nil))))) (as_cons (es_bl) (as_nil))))))))))
theorem d_law_great (T : Txt K mg A) : Df true P w K mg base J 7 2 A.f_law_great m_law_great := by
  obtain ⟨fd, F, hb⟩ := T.d_law_great
  exact df_of F sc_law_great hb fun cdv A outer s H E hr =>
    (ss_cons (ss_setLc (i := 2) (own := [("k", 3)]) isF rfl sc_law_great.nd rfl rfl (sw_true rfl rfl rfl (by decide +kernel)) (is_range rfl T.n_range (es_add isF (es_int) (es_call (tks_of rfl rfl rfl rfl) (d_law_draw T) (hr.mono (by omega)) rfl T.g_law_draw T.k_law_draw (as_cons (es_var (pv 0)) (as_cons (es_var (pv 1)) (as_cons (es_int) (as_nil))))))) (blkOk_by (own := [("k", 3)]) (N := ["script", "town", "levels", "k", "level"]) (sc := defScope s_law_great) (by decide +kernel)) (by decide) (fun _ _ _ _ _ => gs_name (pg_name (i := 3) sc_law_great.nd rfl (by first | exact Or.inl rfl | exact Or.inr rfl))) (fun _ _ _ _ _ => tts_nil) (fun _ _ _ _ _ => es_call tks0 (d_law_level T) (hr.mono (by omega)) rfl T.g_law_level T.k_law_level (as_cons (es_var (pv 0)) (as_cons (es_var (pv 1)) (as_nil)))))
      (ss_one (ss_ret (es_lc (own := [("level", 4)]) isF rfl sc_law_great.nd (is_seq (es_var (pv 2))) (blkOk_by (own := [("level", 4)]) (N := ["script", "town", "levels", "k", "level"]) (sc := defScope s_law_great) (by decide +kernel)) (by decide) (fun _ _ _ _ _ => gs_name (pg_name (i := 4) sc_law_great.nd rfl (by first | exact Or.inl rfl | exact Or.inr rfl))) (fun _ _ _ _ _ => tts_nil) (fun _ _ _ _ _ => es_call tks0 (d_law_pick T) (hr.mono (by omega)) rfl T.g_law_pick T.k_law_pick (as_cons (es_var (pv 0)) (as_cons (es_var (pv 1)) (as_cons (es_lst isF (as_cons (es_var (pv 4)) (as_cons (es_var (pv 4)) (as_cons (es_str) (as_nil))))) (as_nil)))))))))
theorem dr_fits_levels (T : Txt K mg A) : ∀ n, Df true P w K mg base J (1 + n) 2 A.f_fits_levels (r_fits_levels n)
  | 0 => by
    obtain ⟨fd, F, hb⟩ := T.d_fits_levels
    exact Df.mono (df_of (k := 0) F sc_fits_levels hb fun cdv A outer s H E hr => ss_bad) (by omega)
  | n + 1 => by
    obtain ⟨fd, F, hb⟩ := T.d_fits_levels
    have D := dr_fits_levels T n
    exact df_of (k := 1 + n) F sc_fits_levels hb fun cdv A outer s H E hr =>
    (ss_cons (ss_if (ts_cmp (c_eq hr.units) (es_sl isF (es_var (pv 0)) (os_none) (os_some (es_int))) (es_lst isF (as_cons (es_str) (as_nil))) (nomark _)) (ss_one (ss_ret (es_bl))) (ss_nil))
      (ss_cons (ss_if (ts_w (ws_or (ts_not (ts_tru (es_var (pv 0)))) (ws_or1 (ts_not (ts_tru (es_var (pv 1))))))) (ss_one (ss_ret (es_and (es_not (es_var (pv 0))) (es_one (es_not (es_var (pv 1))))))) (ss_nil))
      (ss_one (ss_ret (es_and (es_cmp (c_in hr.u65) (es_ix (es_var (pv 0)) (es_int)) (es_tup (as_cons (es_str) (as_cons (es_ix (es_var (pv 1)) (es_int)) (as_nil))))) (es_one (es_call (tks_of rfl rfl rfl rfl) D (hr.mono (by omega)) rfl T.g_fits_levels T.k_fits_levels (as_cons (es_sl isF (es_var (pv 0)) (os_some (es_int)) (os_none)) (as_cons (es_sl isF (es_var (pv 1)) (os_some (es_int)) (os_none)) (as_nil))))))))))
theorem d_fits_levels (T : Txt K mg A) : Df true P w K mg base J 13 2 A.f_fits_levels m_fits_levels := dr_fits_levels T 12
theorem dr_covers_levels (T : Txt K mg A) : ∀ n, Df true P w K mg base J (1 + n) 2 A.f_covers_levels (r_covers_levels n)
  | 0 => by
    obtain ⟨fd, F, hb⟩ := T.d_covers_levels
    exact Df.mono (df_of (k := 0) F sc_covers_levels hb fun cdv A outer s H E hr => ss_bad) (by omega)
  | n + 1 => by
    obtain ⟨fd, F, hb⟩ := T.d_covers_levels
    have D := dr_covers_levels T n
    exact df_of (k := 1 + n) F sc_covers_levels hb fun cdv A outer s H E hr =>
    (ss_cons (ss_if (ts_cmp (c_eq hr.units) (es_sl isF (es_var (pv 0)) (os_none) (os_some (es_int))) (es_lst isF (as_cons (es_str) (as_nil))) (nomark _)) (ss_one (ss_ret (es_bl))) (ss_nil))
      (ss_cons (ss_if (ts_w (ws_or (ts_not (ts_tru (es_var (pv 0)))) (ws_or1 (ts_not (ts_tru (es_var (pv 1))))))) (ss_one (ss_ret (es_and (es_not (es_var (pv 0))) (es_one (es_not (es_var (pv 1))))))) (ss_nil))
      (ss_cons (ss_if (ts_cmp (c_eq hr.units) (es_ix (es_var (pv 1)) (es_int)) (es_str) (nomark _)) (ss_one (ss_ret (es_bl))) (ss_nil))
      (ss_one (ss_ret (es_and (es_cmp (c_in hr.u65) (es_ix (es_var (pv 0)) (es_int)) (es_tup (as_cons (es_str) (as_cons (es_ix (es_var (pv 1)) (es_int)) (as_nil))))) (es_one (es_call (tks_of rfl rfl rfl rfl) D (hr.mono (by omega)) rfl T.g_covers_levels T.k_covers_levels (as_cons (es_sl isF (es_var (pv 0)) (os_some (es_int)) (os_none)) (as_cons (es_sl isF (es_var (pv 1)) (os_some (es_int)) (os_none)) (as_nil)))))))))))
theorem d_covers_levels (T : Txt K mg A) : Df true P w K mg base J 13 2 A.f_covers_levels m_covers_levels := dr_covers_levels T 12
theorem d_fits (T : Txt K mg A) : Df true P w K mg base J 14 2 A.f_fits m_fits := by
  obtain ⟨fd, F, hb⟩ := T.d_fits
  exact df_of F sc_fits hb fun cdv A outer s H E hr =>
    (ss_cons (ss_expr (es_call (tks_of rfl rfl rfl rfl) (d_look_wish T) (hr.mono (by omega)) rfl T.g_look_wish T.k_look_wish (as_cons (es_var (pv 0)) (as_nil))))
      (ss_cons (ss_expr (es_call (tks_of rfl rfl rfl rfl) (d_look_name T) (hr.mono (by omega)) rfl T.g_look_name T.k_look_name (as_cons (es_var (pv 1)) (as_nil))))
      (ss_cons (ss_asg (es_bm1 (m_split isF) (es_var (pv 0)) (es_str)) (gs_name (pg_name (i := 2) sc_fits.nd rfl (by first | exact Or.inl rfl | exact Or.inr rfl))))
      (ss_one (ss_ret (es_and (es_not (es_and (es_call (tks_of rfl rfl rfl rfl) (d_is_wide T) (hr.mono (by omega)) rfl T.g_is_wide T.k_is_wide (as_cons (es_ix (es_var (pv 2)) (es_int)) (as_nil))) (es_one (es_bm1 m_starts (es_var (pv 1)) (es_str))))) (es_one (es_call (tks_of rfl rfl rfl rfl) (d_fits_levels T) (hr.mono (by omega)) rfl T.g_fits_levels T.k_fits_levels (as_cons (es_var (pv 2)) (as_cons (es_bm1 (m_split isF) (es_var (pv 1)) (es_str)) (as_nil)))))))))))
theorem d_covers (T : Txt K mg A) : Df true P w K mg base J 14 2 A.f_covers m_covers := by
  obtain ⟨fd, F, hb⟩ := T.d_covers
  exact df_of F sc_covers hb fun cdv A outer s H E hr =>
    (ss_cons (ss_expr (es_call (tks_of rfl rfl rfl rfl) (d_look_wish T) (hr.mono (by omega)) rfl T.g_look_wish T.k_look_wish (as_cons (es_var (pv 0)) (as_nil))))
      (ss_cons (ss_expr (es_call (tks_of rfl rfl rfl rfl) (d_look_wish T) (hr.mono (by omega)) rfl T.g_look_wish T.k_look_wish (as_cons (es_var (pv 1)) (as_nil))))
      (ss_cons (ss_asg (es_bm1 (m_split isF) (es_var (pv 0)) (es_str)) (gs_name (pg_name (i := 2) sc_covers.nd rfl (by first | exact Or.inl rfl | exact Or.inr rfl))))
      (ss_cons (ss_asg (es_bm1 (m_split isF) (es_var (pv 1)) (es_str)) (gs_name (pg_name (i := 3) sc_covers.nd rfl (by first | exact Or.inl rfl | exact Or.inr rfl))))
      (ss_cons (ss_if (ts_cmp (c_in hr.u65) (es_var (pv 3)) (es_tup (as_cons (es_lst isF (as_cons (es_str) (as_nil))) (as_cons (es_lst isF (as_cons (es_str) (as_cons (es_str) (as_nil)))) (as_nil))))) (ss_one (ss_asg (es_add isF (es_sl isF (es_var (pv 3)) (os_none) (os_some (es_neg (es_int)))) (es_lst isF (as_cons (es_str) (as_cons (es_str) (as_nil))))) (gs_name (pg_name (i := 3) sc_covers.nd rfl (by first | exact Or.inl rfl | exact Or.inr rfl))))) (ss_nil))
      (ss_one (ss_ret (es_and (es_not (es_and (es_call (tks_of rfl rfl rfl rfl) (d_is_wide T) (hr.mono (by omega)) rfl T.g_is_wide T.k_is_wide (as_cons (es_ix (es_var (pv 2)) (es_int)) (as_nil))) (es_one (es_bm1 m_starts (es_var (pv 1)) (es_str))))) (es_one (es_call (tks_of rfl rfl rfl rfl) (d_covers_levels T) (hr.mono (by omega)) rfl T.g_covers_levels T.k_covers_levels (as_cons (es_var (pv 2)) (as_cons (es_var (pv 3)) (as_nil)))))))))))))
theorem dr_both_levels (T : Txt K mg A) : ∀ n, Df true P w K mg base J (2 + n) 2 A.f_both_levels (r_both_levels n)
  | 0 => by
    obtain ⟨fd, F, hb⟩ := T.d_both_levels
    exact Df.mono (df_of (k := 0) F sc_both_levels hb fun cdv A outer s H E hr => ss_bad) (by omega)
  | n + 1 => by
    obtain ⟨fd, F, hb⟩ := T.d_both_levels
    have D := dr_both_levels T n
    exact df_of (k := 2 + n) F sc_both_levels hb fun cdv A outer s H E hr =>
    (ss_cons (ss_if (ts_cmp (c_eq hr.units) (es_sl isF (es_var (pv 0)) (os_none) (os_some (es_int))) (es_lst isF (as_cons (es_str) (as_nil))) (nomark _)) (ss_one (ss_ret (es_call (tks_of rfl rfl rfl rfl) (d_plain_levels T) (hr.mono (by omega)) rfl T.g_plain_levels T.k_plain_levels (as_cons (es_var (pv 1)) (as_nil))))) (ss_nil))
      (ss_cons (ss_if (ts_cmp (c_eq hr.units) (es_sl isF (es_var (pv 1)) (os_none) (os_some (es_int))) (es_lst isF (as_cons (es_str) (as_nil))) (nomark _)) (ss_one (ss_ret (es_call (tks_of rfl rfl rfl rfl) (d_plain_levels T) (hr.mono (by omega)) rfl T.g_plain_levels T.k_plain_levels (as_cons (es_var (pv 0)) (as_nil))))) (ss_nil))
      (ss_cons (ss_if (ts_w (ws_or (ts_not (ts_tru (es_var (pv 0)))) (ws_or1 (ts_not (ts_tru (es_var (pv 1))))))) (ss_one (ss_ret (es_if (ts_w (ws_or (ts_tru (es_var (pv 0))) (ws_or1 (ts_tru (es_var (pv 1)))))) (es_non) (es_lst isF (as_nil))))) (ss_nil))
      (ss_cons (ss_if (ts_w (ws_and (ts_cmp (c_ne hr.units) (es_ix (es_var (pv 0)) (es_int)) (es_ix (es_var (pv 1)) (es_int)) (nomark _)) (ws_and1 (ts_cmp (c_notIn hr.u65) (es_str) (es_tup (as_cons (es_ix (es_var (pv 0)) (es_int)) (as_cons (es_ix (es_var (pv 1)) (es_int)) (as_nil)))))))) (ss_one (ss_ret (es_non))) (ss_nil))
      (ss_cons (ss_asg (es_if (ts_cmp (c_eq hr.units) (es_ix (es_var (pv 0)) (es_int)) (es_str) (nomark _)) (es_ix (es_var (pv 1)) (es_int)) (es_ix (es_var (pv 0)) (es_int))) (gs_name (pg_name (i := 2) sc_both_levels.nd rfl (by first | exact Or.inl rfl | exact Or.inr rfl))))
      (ss_cons (ss_asg (es_call (tks_of rfl rfl rfl rfl) D (hr.mono (by omega)) rfl T.g_both_levels T.k_both_levels (as_cons (es_sl isF (es_var (pv 0)) (os_some (es_int)) (os_none)) (as_cons (es_sl isF (es_var (pv 1)) (os_some (es_int)) (os_none)) (as_nil)))) (gs_name (pg_name (i := 3) sc_both_levels.nd rfl (by first | exact Or.inl rfl | exact Or.inr rfl))))
      (ss_one (ss_ret (es_if (ts_isN (es_var (pv 3))) (es_non) (es_add isF (es_call (tks_of rfl rfl rfl rfl) (d_plain_levels T) (hr.mono (by omega)) rfl T.g_plain_levels T.k_plain_levels (as_cons (es_lst isF (as_cons (es_var (pv 2)) (as_nil))) (as_nil))) (es_var (pv 3))))))))))))
theorem d_both_levels (T : Txt K mg A) : Df true P w K mg base J 14 2 A.f_both_levels m_both_levels := dr_both_levels T 12
theorem d_meeting (T : Txt K mg A) : Df true P w K mg base J 15 2 A.f_meeting m_meeting := by
  obtain ⟨fd, F, hb⟩ := T.d_meeting
  exact df_of F sc_meeting hb fun cdv A outer s H E hr =>
    (ss_cons (ss_expr (es_call (tks_of rfl rfl rfl rfl) (d_look_wish T) (hr.mono (by omega)) rfl T.g_look_wish T.k_look_wish (as_cons (es_var (pv 0)) (as_nil))))
      (ss_cons (ss_expr (es_call (tks_of rfl rfl rfl rfl) (d_look_wish T) (hr.mono (by omega)) rfl T.g_look_wish T.k_look_wish (as_cons (es_var (pv 1)) (as_nil))))
      (ss_cons (ss_asg (es_bm1 (m_split isF) (es_var (pv 0)) (es_str)) (gs_name (pg_name (i := 2) sc_meeting.nd rfl (by first | exact Or.inl rfl | exact Or.inr rfl))))
      (ss_cons (ss_asg (es_bm1 (m_split isF) (es_var (pv 1)) (es_str)) (gs_name (pg_name (i := 3) sc_meeting.nd rfl (by first | exact Or.inl rfl | exact Or.inr rfl))))
      (ss_cons (ss_if (ts_w (ws_or (ts_w (ws_and (ts_tru (es_call (tks_of rfl rfl rfl rfl) (d_is_wide T) (hr.mono (by omega)) rfl T.g_is_wide T.k_is_wide (as_cons (es_ix (es_var (pv 2)) (es_int)) (as_nil)))) (ws_and1 (ts_tru (es_bm1 m_starts (es_var (pv 1)) (es_str)))))) (ws_or1 (ts_w (ws_and (ts_tru (es_call (tks_of rfl rfl rfl rfl) (d_is_wide T) (hr.mono (by omega)) rfl T.g_is_wide T.k_is_wide (as_cons (es_ix (es_var (pv 3)) (es_int)) (as_nil)))) (ws_and1 (ts_tru (es_bm1 m_starts (es_var (pv 0)) (es_str))))))))) (ss_one (ss_ret (es_non))) (ss_nil))
      (ss_cons (ss_asg (es_call (tks_of rfl rfl rfl rfl) (d_both_levels T) (hr.mono (by omega)) rfl T.g_both_levels T.k_both_levels (as_cons (es_var (pv 2)) (as_cons (es_var (pv 3)) (as_nil)))) (gs_name (pg_name (i := 4) sc_meeting.nd rfl (by first | exact Or.inl rfl | exact Or.inr rfl))))
      (ss_cons (ss_if (ts_cmp (c_eq hr.units) (es_var (pv 4)) (es_lst isF (as_nil)) (nomark _)) (ss_one (ss_ret (es_str))) (ss_nil))
      (ss_cons (ss_if (ts_cmp (c_eq hr.units) (es_var (pv 4)) (es_lst isF (as_cons (es_str) (as_nil))) (nomark _)) (ss_one (ss_ret (es_if (ts_w (ws_and (ts_tru (es_call (tks_of rfl rfl rfl rfl) (d_fits T) (hr.mono (by omega)) rfl T.g_fits T.k_fits (as_cons (es_var (pv 0)) (as_cons (es_str) (as_nil))))) (ws_and1 (ts_tru (es_call (tks_of rfl rfl rfl rfl) (d_fits T) (hr.mono (by omega)) rfl T.g_fits T.k_fits (as_cons (es_var (pv 1)) (as_cons (es_str) (as_nil)))))))) (es_str) (es_non)))) (ss_nil))
      (ss_one (ss_ret (es_if (ts_isN (es_var (pv 4))) (es_non) (es_bm1 m_join (es_str) (es_var (pv 4))))))))))))))
theorem d_law_told (T : Txt K mg A) : Df true P w K mg base J 16 3 A.f_law_told m_law_told := by
  obtain ⟨fd, F, hb⟩ := T.d_law_told
  exact df_of F sc_law_told hb fun cdv A outer s H E hr =>
    (ss_cons (ss_asg (es_non) (gs_name (pg_name (i := 3) sc_law_told.nd rfl (by first | exact Or.inl rfl | exact Or.inr rfl))))
      (ss_cons (ss_asg (es_non) (gs_name (pg_name (i := 4) sc_law_told.nd rfl (by first | exact Or.inl rfl | exact Or.inr rfl))))
      (ss_cons (ss_try_held rfl rfl sc_law_told.nd (ie := 5) rfl rfl ⟨rfl, by decide, .inl T.gc_TidingError⟩ rfl T.xm_TidingError (fun W pn xe tk po => ss_one (ss_asg (es_if (ts_cmp (c_eq hr.units) (es_var (pv 0)) (es_int) (nomark _)) (es_call (Tks.up tk) (d_covers T) (hr.mono (by omega)) rfl T.g_covers T.k_covers (as_cons (es_var (pv 1)) (as_cons (es_var (pv 2)) (as_nil)))) (es_call (Tks.up tk) (d_meeting T) (hr.mono (by omega)) rfl T.g_meeting T.k_meeting (as_cons (es_var (pv 1)) (as_cons (es_var (pv 2)) (as_nil))))) (gs_name (pg_name (i := 4) sc_law_told.nd rfl (by first | exact Or.inl rfl | exact Or.inr rfl))))) (fun _ _ => pv 5) (fun _ _ => (pg_name (i := 3) sc_law_told.nd rfl (by first | exact Or.inl rfl | exact Or.inr rfl))))
      (ss_one (ss_ret (es_if (ts_isN (es_var (pv 3))) (es_var (pv 4)) (es_call (tks_of rfl rfl rfl rfl) (d_law_refusal T) (hr.mono (by omega)) rfl T.g_law_refusal T.k_law_refusal (as_cons (es_var (pv 3)) (as_nil)))))))))
theorem d_law_good (T : Txt K mg A) : Df true P w K mg base J 17 3 A.f_law_good m_law_good := by
  obtain ⟨fd, F, hb⟩ := T.d_law_good
  exact df_of F sc_law_good hb fun cdv A outer s H E hr =>
    (ss_cons (ss_asg (es_lc (own := [("name", 7)]) isF rfl sc_law_good.nd (is_seq (es_var (pv 2))) (blkOk_by (own := [("name", 7)]) (N := ["wish", "other", "names", "mine", "its", "due", "found", "name", "k"]) (sc := defScope s_law_good) (by decide +kernel)) (by decide) (fun _ _ _ _ _ => gs_name (pg_name (i := 7) sc_law_good.nd rfl (by first | exact Or.inl rfl | exact Or.inr rfl))) (fun _ _ _ _ _ => tts_nil) (fun _ _ _ _ _ => es_call tks0 (d_law_fits T) (hr.mono (by omega)) rfl T.g_law_fits T.k_law_fits (as_cons (es_var (pv 0)) (as_cons (es_var (pv 7)) (as_nil))))) (gs_name (pg_name (i := 3) sc_law_good.nd rfl (by first | exact Or.inl rfl | exact Or.inr rfl))))
      (ss_cons (ss_asg (es_lc (own := [("name", 7)]) isF rfl sc_law_good.nd (is_seq (es_var (pv 2))) (blkOk_by (own := [("name", 7)]) (N := ["wish", "other", "names", "mine", "its", "due", "found", "name", "k"]) (sc := defScope s_law_good) (by decide +kernel)) (by decide) (fun _ _ _ _ _ => gs_name (pg_name (i := 7) sc_law_good.nd rfl (by first | exact Or.inl rfl | exact Or.inr rfl))) (fun _ _ _ _ _ => tts_nil) (fun _ _ _ _ _ => es_call tks0 (d_law_fits T) (hr.mono (by omega)) rfl T.g_law_fits T.k_law_fits (as_cons (es_var (pv 1)) (as_cons (es_var (pv 7)) (as_nil))))) (gs_name (pg_name (i := 4) sc_law_good.nd rfl (by first | exact Or.inl rfl | exact Or.inr rfl))))
      (ss_cons (ss_asg (es_not (es_b1 (b_any rfl) rfl T.n_any (by decide +kernel) (es_lc (own := [("k", 8)]) isF rfl sc_law_good.nd (is_range rfl T.n_range (es_b1 (b_len) rfl T.n_len (by decide +kernel) (es_var (pv 2)))) (blkOk_by (own := [("k", 8)]) (N := ["wish", "other", "names", "mine", "its", "due", "found", "name", "k"]) (sc := defScope s_law_good) (by decide +kernel)) (by decide) (fun _ _ _ _ _ => gs_name (pg_name (i := 8) sc_law_good.nd rfl (by first | exact Or.inl rfl | exact Or.inr rfl))) (fun _ _ _ _ _ => tts_nil) (fun _ _ _ _ _ => es_and (es_ix (es_var (pv 4)) (es_var (pv 8))) (es_one (es_not (es_ix (es_var (pv 3)) (es_var (pv 8))))))))) (gs_name (pg_name (i := 5) sc_law_good.nd rfl (by first | exact Or.inl rfl | exact Or.inr rfl))))
      (ss_cons (ss_asg (es_call (tks_of rfl rfl rfl rfl) (d_law_told T) (hr.mono (by omega)) rfl T.g_law_told T.k_law_told (as_cons (es_int) (as_cons (es_var (pv 0)) (as_cons (es_var (pv 1)) (as_nil))))) (gs_name (pg_name (i := 6) sc_law_good.nd rfl (by first | exact Or.inl rfl | exact Or.inr rfl))))
      (ss_cons (ss_if (ts_w (ws_or (ts_not (ts_tru (es_isi (n := "bool") (by decide +kernel) rfl T.n_isinstance rfl T.n_bool (by decide +kernel) (es_var (pv 6))))) (ws_or1 (ts_cmp (c_ne hr.units) (es_var (pv 6)) (es_var (pv 5)) (nomark _))))) (ss_one (ss_ret (es_bl))) (ss_nil))
      (ss_cons (ss_asg (es_call (tks_of rfl rfl rfl rfl) (d_law_told T) (hr.mono (by omega)) rfl T.g_law_told T.k_law_told (as_cons (es_int) (as_cons (es_var (pv 0)) (as_cons (es_var (pv 1)) (as_nil))))) (gs_name (pg_name (i := 7) sc_law_good.nd rfl (by first | exact Or.inl rfl | exact Or.inr rfl))))
      (ss_cons (ss_if (ts_isN (es_var (pv 7))) (ss_one (ss_ret (es_not (es_b1 (b_any rfl) rfl T.n_any (by decide +kernel) (es_lc (own := [("k", 8)]) isF rfl sc_law_good.nd (is_range rfl T.n_range (es_b1 (b_len) rfl T.n_len (by decide +kernel) (es_var (pv 2)))) (blkOk_by (own := [("k", 8)]) (N := ["wish", "other", "names", "mine", "its", "due", "found", "name", "k"]) (sc := defScope s_law_good) (by decide +kernel)) (by decide) (fun _ _ _ _ _ => gs_name (pg_name (i := 8) sc_law_good.nd rfl (by first | exact Or.inl rfl | exact Or.inr rfl))) (fun _ _ _ _ _ => tts_nil) (fun _ _ _ _ _ => es_and (es_ix (es_var (pv 4)) (es_var (pv 8))) (es_one (es_ix (es_var (pv 3)) (es_var (pv 8)))))))))) (ss_nil))
      (ss_one (ss_ret (es_and (es_call (tks_of rfl rfl rfl rfl) (d_law_is_name T) (hr.mono (by omega)) rfl T.g_law_is_name T.k_law_is_name (as_cons (es_var (pv 7)) (as_nil))) (es_and (es_call (tks_of rfl rfl rfl rfl) (d_law_fits T) (hr.mono (by omega)) rfl T.g_law_fits T.k_law_fits (as_cons (es_var (pv 0)) (as_cons (es_var (pv 7)) (as_nil)))) (es_one (es_call (tks_of rfl rfl rfl rfl) (d_law_fits T) (hr.mono (by omega)) rfl T.g_law_fits T.k_law_fits (as_cons (es_var (pv 1)) (as_cons (es_var (pv 7)) (as_nil))))))))))))))))
theorem fn_law {fd : FuncData} (T : Txt K mg A) (F : Fun K "law" "law" s_law A.f_law fd) : FnOk P w K mg base (cxt true P w) 18 A.f_law fd ["script"] (spD ⟨K, mg, J⟩ 1 m_law) :=
  fn_of_body F sc_law rfl rfl fun cdv A outer s H E hr =>
    (ss_cons (ss_asg (es_lst isM (as_nil)) (gs_name (pg_name (i := 1) sc_law.nd rfl (by first | exact Or.inl rfl | exact Or.inr rfl))))
      (ss_cons (ss_asg (es_lst isF (as_cons (es_call (tks_of rfl rfl rfl rfl) (d_law_told T) (hr.mono (by omega)) rfl T.g_law_told T.k_law_told (as_cons (es_int) (as_cons (es_str) (as_cons (es_str) (as_nil))))) (as_cons (es_call (tks_of rfl rfl rfl rfl) (d_law_told T) (hr.mono (by omega)) rfl T.g_law_told T.k_law_told (as_cons (es_int) (as_cons (es_str) (as_cons (es_str) (as_nil))))) (as_cons (es_call (tks_of rfl rfl rfl rfl) (d_law_told T) (hr.mono (by omega)) rfl T.g_law_told T.k_law_told (as_cons (es_int) (as_cons (es_str) (as_cons (es_str) (as_nil))))) (as_cons (es_call (tks_of rfl rfl rfl rfl) (d_law_told T) (hr.mono (by omega)) rfl T.g_law_told T.k_law_told (as_cons (es_int) (as_cons (es_str) (as_cons (es_str) (as_nil))))) (as_nil)))))) (gs_name (pg_name (i := 2) sc_law.nd rfl (by first | exact Or.inl rfl | exact Or.inr rfl))))
      (ss_cons (ss_if (ts_w (ws_or (ts_cmp (c_ne hr.units) (es_var (pv 2)) (es_lst isF (as_cons (es_bl) (as_cons (es_bl) (as_cons (es_bl) (as_cons (es_bl) (as_nil)))))) (nomark _)) (ws_or1 (ts_notN (es_call (tks_of rfl rfl rfl rfl) (d_law_told T) (hr.mono (by omega)) rfl T.g_law_told T.k_law_told (as_cons (es_int) (as_cons (es_str) (as_cons (es_str) (as_nil))))))))) (ss_one (ss_ret (es_bl))) (ss_nil))
      (ss_cons (ss_if (ts_cmp (c_gt) (es_call (tks_of rfl rfl rfl rfl) (d_law_draw T) (hr.mono (by omega)) rfl T.g_law_draw T.k_law_draw (as_cons (es_var (pv 0)) (as_cons (es_var (pv 1)) (as_cons (es_int) (as_nil))))) (es_int) (nomark _)) (ss_cons (ss_asg (es_call (tks_of rfl rfl rfl rfl) (d_law_small T) (hr.mono (by omega)) rfl T.g_law_small T.k_law_small (as_cons (es_var (pv 0)) (as_cons (es_var (pv 1)) (as_nil)))) (gs_name (pg_name (i := 3) sc_law.nd rfl (by first | exact Or.inl rfl | exact Or.inr rfl))))
      (ss_one (ss_ret (es_call (tks_of rfl rfl rfl rfl) (d_law_good T) (hr.mono (by omega)) rfl T.g_law_good T.k_law_good (as_cons (es_var (pv 3)) (as_cons (es_call (tks_of rfl rfl rfl rfl) (d_law_small T) (hr.mono (by omega)) rfl T.g_law_small T.k_law_small (as_cons (es_var (pv 0)) (as_cons (es_var (pv 1)) (as_nil)))) (as_cons (es_call0 (tks_of rfl rfl rfl rfl) (d_law_names T) (hr.mono (by omega)) rfl T.g_law_names T.k_law_names) (as_nil)))))))) (ss_nil))
      (ss_cons (ss_asg (es_call (tks_of rfl rfl rfl rfl) (d_law_great T) (hr.mono (by omega)) rfl T.g_law_great T.k_law_great (as_cons (es_var (pv 0)) (as_cons (es_var (pv 1)) (as_nil)))) (gs_name (pg_name (i := 4) sc_law.nd rfl (by first | exact Or.inl rfl | exact Or.inr rfl))))
      (ss_cons (ss_setLc (i := 5) (own := [("level", 9)]) isM rfl sc_law.nd rfl rfl (sw_true rfl rfl rfl (by decide +kernel)) (is_seq (es_var (pv 4))) (blkOk_by (own := [("level", 9)]) (N := ["script", "town", "known", "wish", "wished", "others", "other", "name", "met", "level", "way"]) (sc := defScope s_law) (by decide +kernel)) (by decide) (fun _ _ _ _ _ => gs_name (pg_name (i := 9) sc_law.nd rfl (by first | exact Or.inl rfl | exact Or.inr rfl))) (fun _ _ _ _ _ => tts_nil) (fun _ _ _ _ _ => es_call tks0 (d_law_pick T) (hr.mono (by omega)) rfl T.g_law_pick T.k_law_pick (as_cons (es_var (pv 0)) (as_cons (es_var (pv 1)) (as_cons (es_lst isF (as_cons (es_var (pv 9)) (as_cons (es_var (pv 9)) (as_cons (es_var (pv 9)) (as_cons (es_str) (as_nil)))))) (as_nil))))))
      (ss_cons (ss_if (ts_cmp (c_eq hr.units) (es_call (tks_of rfl rfl rfl rfl) (d_law_draw T) (hr.mono (by omega)) rfl T.g_law_draw T.k_law_draw (as_cons (es_var (pv 0)) (as_cons (es_var (pv 1)) (as_cons (es_int) (as_nil))))) (es_int) (nomark _)) (ss_one (ss_asg (es_add isM (es_sl isF (es_var (pv 5)) (os_none) (os_some (es_call (tks_of rfl rfl rfl rfl) (d_law_draw T) (hr.mono (by omega)) rfl T.g_law_draw T.k_law_draw (as_cons (es_var (pv 0)) (as_cons (es_var (pv 1)) (as_cons (es_b1 (b_len) rfl T.n_len (by decide +kernel) (es_var (pv 5))) (as_nil))))))) (es_lst isF (as_cons (es_str) (as_nil)))) (gs_name (pg_name (i := 5) sc_law.nd rfl (by first | exact Or.inl rfl | exact Or.inr rfl))))) (ss_nil))
      (ss_cons (ss_if (ts_cmp (c_eq hr.units) (es_call (tks_of rfl rfl rfl rfl) (d_law_draw T) (hr.mono (by omega)) rfl T.g_law_draw T.k_law_draw (as_cons (es_var (pv 0)) (as_cons (es_var (pv 1)) (as_cons (es_int) (as_nil))))) (es_int) (nomark _)) (ss_one (ss_setI (es_var (pv 5)) (es_call (tks_of rfl rfl rfl rfl) (d_law_draw T) (hr.mono (by omega)) rfl T.g_law_draw T.k_law_draw (as_cons (es_var (pv 0)) (as_cons (es_var (pv 1)) (as_cons (es_b1 (b_len) rfl T.n_len (by decide +kernel) (es_var (pv 5))) (as_nil))))) (es_call (tks_of rfl rfl rfl rfl) (d_law_pick T) (hr.mono (by omega)) rfl T.g_law_pick T.k_law_pick (as_cons (es_var (pv 0)) (as_cons (es_var (pv 1)) (as_cons (es_lst isF (as_cons (es_str) (as_cons (es_str) (as_cons (es_str) (as_cons (es_str) (as_nil)))))) (as_nil))))))) (ss_nil))
      (ss_cons (ss_asg (es_tup (as_cons (es_bm1 m_join (es_str) (es_var (pv 4))) (as_cons (es_bm1 m_join (es_str) (es_var (pv 5))) (as_nil)))) (gs_tup rfl (gss_cons (pg_name (i := 3) sc_law.nd rfl (by first | exact Or.inl rfl | exact Or.inr rfl)) (gss_cons (pg_name (i := 6) sc_law.nd rfl (by first | exact Or.inl rfl | exact Or.inr rfl)) (gss_nil)))))
      (ss_cons (ss_if (ts_w (ws_or (ts_not (ts_tru (es_call (tks_of rfl rfl rfl rfl) (d_law_is_wish T) (hr.mono (by omega)) rfl T.g_law_is_wish T.k_law_is_wish (as_cons (es_var (pv 3)) (as_nil))))) (ws_or1 (ts_not (ts_tru (es_call (tks_of rfl rfl rfl rfl) (d_law_is_wish T) (hr.mono (by omega)) rfl T.g_law_is_wish T.k_law_is_wish (as_cons (es_var (pv 6)) (as_nil)))))))) (ss_one (ss_ret (es_cmp (c_eq hr.units) (es_lc (own := [("way", 10)]) isF rfl sc_law.nd (is_range rfl T.n_range (es_int)) (blkOk_by (own := [("way", 10)]) (N := ["script", "town", "known", "wish", "wished", "others", "other", "name", "met", "level", "way"]) (sc := defScope s_law) (by decide +kernel)) (by decide) (fun _ _ _ _ _ => gs_name (pg_name (i := 10) sc_law.nd rfl (by first | exact Or.inl rfl | exact Or.inr rfl))) (fun _ _ _ _ _ => tts_nil) (fun _ _ _ _ _ => es_call tks0 (d_law_told T) (hr.mono (by omega)) rfl T.g_law_told T.k_law_told (as_cons (es_var (pv 10)) (as_cons (es_var (pv 3)) (as_cons (es_var (pv 6)) (as_nil)))))) (es_rep isF (es_lst isF (as_cons (es_tup (as_cons (es_str) (as_cons (es_str) (as_nil)))) (as_nil))) (es_int)) (nomark _)))) (ss_nil))
      (ss_cons (ss_asg (es_call (tks_of rfl rfl rfl rfl) (d_law_told T) (hr.mono (by omega)) rfl T.g_law_told T.k_law_told (as_cons (es_int) (as_cons (es_var (pv 3)) (as_cons (es_var (pv 6)) (as_nil))))) (gs_name (pg_name (i := 7) sc_law.nd rfl (by first | exact Or.inl rfl | exact Or.inr rfl))))
      (ss_cons (ss_if (ts_w (ws_or (ts_cmp (c_isNotB) (es_call (tks_of rfl rfl rfl rfl) (d_law_told T) (hr.mono (by omega)) rfl T.g_law_told T.k_law_told (as_cons (es_int) (as_cons (es_var (pv 3)) (as_cons (es_var (pv 3)) (as_nil))))) (es_bl) (nomark _)) (ws_or1 (ts_cmp (c_isNotB) (es_call (tks_of rfl rfl rfl rfl) (d_law_told T) (hr.mono (by omega)) rfl T.g_law_told T.k_law_told (as_cons (es_int) (as_cons (es_var (pv 6)) (as_cons (es_var (pv 6)) (as_nil))))) (es_bl) (nomark _))))) (ss_one (ss_ret (es_bl))) (ss_nil))
      (ss_cons (ss_if (ts_w (ws_and (ts_notN (es_var (pv 7))) (ws_and1 (ts_not (ts_w (ws_and (ts_tru (es_call (tks_of rfl rfl rfl rfl) (d_law_is_name T) (hr.mono (by omega)) rfl T.g_law_is_name T.k_law_is_name (as_cons (es_var (pv 7)) (as_nil)))) (ws_and (ts_tru (es_call (tks_of rfl rfl rfl rfl) (d_law_fits T) (hr.mono (by omega)) rfl T.g_law_fits T.k_law_fits (as_cons (es_var (pv 3)) (as_cons (es_var (pv 7)) (as_nil))))) (ws_and1 (ts_tru (es_call (tks_of rfl rfl rfl rfl) (d_law_fits T) (hr.mono (by omega)) rfl T.g_law_fits T.k_law_fits (as_cons (es_var (pv 6)) (as_cons (es_var (pv 7)) (as_nil))))))))))))) (ss_one (ss_ret (es_bl))) (ss_nil))
      (ss_cons (ss_asg (es_lst isF (as_cons (es_call (tks_of rfl rfl rfl rfl) (d_law_told T) (hr.mono (by omega)) rfl T.g_law_told T.k_law_told (as_cons (es_int) (as_cons (es_var (pv 3)) (as_cons (es_var (pv 6)) (as_nil))))) (as_cons (es_call (tks_of rfl rfl rfl rfl) (d_law_told T) (hr.mono (by omega)) rfl T.g_law_told T.k_law_told (as_cons (es_int) (as_cons (es_var (pv 6)) (as_cons (es_var (pv 3)) (as_nil))))) (as_nil)))) (gs_name (pg_name (i := 8) sc_law.nd rfl (by first | exact Or.inl rfl | exact Or.inr rfl))))
      (ss_one (ss_ret (es_or (es_notN (es_var (pv 7))) (es_one (es_cmp (c_eq hr.units) (es_var (pv 8)) (es_lst isF (as_cons (es_bl) (as_cons (es_bl) (as_nil)))) (nomark _))))))))))))))))))))
end
theorem all_mk {l : PySem.W.OpenLaw} {w : World} {K : PySem.W.Frag} {h : Heap} {mg : Str → Option Value} {fa : Addr} (X : K.In h) (G : h.Ns mainGlobals mg) (hfa : mg "law" = some (.ref fa))
    {C_TidingError : Addr}
    {C_BadName : Addr}
    {C_BadPacket : Addr}
    {C_BadBytes : Addr}
    {C_BadLine : Addr}
    {C_BadText : Addr}
    {f_is_level : Addr} {od_is_level an_is_level : Option Addr} {sl_is_level : Array (Option Value)} {oc_is_level kV_is_level dc_is_level pm_is_level cd_is_level ct_is_level : Value}
    {f_is_wide : Addr} {od_is_wide an_is_wide : Option Addr} {sl_is_wide : Array (Option Value)} {oc_is_wide kV_is_wide dc_is_wide pm_is_wide cd_is_wide ct_is_wide : Value}
    {f_plain_levels : Addr} {od_plain_levels an_plain_levels : Option Addr} {sl_plain_levels : Array (Option Value)} {oc_plain_levels kV_plain_levels dc_plain_levels pm_plain_levels cd_plain_levels ct_plain_levels : Value}
    {f_law_cell : Addr} {od_law_cell an_law_cell : Option Addr} {sl_law_cell : Array (Option Value)} {oc_law_cell kV_law_cell dc_law_cell pm_law_cell cd_law_cell ct_law_cell : Value}
    {f_law_refusal : Addr} {od_law_refusal an_law_refusal : Option Addr} {sl_law_refusal : Array (Option Value)} {oc_law_refusal kV_law_refusal dc_law_refusal pm_law_refusal cd_law_refusal ct_law_refusal : Value}
    {f_law_is_level : Addr} {od_law_is_level an_law_is_level : Option Addr} {sl_law_is_level : Array (Option Value)} {oc_law_is_level kV_law_is_level dc_law_is_level pm_law_is_level cd_law_is_level ct_law_is_level : Value}
    {f_law_fits : Addr} {od_law_fits an_law_fits : Option Addr} {sl_law_fits : Array (Option Value)} {oc_law_fits kV_law_fits dc_law_fits pm_law_fits cd_law_fits ct_law_fits : Value}
    {f_law_names : Addr} {od_law_names an_law_names : Option Addr} {sl_law_names : Array (Option Value)} {oc_law_names kV_law_names dc_law_names pm_law_names cd_law_names ct_law_names : Value}
    {f_look_name : Addr} {od_look_name an_look_name : Option Addr} {sl_look_name : Array (Option Value)} {oc_look_name kV_look_name dc_look_name pm_look_name cd_look_name ct_look_name : Value}
    {f_look_wish : Addr} {od_look_wish an_look_wish : Option Addr} {sl_look_wish : Array (Option Value)} {oc_look_wish kV_look_wish dc_look_wish pm_look_wish cd_look_wish ct_look_wish : Value}
    {f_law_mix : Addr} {od_law_mix an_law_mix : Option Addr} {sl_law_mix : Array (Option Value)} {oc_law_mix kV_law_mix dc_law_mix pm_law_mix cd_law_mix ct_law_mix : Value}
    {f_law_is_name : Addr} {od_law_is_name an_law_is_name : Option Addr} {sl_law_is_name : Array (Option Value)} {oc_law_is_name kV_law_is_name dc_law_is_name pm_law_is_name cd_law_is_name ct_law_is_name : Value}
    {f_law_is_wish : Addr} {od_law_is_wish an_law_is_wish : Option Addr} {sl_law_is_wish : Array (Option Value)} {oc_law_is_wish kV_law_is_wish dc_law_is_wish pm_law_is_wish cd_law_is_wish ct_law_is_wish : Value}
    {f_law_draw : Addr} {od_law_draw an_law_draw : Option Addr} {sl_law_draw : Array (Option Value)} {oc_law_draw kV_law_draw dc_law_draw pm_law_draw cd_law_draw ct_law_draw : Value}
    {f_law_pick : Addr} {od_law_pick an_law_pick : Option Addr} {sl_law_pick : Array (Option Value)} {oc_law_pick kV_law_pick dc_law_pick pm_law_pick cd_law_pick ct_law_pick : Value}
    {f_law_signs : Addr} {od_law_signs an_law_signs : Option Addr} {sl_law_signs : Array (Option Value)} {oc_law_signs kV_law_signs dc_law_signs pm_law_signs cd_law_signs ct_law_signs : Value}
    {f_law_small : Addr} {od_law_small an_law_small : Option Addr} {sl_law_small : Array (Option Value)} {oc_law_small kV_law_small dc_law_small pm_law_small cd_law_small ct_law_small : Value}
    {f_law_level : Addr} {od_law_level an_law_level : Option Addr} {sl_law_level : Array (Option Value)} {oc_law_level kV_law_level dc_law_level pm_law_level cd_law_level ct_law_level : Value}
    {f_law_great : Addr} {od_law_great an_law_great : Option Addr} {sl_law_great : Array (Option Value)} {oc_law_great kV_law_great dc_law_great pm_law_great cd_law_great ct_law_great : Value}
    {f_fits_levels : Addr} {od_fits_levels an_fits_levels : Option Addr} {sl_fits_levels : Array (Option Value)} {oc_fits_levels kV_fits_levels dc_fits_levels pm_fits_levels cd_fits_levels ct_fits_levels : Value}
    {f_covers_levels : Addr} {od_covers_levels an_covers_levels : Option Addr} {sl_covers_levels : Array (Option Value)} {oc_covers_levels kV_covers_levels dc_covers_levels pm_covers_levels cd_covers_levels ct_covers_levels : Value}
    {f_fits : Addr} {od_fits an_fits : Option Addr} {sl_fits : Array (Option Value)} {oc_fits kV_fits dc_fits pm_fits cd_fits ct_fits : Value}
    {f_covers : Addr} {od_covers an_covers : Option Addr} {sl_covers : Array (Option Value)} {oc_covers kV_covers dc_covers pm_covers cd_covers ct_covers : Value}
    {f_both_levels : Addr} {od_both_levels an_both_levels : Option Addr} {sl_both_levels : Array (Option Value)} {oc_both_levels kV_both_levels dc_both_levels pm_both_levels cd_both_levels ct_both_levels : Value}
    {f_meeting : Addr} {od_meeting an_meeting : Option Addr} {sl_meeting : Array (Option Value)} {oc_meeting kV_meeting dc_meeting pm_meeting cd_meeting ct_meeting : Value}
    {f_law_told : Addr} {od_law_told an_law_told : Option Addr} {sl_law_told : Array (Option Value)} {oc_law_told kV_law_told dc_law_told pm_law_told cd_law_told ct_law_told : Value}
    {f_law_good : Addr} {od_law_good an_law_good : Option Addr} {sl_law_good : Array (Option Value)} {oc_law_good kV_law_good dc_law_good pm_law_good cd_law_good ct_law_good : Value}
    {f_law : Addr} {od_law an_law : Option Addr} {sl_law : Array (Option Value)} {oc_law kV_law dc_law pm_law cd_law ct_law : Value}
    {t_MOST_LEVELS : Tok}
    {t_MOST_SIGNS : Tok}
    (aC_TidingError : PySem.W.nsIn K mainGlobals "TidingError" = some (some (.ref C_TidingError)))
    (kC_TidingError : PySem.W.keepIn K (.ref C_TidingError) = true)
    (aC_BadName : PySem.W.nsIn K mainGlobals "BadName" = some (some (.ref C_BadName)))
    (kC_BadName : PySem.W.keepIn K (.ref C_BadName) = true)
    (aC_BadPacket : PySem.W.nsIn K mainGlobals "BadPacket" = some (some (.ref C_BadPacket)))
    (kC_BadPacket : PySem.W.keepIn K (.ref C_BadPacket) = true)
    (aC_BadBytes : PySem.W.nsIn K mainGlobals "BadBytes" = some (some (.ref C_BadBytes)))
    (kC_BadBytes : PySem.W.keepIn K (.ref C_BadBytes) = true)
    (aC_BadLine : PySem.W.nsIn K mainGlobals "BadLine" = some (some (.ref C_BadLine)))
    (kC_BadLine : PySem.W.keepIn K (.ref C_BadLine) = true)
    (aC_BadText : PySem.W.nsIn K mainGlobals "BadText" = some (some (.ref C_BadText)))
    (kC_BadText : PySem.W.keepIn K (.ref C_BadText) = true)
    (a_is_level : PySem.W.nsIn K mainGlobals "is_level" = some (some (.ref f_is_level)))
    (l_is_level : K.lookup f_is_level = some ⟨oc_is_level, od_is_level, .func (PySem.W.fnOf "is_level" "is_level" (defArgs s_is_level) (defBody s_is_level) (defScope s_is_level) .none kV_is_level dc_is_level pm_is_level an_is_level cd_is_level ct_is_level), sl_is_level⟩)
    (c_is_level : PySem.W.codeIn K cd_is_level "is_level" = true)
    (k_is_level : PySem.W.keepIn K (.ref f_is_level) = true)
    (a_is_wide : PySem.W.nsIn K mainGlobals "is_wide" = some (some (.ref f_is_wide)))
    (l_is_wide : K.lookup f_is_wide = some ⟨oc_is_wide, od_is_wide, .func (PySem.W.fnOf "is_wide" "is_wide" (defArgs s_is_wide) (defBody s_is_wide) (defScope s_is_wide) .none kV_is_wide dc_is_wide pm_is_wide an_is_wide cd_is_wide ct_is_wide), sl_is_wide⟩)
    (c_is_wide : PySem.W.codeIn K cd_is_wide "is_wide" = true)
    (k_is_wide : PySem.W.keepIn K (.ref f_is_wide) = true)
    (a_plain_levels : PySem.W.nsIn K mainGlobals "plain_levels" = some (some (.ref f_plain_levels)))
    (l_plain_levels : K.lookup f_plain_levels = some ⟨oc_plain_levels, od_plain_levels, .func (PySem.W.fnOf "plain_levels" "plain_levels" (defArgs s_plain_levels) (defBody s_plain_levels) (defScope s_plain_levels) .none kV_plain_levels dc_plain_levels pm_plain_levels an_plain_levels cd_plain_levels ct_plain_levels), sl_plain_levels⟩)
    (c_plain_levels : PySem.W.codeIn K cd_plain_levels "plain_levels" = true)
    (k_plain_levels : PySem.W.keepIn K (.ref f_plain_levels) = true)
    (a_law_cell : PySem.W.nsIn K mainGlobals "_law_cell" = some (some (.ref f_law_cell)))
    (l_law_cell : K.lookup f_law_cell = some ⟨oc_law_cell, od_law_cell, .func (PySem.W.fnOf "_law_cell" "_law_cell" (defArgs s_law_cell) (defBody s_law_cell) (defScope s_law_cell) .none kV_law_cell dc_law_cell pm_law_cell an_law_cell cd_law_cell ct_law_cell), sl_law_cell⟩)
    (c_law_cell : PySem.W.codeIn K cd_law_cell "_law_cell" = true)
    (k_law_cell : PySem.W.keepIn K (.ref f_law_cell) = true)
    (a_law_refusal : PySem.W.nsIn K mainGlobals "_law_refusal" = some (some (.ref f_law_refusal)))
    (l_law_refusal : K.lookup f_law_refusal = some ⟨oc_law_refusal, od_law_refusal, .func (PySem.W.fnOf "_law_refusal" "_law_refusal" (defArgs s_law_refusal) (defBody s_law_refusal) (defScope s_law_refusal) .none kV_law_refusal dc_law_refusal pm_law_refusal an_law_refusal cd_law_refusal ct_law_refusal), sl_law_refusal⟩)
    (c_law_refusal : PySem.W.codeIn K cd_law_refusal "_law_refusal" = true)
    (k_law_refusal : PySem.W.keepIn K (.ref f_law_refusal) = true)
    (a_law_is_level : PySem.W.nsIn K mainGlobals "_law_is_level" = some (some (.ref f_law_is_level)))
    (l_law_is_level : K.lookup f_law_is_level = some ⟨oc_law_is_level, od_law_is_level, .func (PySem.W.fnOf "_law_is_level" "_law_is_level" (defArgs s_law_is_level) (defBody s_law_is_level) (defScope s_law_is_level) .none kV_law_is_level dc_law_is_level pm_law_is_level an_law_is_level cd_law_is_level ct_law_is_level), sl_law_is_level⟩)
    (c_law_is_level : PySem.W.codeIn K cd_law_is_level "_law_is_level" = true)
    (k_law_is_level : PySem.W.keepIn K (.ref f_law_is_level) = true)
    (a_law_fits : PySem.W.nsIn K mainGlobals "_law_fits" = some (some (.ref f_law_fits)))
    (l_law_fits : K.lookup f_law_fits = some ⟨oc_law_fits, od_law_fits, .func (PySem.W.fnOf "_law_fits" "_law_fits" (defArgs s_law_fits) (defBody s_law_fits) (defScope s_law_fits) .none kV_law_fits dc_law_fits pm_law_fits an_law_fits cd_law_fits ct_law_fits), sl_law_fits⟩)
    (c_law_fits : PySem.W.codeIn K cd_law_fits "_law_fits" = true)
    (k_law_fits : PySem.W.keepIn K (.ref f_law_fits) = true)
    (a_law_names : PySem.W.nsIn K mainGlobals "_law_names" = some (some (.ref f_law_names)))
    (l_law_names : K.lookup f_law_names = some ⟨oc_law_names, od_law_names, .func (PySem.W.fnOf "_law_names" "_law_names" (defArgs s_law_names) (defBody s_law_names) (defScope s_law_names) .none kV_law_names dc_law_names pm_law_names an_law_names cd_law_names ct_law_names), sl_law_names⟩)
    (c_law_names : PySem.W.codeIn K cd_law_names "_law_names" = true)
    (k_law_names : PySem.W.keepIn K (.ref f_law_names) = true)
    (a_look_name : PySem.W.nsIn K mainGlobals "look_name" = some (some (.ref f_look_name)))
    (l_look_name : K.lookup f_look_name = some ⟨oc_look_name, od_look_name, .func (PySem.W.fnOf "look_name" "look_name" (defArgs s_look_name) (defBody s_look_name) (defScope s_look_name) .none kV_look_name dc_look_name pm_look_name an_look_name cd_look_name ct_look_name), sl_look_name⟩)
    (c_look_name : PySem.W.codeIn K cd_look_name "look_name" = true)
    (k_look_name : PySem.W.keepIn K (.ref f_look_name) = true)
    (a_look_wish : PySem.W.nsIn K mainGlobals "look_wish" = some (some (.ref f_look_wish)))
    (l_look_wish : K.lookup f_look_wish = some ⟨oc_look_wish, od_look_wish, .func (PySem.W.fnOf "look_wish" "look_wish" (defArgs s_look_wish) (defBody s_look_wish) (defScope s_look_wish) .none kV_look_wish dc_look_wish pm_look_wish an_look_wish cd_look_wish ct_look_wish), sl_look_wish⟩)
    (c_look_wish : PySem.W.codeIn K cd_look_wish "look_wish" = true)
    (k_look_wish : PySem.W.keepIn K (.ref f_look_wish) = true)
    (a_law_mix : PySem.W.nsIn K mainGlobals "_law_mix" = some (some (.ref f_law_mix)))
    (l_law_mix : K.lookup f_law_mix = some ⟨oc_law_mix, od_law_mix, .func (PySem.W.fnOf "_law_mix" "_law_mix" (defArgs s_law_mix) (defBody s_law_mix) (defScope s_law_mix) .none kV_law_mix dc_law_mix pm_law_mix an_law_mix cd_law_mix ct_law_mix), sl_law_mix⟩)
    (c_law_mix : PySem.W.codeIn K cd_law_mix "_law_mix" = true)
    (k_law_mix : PySem.W.keepIn K (.ref f_law_mix) = true)
    (a_law_is_name : PySem.W.nsIn K mainGlobals "_law_is_name" = some (some (.ref f_law_is_name)))
    (l_law_is_name : K.lookup f_law_is_name = some ⟨oc_law_is_name, od_law_is_name, .func (PySem.W.fnOf "_law_is_name" "_law_is_name" (defArgs s_law_is_name) (defBody s_law_is_name) (defScope s_law_is_name) .none kV_law_is_name dc_law_is_name pm_law_is_name an_law_is_name cd_law_is_name ct_law_is_name), sl_law_is_name⟩)
    (c_law_is_name : PySem.W.codeIn K cd_law_is_name "_law_is_name" = true)
    (k_law_is_name : PySem.W.keepIn K (.ref f_law_is_name) = true)
    (a_law_is_wish : PySem.W.nsIn K mainGlobals "_law_is_wish" = some (some (.ref f_law_is_wish)))
    (l_law_is_wish : K.lookup f_law_is_wish = some ⟨oc_law_is_wish, od_law_is_wish, .func (PySem.W.fnOf "_law_is_wish" "_law_is_wish" (defArgs s_law_is_wish) (defBody s_law_is_wish) (defScope s_law_is_wish) .none kV_law_is_wish dc_law_is_wish pm_law_is_wish an_law_is_wish cd_law_is_wish ct_law_is_wish), sl_law_is_wish⟩)
    (c_law_is_wish : PySem.W.codeIn K cd_law_is_wish "_law_is_wish" = true)
    (k_law_is_wish : PySem.W.keepIn K (.ref f_law_is_wish) = true)
    (a_law_draw : PySem.W.nsIn K mainGlobals "_law_draw" = some (some (.ref f_law_draw)))
    (l_law_draw : K.lookup f_law_draw = some ⟨oc_law_draw, od_law_draw, .func (PySem.W.fnOf "_law_draw" "_law_draw" (defArgs s_law_draw) (defBody s_law_draw) (defScope s_law_draw) .none kV_law_draw dc_law_draw pm_law_draw an_law_draw cd_law_draw ct_law_draw), sl_law_draw⟩)
    (c_law_draw : PySem.W.codeIn K cd_law_draw "_law_draw" = true)
    (k_law_draw : PySem.W.keepIn K (.ref f_law_draw) = true)
    (a_law_pick : PySem.W.nsIn K mainGlobals "_law_pick" = some (some (.ref f_law_pick)))
    (l_law_pick : K.lookup f_law_pick = some ⟨oc_law_pick, od_law_pick, .func (PySem.W.fnOf "_law_pick" "_law_pick" (defArgs s_law_pick) (defBody s_law_pick) (defScope s_law_pick) .none kV_law_pick dc_law_pick pm_law_pick an_law_pick cd_law_pick ct_law_pick), sl_law_pick⟩)
    (c_law_pick : PySem.W.codeIn K cd_law_pick "_law_pick" = true)
    (k_law_pick : PySem.W.keepIn K (.ref f_law_pick) = true)
    (a_law_signs : PySem.W.nsIn K mainGlobals "_law_signs" = some (some (.ref f_law_signs)))
    (l_law_signs : K.lookup f_law_signs = some ⟨oc_law_signs, od_law_signs, .func (PySem.W.fnOf "_law_signs" "_law_signs" (defArgs s_law_signs) (defBody s_law_signs) (defScope s_law_signs) .none kV_law_signs dc_law_signs pm_law_signs an_law_signs cd_law_signs ct_law_signs), sl_law_signs⟩)
    (c_law_signs : PySem.W.codeIn K cd_law_signs "_law_signs" = true)
    (k_law_signs : PySem.W.keepIn K (.ref f_law_signs) = true)
    (a_law_small : PySem.W.nsIn K mainGlobals "_law_small" = some (some (.ref f_law_small)))
    (l_law_small : K.lookup f_law_small = some ⟨oc_law_small, od_law_small, .func (PySem.W.fnOf "_law_small" "_law_small" (defArgs s_law_small) (defBody s_law_small) (defScope s_law_small) .none kV_law_small dc_law_small pm_law_small an_law_small cd_law_small ct_law_small), sl_law_small⟩)
    (c_law_small : PySem.W.codeIn K cd_law_small "_law_small" = true)
    (k_law_small : PySem.W.keepIn K (.ref f_law_small) = true)
    (a_law_level : PySem.W.nsIn K mainGlobals "_law_level" = some (some (.ref f_law_level)))
    (l_law_level : K.lookup f_law_level = some ⟨oc_law_level, od_law_level, .func (PySem.W.fnOf "_law_level" "_law_level" (defArgs s_law_level) (defBody s_law_level) (defScope s_law_level) .none kV_law_level dc_law_level pm_law_level an_law_level cd_law_level ct_law_level), sl_law_level⟩)
    (c_law_level : PySem.W.codeIn K cd_law_level "_law_level" = true)
    (k_law_level : PySem.W.keepIn K (.ref f_law_level) = true)
    (a_law_great : PySem.W.nsIn K mainGlobals "_law_great" = some (some (.ref f_law_great)))
    (l_law_great : K.lookup f_law_great = some ⟨oc_law_great, od_law_great, .func (PySem.W.fnOf "_law_great" "_law_great" (defArgs s_law_great) (defBody s_law_great) (defScope s_law_great) .none kV_law_great dc_law_great pm_law_great an_law_great cd_law_great ct_law_great), sl_law_great⟩)
    (c_law_great : PySem.W.codeIn K cd_law_great "_law_great" = true)
    (k_law_great : PySem.W.keepIn K (.ref f_law_great) = true)
    (a_fits_levels : PySem.W.nsIn K mainGlobals "fits_levels" = some (some (.ref f_fits_levels)))
    (l_fits_levels : K.lookup f_fits_levels = some ⟨oc_fits_levels, od_fits_levels, .func (PySem.W.fnOf "fits_levels" "fits_levels" (defArgs s_fits_levels) (defBody s_fits_levels) (defScope s_fits_levels) .none kV_fits_levels dc_fits_levels pm_fits_levels an_fits_levels cd_fits_levels ct_fits_levels), sl_fits_levels⟩)
    (c_fits_levels : PySem.W.codeIn K cd_fits_levels "fits_levels" = true)
    (k_fits_levels : PySem.W.keepIn K (.ref f_fits_levels) = true)
    (a_covers_levels : PySem.W.nsIn K mainGlobals "covers_levels" = some (some (.ref f_covers_levels)))
    (l_covers_levels : K.lookup f_covers_levels = some ⟨oc_covers_levels, od_covers_levels, .func (PySem.W.fnOf "covers_levels" "covers_levels" (defArgs s_covers_levels) (defBody s_covers_levels) (defScope s_covers_levels) .none kV_covers_levels dc_covers_levels pm_covers_levels an_covers_levels cd_covers_levels ct_covers_levels), sl_covers_levels⟩)
    (c_covers_levels : PySem.W.codeIn K cd_covers_levels "covers_levels" = true)
    (k_covers_levels : PySem.W.keepIn K (.ref f_covers_levels) = true)
    (a_fits : PySem.W.nsIn K mainGlobals "fits" = some (some (.ref f_fits)))
    (l_fits : K.lookup f_fits = some ⟨oc_fits, od_fits, .func (PySem.W.fnOf "fits" "fits" (defArgs s_fits) (defBody s_fits) (defScope s_fits) .none kV_fits dc_fits pm_fits an_fits cd_fits ct_fits), sl_fits⟩)
    (c_fits : PySem.W.codeIn K cd_fits "fits" = true)
    (k_fits : PySem.W.keepIn K (.ref f_fits) = true)
    (a_covers : PySem.W.nsIn K mainGlobals "covers" = some (some (.ref f_covers)))
    (l_covers : K.lookup f_covers = some ⟨oc_covers, od_covers, .func (PySem.W.fnOf "covers" "covers" (defArgs s_covers) (defBody s_covers) (defScope s_covers) .none kV_covers dc_covers pm_covers an_covers cd_covers ct_covers), sl_covers⟩)
    (c_covers : PySem.W.codeIn K cd_covers "covers" = true)
    (k_covers : PySem.W.keepIn K (.ref f_covers) = true)
    (a_both_levels : PySem.W.nsIn K mainGlobals "both_levels" = some (some (.ref f_both_levels)))
    (l_both_levels : K.lookup f_both_levels = some ⟨oc_both_levels, od_both_levels, .func (PySem.W.fnOf "both_levels" "both_levels" (defArgs s_both_levels) (defBody s_both_levels) (defScope s_both_levels) .none kV_both_levels dc_both_levels pm_both_levels an_both_levels cd_both_levels ct_both_levels), sl_both_levels⟩)
    (c_both_levels : PySem.W.codeIn K cd_both_levels "both_levels" = true)
    (k_both_levels : PySem.W.keepIn K (.ref f_both_levels) = true)
    (a_meeting : PySem.W.nsIn K mainGlobals "meeting" = some (some (.ref f_meeting)))
    (l_meeting : K.lookup f_meeting = some ⟨oc_meeting, od_meeting, .func (PySem.W.fnOf "meeting" "meeting" (defArgs s_meeting) (defBody s_meeting) (defScope s_meeting) .none kV_meeting dc_meeting pm_meeting an_meeting cd_meeting ct_meeting), sl_meeting⟩)
    (c_meeting : PySem.W.codeIn K cd_meeting "meeting" = true)
    (k_meeting : PySem.W.keepIn K (.ref f_meeting) = true)
    (a_law_told : PySem.W.nsIn K mainGlobals "_law_told" = some (some (.ref f_law_told)))
    (l_law_told : K.lookup f_law_told = some ⟨oc_law_told, od_law_told, .func (PySem.W.fnOf "_law_told" "_law_told" (defArgs s_law_told) (defBody s_law_told) (defScope s_law_told) .none kV_law_told dc_law_told pm_law_told an_law_told cd_law_told ct_law_told), sl_law_told⟩)
    (c_law_told : PySem.W.codeIn K cd_law_told "_law_told" = true)
    (k_law_told : PySem.W.keepIn K (.ref f_law_told) = true)
    (a_law_good : PySem.W.nsIn K mainGlobals "_law_good" = some (some (.ref f_law_good)))
    (l_law_good : K.lookup f_law_good = some ⟨oc_law_good, od_law_good, .func (PySem.W.fnOf "_law_good" "_law_good" (defArgs s_law_good) (defBody s_law_good) (defScope s_law_good) .none kV_law_good dc_law_good pm_law_good an_law_good cd_law_good ct_law_good), sl_law_good⟩)
    (c_law_good : PySem.W.codeIn K cd_law_good "_law_good" = true)
    (k_law_good : PySem.W.keepIn K (.ref f_law_good) = true)
    (a_law : PySem.W.nsIn K mainGlobals "law" = some (some (.ref f_law)))
    (l_law : K.lookup f_law = some ⟨oc_law, od_law, .func (PySem.W.fnOf "law" "law" (defArgs s_law) (defBody s_law) (defScope s_law) .none kV_law dc_law pm_law an_law cd_law ct_law), sl_law⟩)
    (c_law : PySem.W.codeIn K cd_law "law" = true)
    (k_law : PySem.W.keepIn K (.ref f_law) = true)
    (x_TidingError : PySem.W.excIn K C_TidingError [.type "ValueError", .type "Exception", .type "BaseException", .type "object"] "ValueError.__new__" = true)
    (b_TidingError : PySem.W.subIn K (.ref C_TidingError) (.type "BaseException") = some true)
    (t_TidingError : PySem.W.typeIn K (.ref C_TidingError) = some (.type "type"))
    (x_BadName : PySem.W.excIn K C_BadName [.type "ValueError", .type "Exception", .type "BaseException", .type "object"] "ValueError.__new__" = true)
    (b_BadName : PySem.W.subIn K (.ref C_BadName) (.type "BaseException") = some true)
    (t_BadName : PySem.W.typeIn K (.ref C_BadName) = some (.type "type"))
    (x_BadPacket : PySem.W.excIn K C_BadPacket [.type "ValueError", .type "Exception", .type "BaseException", .type "object"] "ValueError.__new__" = true)
    (b_BadPacket : PySem.W.subIn K (.ref C_BadPacket) (.type "BaseException") = some true)
    (t_BadPacket : PySem.W.typeIn K (.ref C_BadPacket) = some (.type "type"))
    (x_BadBytes : PySem.W.excIn K C_BadBytes [.type "ValueError", .type "Exception", .type "BaseException", .type "object"] "ValueError.__new__" = true)
    (b_BadBytes : PySem.W.subIn K (.ref C_BadBytes) (.type "BaseException") = some true)
    (t_BadBytes : PySem.W.typeIn K (.ref C_BadBytes) = some (.type "type"))
    (x_BadLine : PySem.W.excIn K C_BadLine [.type "ValueError", .type "Exception", .type "BaseException", .type "object"] "ValueError.__new__" = true)
    (b_BadLine : PySem.W.subIn K (.ref C_BadLine) (.type "BaseException") = some true)
    (t_BadLine : PySem.W.typeIn K (.ref C_BadLine) = some (.type "type"))
    (x_BadText : PySem.W.excIn K C_BadText [.type "ValueError", .type "Exception", .type "BaseException", .type "object"] "ValueError.__new__" = true)
    (b_BadText : PySem.W.subIn K (.ref C_BadText) (.type "BaseException") = some true)
    (t_BadText : PySem.W.typeIn K (.ref C_BadText) = some (.type "type"))
    (zm_TidingError_TidingError : PySem.W.exmOne K (.ref C_TidingError) (.ref C_TidingError) = some true)
    (zm_BadName_TidingError : PySem.W.exmOne K (.ref C_BadName) (.ref C_TidingError) = some true)
    (zm_BadPacket_TidingError : PySem.W.exmOne K (.ref C_BadPacket) (.ref C_TidingError) = some true)
    (zm_BadBytes_TidingError : PySem.W.exmOne K (.ref C_BadBytes) (.ref C_TidingError) = some true)
    (zm_BadLine_TidingError : PySem.W.exmOne K (.ref C_BadLine) (.ref C_TidingError) = some true)
    (zm_BadText_TidingError : PySem.W.exmOne K (.ref C_BadText) (.ref C_TidingError) = some true)
    (hn0 : PySem.W.specialIn K (.builtin "object.__class__") "__get__" = some (some (.builtin "getset_descriptor.__get__")))
    (ht0 : PySem.W.takesIn K (.builtin "object.__class__") = some true)
    (e1_TidingError : PySem.W.findIn K (.ref C_TidingError) "__getattribute__" = some (some (.builtin "BaseException.__getattribute__")))
    (e2_TidingError : PySem.W.findIn K (.ref C_TidingError) "__getattr__" = some none)
    (e3_TidingError : PySem.W.hasDictIn K C_TidingError = true)
    (e4_TidingError : PySem.W.findIn K (.ref C_TidingError) "__class__" = some (some (.builtin "object.__class__")))
    (e5_TidingError : PySem.W.mroIn K C_TidingError (.type "object") = some true)
    (e1_BadName : PySem.W.findIn K (.ref C_BadName) "__getattribute__" = some (some (.builtin "BaseException.__getattribute__")))
    (e2_BadName : PySem.W.findIn K (.ref C_BadName) "__getattr__" = some none)
    (e3_BadName : PySem.W.hasDictIn K C_BadName = true)
    (e4_BadName : PySem.W.findIn K (.ref C_BadName) "__class__" = some (some (.builtin "object.__class__")))
    (e5_BadName : PySem.W.mroIn K C_BadName (.type "object") = some true)
    (e1_BadPacket : PySem.W.findIn K (.ref C_BadPacket) "__getattribute__" = some (some (.builtin "BaseException.__getattribute__")))
    (e2_BadPacket : PySem.W.findIn K (.ref C_BadPacket) "__getattr__" = some none)
    (e3_BadPacket : PySem.W.hasDictIn K C_BadPacket = true)
    (e4_BadPacket : PySem.W.findIn K (.ref C_BadPacket) "__class__" = some (some (.builtin "object.__class__")))
    (e5_BadPacket : PySem.W.mroIn K C_BadPacket (.type "object") = some true)
    (e1_BadBytes : PySem.W.findIn K (.ref C_BadBytes) "__getattribute__" = some (some (.builtin "BaseException.__getattribute__")))
    (e2_BadBytes : PySem.W.findIn K (.ref C_BadBytes) "__getattr__" = some none)
    (e3_BadBytes : PySem.W.hasDictIn K C_BadBytes = true)
    (e4_BadBytes : PySem.W.findIn K (.ref C_BadBytes) "__class__" = some (some (.builtin "object.__class__")))
    (e5_BadBytes : PySem.W.mroIn K C_BadBytes (.type "object") = some true)
    (e1_BadLine : PySem.W.findIn K (.ref C_BadLine) "__getattribute__" = some (some (.builtin "BaseException.__getattribute__")))
    (e2_BadLine : PySem.W.findIn K (.ref C_BadLine) "__getattr__" = some none)
    (e3_BadLine : PySem.W.hasDictIn K C_BadLine = true)
    (e4_BadLine : PySem.W.findIn K (.ref C_BadLine) "__class__" = some (some (.builtin "object.__class__")))
    (e5_BadLine : PySem.W.mroIn K C_BadLine (.type "object") = some true)
    (e1_BadText : PySem.W.findIn K (.ref C_BadText) "__getattribute__" = some (some (.builtin "BaseException.__getattribute__")))
    (e2_BadText : PySem.W.findIn K (.ref C_BadText) "__getattr__" = some none)
    (e3_BadText : PySem.W.hasDictIn K C_BadText = true)
    (e4_BadText : PySem.W.findIn K (.ref C_BadText) "__class__" = some (some (.builtin "object.__class__")))
    (e5_BadText : PySem.W.mroIn K C_BadText (.type "object") = some true)
    (zk_TidingError_BadName : PySem.W.kitOne K (.ref C_TidingError) (.ref C_BadName) = some false)
    (zk_BadName_BadName : PySem.W.kitOne K (.ref C_BadName) (.ref C_BadName) = some true)
    (zk_BadPacket_BadName : PySem.W.kitOne K (.ref C_BadPacket) (.ref C_BadName) = some false)
    (zk_BadBytes_BadName : PySem.W.kitOne K (.ref C_BadBytes) (.ref C_BadName) = some false)
    (zk_BadLine_BadName : PySem.W.kitOne K (.ref C_BadLine) (.ref C_BadName) = some false)
    (zk_BadText_BadName : PySem.W.kitOne K (.ref C_BadText) (.ref C_BadName) = some false)
    (zk_TidingError_BadPacket : PySem.W.kitOne K (.ref C_TidingError) (.ref C_BadPacket) = some false)
    (zk_BadName_BadPacket : PySem.W.kitOne K (.ref C_BadName) (.ref C_BadPacket) = some false)
    (zk_BadPacket_BadPacket : PySem.W.kitOne K (.ref C_BadPacket) (.ref C_BadPacket) = some true)
    (zk_BadBytes_BadPacket : PySem.W.kitOne K (.ref C_BadBytes) (.ref C_BadPacket) = some false)
    (zk_BadLine_BadPacket : PySem.W.kitOne K (.ref C_BadLine) (.ref C_BadPacket) = some false)
    (zk_BadText_BadPacket : PySem.W.kitOne K (.ref C_BadText) (.ref C_BadPacket) = some false)
    (zk_TidingError_BadBytes : PySem.W.kitOne K (.ref C_TidingError) (.ref C_BadBytes) = some false)
    (zk_BadName_BadBytes : PySem.W.kitOne K (.ref C_BadName) (.ref C_BadBytes) = some false)
    (zk_BadPacket_BadBytes : PySem.W.kitOne K (.ref C_BadPacket) (.ref C_BadBytes) = some false)
    (zk_BadBytes_BadBytes : PySem.W.kitOne K (.ref C_BadBytes) (.ref C_BadBytes) = some true)
    (zk_BadLine_BadBytes : PySem.W.kitOne K (.ref C_BadLine) (.ref C_BadBytes) = some false)
    (zk_BadText_BadBytes : PySem.W.kitOne K (.ref C_BadText) (.ref C_BadBytes) = some false)
    (zk_TidingError_BadLine : PySem.W.kitOne K (.ref C_TidingError) (.ref C_BadLine) = some false)
    (zk_BadName_BadLine : PySem.W.kitOne K (.ref C_BadName) (.ref C_BadLine) = some false)
    (zk_BadPacket_BadLine : PySem.W.kitOne K (.ref C_BadPacket) (.ref C_BadLine) = some false)
    (zk_BadBytes_BadLine : PySem.W.kitOne K (.ref C_BadBytes) (.ref C_BadLine) = some false)
    (zk_BadLine_BadLine : PySem.W.kitOne K (.ref C_BadLine) (.ref C_BadLine) = some true)
    (zk_BadText_BadLine : PySem.W.kitOne K (.ref C_BadText) (.ref C_BadLine) = some false)
    (zk_TidingError_BadText : PySem.W.kitOne K (.ref C_TidingError) (.ref C_BadText) = some false)
    (zk_BadName_BadText : PySem.W.kitOne K (.ref C_BadName) (.ref C_BadText) = some false)
    (zk_BadPacket_BadText : PySem.W.kitOne K (.ref C_BadPacket) (.ref C_BadText) = some false)
    (zk_BadBytes_BadText : PySem.W.kitOne K (.ref C_BadBytes) (.ref C_BadText) = some false)
    (zk_BadLine_BadText : PySem.W.kitOne K (.ref C_BadLine) (.ref C_BadText) = some false)
    (zk_BadText_BadText : PySem.W.kitOne K (.ref C_BadText) (.ref C_BadText) = some true)
    (zk_TidingError_ValueError : PySem.W.kitOne K (.ref C_TidingError) (.type "ValueError") = some true)
    (zk_BadName_ValueError : PySem.W.kitOne K (.ref C_BadName) (.type "ValueError") = some true)
    (zk_BadPacket_ValueError : PySem.W.kitOne K (.ref C_BadPacket) (.type "ValueError") = some true)
    (zk_BadBytes_ValueError : PySem.W.kitOne K (.ref C_BadBytes) (.type "ValueError") = some true)
    (zk_BadLine_ValueError : PySem.W.kitOne K (.ref C_BadLine) (.type "ValueError") = some true)
    (zk_BadText_ValueError : PySem.W.kitOne K (.ref C_BadText) (.type "ValueError") = some true)
    (n_ValueError : PySem.W.nsIn K mainGlobals "ValueError" = some none)
    (n_all : PySem.W.nsIn K mainGlobals "all" = some none)
    (n_any : PySem.W.nsIn K mainGlobals "any" = some none)
    (n_bool : PySem.W.nsIn K mainGlobals "bool" = some none)
    (n_isinstance : PySem.W.nsIn K mainGlobals "isinstance" = some none)
    (n_len : PySem.W.nsIn K mainGlobals "len" = some none)
    (n_ord : PySem.W.nsIn K mainGlobals "ord" = some none)
    (n_range : PySem.W.nsIn K mainGlobals "range" = some none)
    (v_MOST_LEVELS : PySem.W.nsIn K mainGlobals "MOST_LEVELS" = some (some (.int 8 t_MOST_LEVELS)))
    (v_MOST_SIGNS : PySem.W.nsIn K mainGlobals "MOST_SIGNS" = some (some (.int 12 t_MOST_SIGNS))) :
    ∃ fd : FuncData, (∀ (s : Shared) (v : Value), BindsTo s fd ⟨[v], []⟩ [("script", v)]) ∧ ∀ base : Heap, K.In base → base.Ns mainGlobals mg → FnOk l.prog w K mg base (cxt true l.prog w) 18 fa fd ["script"] (spD ⟨K, mg, J⟩ 1 m_law) := by
  have e : fa = f_law := by
    have z := hfa.symm.trans (PySem.W.mg_of X G a_law)
    cases z
    rfl
  rw [e]
  have F_is_level := fun_mk (st := s_is_level) l_is_level c_is_level k_is_level
  have B_is_level := F_is_level.binds (ps := ["level"]) fun _ _ _ _ _ _ us hl => match us, hl with | [_], _ => rfl
  have F_is_wide := fun_mk (st := s_is_wide) l_is_wide c_is_wide k_is_wide
  have B_is_wide := F_is_wide.binds (ps := ["level"]) fun _ _ _ _ _ _ us hl => match us, hl with | [_], _ => rfl
  have F_plain_levels := fun_mk (st := s_plain_levels) l_plain_levels c_plain_levels k_plain_levels
  have B_plain_levels := F_plain_levels.binds (ps := ["wished"]) fun _ _ _ _ _ _ us hl => match us, hl with | [_], _ => rfl
  have F_law_cell := fun_mk (st := s_law_cell) l_law_cell c_law_cell k_law_cell
  have B_law_cell := F_law_cell.binds (ps := ["script", "k"]) fun _ _ _ _ _ _ us hl => match us, hl with | [_, _], _ => rfl
  have F_law_refusal := fun_mk (st := s_law_refusal) l_law_refusal c_law_refusal k_law_refusal
  have B_law_refusal := F_law_refusal.binds (ps := ["held"]) fun _ _ _ _ _ _ us hl => match us, hl with | [_], _ => rfl
  have F_law_is_level := fun_mk (st := s_law_is_level) l_law_is_level c_law_is_level k_law_is_level
  have B_law_is_level := F_law_is_level.binds (ps := ["level"]) fun _ _ _ _ _ _ us hl => match us, hl with | [_], _ => rfl
  have F_law_fits := fun_mk (st := s_law_fits) l_law_fits c_law_fits k_law_fits
  have B_law_fits := F_law_fits.binds (ps := ["wish", "name"]) fun _ _ _ _ _ _ us hl => match us, hl with | [_, _], _ => rfl
  have F_law_names := fun_mk (st := s_law_names) l_law_names c_law_names k_law_names
  have B_law_names := F_law_names.binds (ps := []) fun _ _ _ _ _ _ us hl => match us, hl with | [], _ => rfl
  have F_look_name := fun_mk (st := s_look_name) l_look_name c_look_name k_look_name
  have B_look_name := F_look_name.binds (ps := ["name"]) fun _ _ _ _ _ _ us hl => match us, hl with | [_], _ => rfl
  have F_look_wish := fun_mk (st := s_look_wish) l_look_wish c_look_wish k_look_wish
  have B_look_wish := F_look_wish.binds (ps := ["wish"]) fun _ _ _ _ _ _ us hl => match us, hl with | [_], _ => rfl
  have F_law_mix := fun_mk (st := s_law_mix) l_law_mix c_law_mix k_law_mix
  have B_law_mix := F_law_mix.binds (ps := ["script", "k"]) fun _ _ _ _ _ _ us hl => match us, hl with | [_, _], _ => rfl
  have F_law_is_name := fun_mk (st := s_law_is_name) l_law_is_name c_law_is_name k_law_is_name
  have B_law_is_name := F_law_is_name.binds (ps := ["name"]) fun _ _ _ _ _ _ us hl => match us, hl with | [_], _ => rfl
  have F_law_is_wish := fun_mk (st := s_law_is_wish) l_law_is_wish c_law_is_wish k_law_is_wish
  have B_law_is_wish := F_law_is_wish.binds (ps := ["wish"]) fun _ _ _ _ _ _ us hl => match us, hl with | [_], _ => rfl
  have F_law_draw := fun_mk (st := s_law_draw) l_law_draw c_law_draw k_law_draw
  have B_law_draw := F_law_draw.binds (ps := ["script", "town", "many"]) fun _ _ _ _ _ _ us hl => match us, hl with | [_, _, _], _ => rfl
  have F_law_pick := fun_mk (st := s_law_pick) l_law_pick c_law_pick k_law_pick
  have B_law_pick := F_law_pick.binds (ps := ["script", "town", "some"]) fun _ _ _ _ _ _ us hl => match us, hl with | [_, _, _], _ => rfl
  have F_law_signs := fun_mk (st := s_law_signs) l_law_signs c_law_signs k_law_signs
  have B_law_signs := F_law_signs.binds (ps := ["script", "town", "many", "also"]) fun _ _ _ _ _ _ us hl => match us, hl with | [_, _, _, _], _ => rfl
  have F_law_small := fun_mk (st := s_law_small) l_law_small c_law_small k_law_small
  have B_law_small := F_law_small.binds (ps := ["script", "town"]) fun _ _ _ _ _ _ us hl => match us, hl with | [_, _], _ => rfl
  have F_law_level := fun_mk (st := s_law_level) l_law_level c_law_level k_law_level
  have B_law_level := F_law_level.binds (ps := ["script", "town"]) fun _ _ _ _ _ _ us hl => match us, hl with | [_, _], _ => rfl
  have F_law_great := fun_mk (st := s_law_great) l_law_great c_law_great k_law_great
  have B_law_great := F_law_great.binds (ps := ["script", "town"]) fun _ _ _ _ _ _ us hl => match us, hl with | [_, _], _ => rfl
  have F_fits_levels := fun_mk (st := s_fits_levels) l_fits_levels c_fits_levels k_fits_levels
  have B_fits_levels := F_fits_levels.binds (ps := ["wished", "levels"]) fun _ _ _ _ _ _ us hl => match us, hl with | [_, _], _ => rfl
  have F_covers_levels := fun_mk (st := s_covers_levels) l_covers_levels c_covers_levels k_covers_levels
  have B_covers_levels := F_covers_levels.binds (ps := ["wished", "others"]) fun _ _ _ _ _ _ us hl => match us, hl with | [_, _], _ => rfl
  have F_fits := fun_mk (st := s_fits) l_fits c_fits k_fits
  have B_fits := F_fits.binds (ps := ["wish", "name"]) fun _ _ _ _ _ _ us hl => match us, hl with | [_, _], _ => rfl
  have F_covers := fun_mk (st := s_covers) l_covers c_covers k_covers
  have B_covers := F_covers.binds (ps := ["wish", "other"]) fun _ _ _ _ _ _ us hl => match us, hl with | [_, _], _ => rfl
  have F_both_levels := fun_mk (st := s_both_levels) l_both_levels c_both_levels k_both_levels
  have B_both_levels := F_both_levels.binds (ps := ["wished", "others"]) fun _ _ _ _ _ _ us hl => match us, hl with | [_, _], _ => rfl
  have F_meeting := fun_mk (st := s_meeting) l_meeting c_meeting k_meeting
  have B_meeting := F_meeting.binds (ps := ["wish", "other"]) fun _ _ _ _ _ _ us hl => match us, hl with | [_, _], _ => rfl
  have F_law_told := fun_mk (st := s_law_told) l_law_told c_law_told k_law_told
  have B_law_told := F_law_told.binds (ps := ["way", "wish", "other"]) fun _ _ _ _ _ _ us hl => match us, hl with | [_, _, _], _ => rfl
  have F_law_good := fun_mk (st := s_law_good) l_law_good c_law_good k_law_good
  have B_law_good := F_law_good.binds (ps := ["wish", "other", "names"]) fun _ _ _ _ _ _ us hl => match us, hl with | [_, _, _], _ => rfl
  have F_law := fun_mk (st := s_law) l_law c_law k_law
  have B_law := F_law.binds (ps := ["script"]) fun _ _ _ _ _ _ us hl => match us, hl with | [_], _ => rfl
  have E_TidingError : ExcC K C_TidingError := ⟨e1_TidingError, e2_TidingError, b_TidingError, e3_TidingError, e4_TidingError, hn0, ht0, e5_TidingError⟩
  have E_BadName : ExcC K C_BadName := ⟨e1_BadName, e2_BadName, b_BadName, e3_BadName, e4_BadName, hn0, ht0, e5_BadName⟩
  have E_BadPacket : ExcC K C_BadPacket := ⟨e1_BadPacket, e2_BadPacket, b_BadPacket, e3_BadPacket, e4_BadPacket, hn0, ht0, e5_BadPacket⟩
  have E_BadBytes : ExcC K C_BadBytes := ⟨e1_BadBytes, e2_BadBytes, b_BadBytes, e3_BadBytes, e4_BadBytes, hn0, ht0, e5_BadBytes⟩
  have E_BadLine : ExcC K C_BadLine := ⟨e1_BadLine, e2_BadLine, b_BadLine, e3_BadLine, e4_BadLine, hn0, ht0, e5_BadLine⟩
  have E_BadText : ExcC K C_BadText := ⟨e1_BadText, e2_BadText, b_BadText, e3_BadText, e4_BadText, hn0, ht0, e5_BadText⟩
  have T : Txt K mg { f_is_level := f_is_level, f_is_wide := f_is_wide, f_plain_levels := f_plain_levels, f_law_cell := f_law_cell, f_law_refusal := f_law_refusal, f_law_is_level := f_law_is_level, f_law_fits := f_law_fits, f_law_names := f_law_names, f_look_name := f_look_name, f_look_wish := f_look_wish, f_law_mix := f_law_mix, f_law_is_name := f_law_is_name, f_law_is_wish := f_law_is_wish, f_law_draw := f_law_draw, f_law_pick := f_law_pick, f_law_signs := f_law_signs, f_law_small := f_law_small, f_law_level := f_law_level, f_law_great := f_law_great, f_fits_levels := f_fits_levels, f_covers_levels := f_covers_levels, f_fits := f_fits, f_covers := f_covers, f_both_levels := f_both_levels, f_meeting := f_meeting, f_law_told := f_law_told, f_law_good := f_law_good, f_law := f_law, C_TidingError := C_TidingError, C_BadName := C_BadName, C_BadPacket := C_BadPacket, C_BadBytes := C_BadBytes, C_BadLine := C_BadLine, C_BadText := C_BadText, t_MOST_LEVELS := t_MOST_LEVELS, t_MOST_SIGNS := t_MOST_SIGNS } := { d_is_level := ⟨_, F_is_level, B_is_level⟩, g_is_level := PySem.W.mg_of X G a_is_level, k_is_level := k_is_level, d_is_wide := ⟨_, F_is_wide, B_is_wide⟩, g_is_wide := PySem.W.mg_of X G a_is_wide, k_is_wide := k_is_wide, d_plain_levels := ⟨_, F_plain_levels, B_plain_levels⟩, g_plain_levels := PySem.W.mg_of X G a_plain_levels, k_plain_levels := k_plain_levels, d_law_cell := ⟨_, F_law_cell, B_law_cell⟩, g_law_cell := PySem.W.mg_of X G a_law_cell, k_law_cell := k_law_cell, d_law_refusal := ⟨_, F_law_refusal, B_law_refusal⟩, g_law_refusal := PySem.W.mg_of X G a_law_refusal, k_law_refusal := k_law_refusal, d_law_is_level := ⟨_, F_law_is_level, B_law_is_level⟩, g_law_is_level := PySem.W.mg_of X G a_law_is_level, k_law_is_level := k_law_is_level, d_law_fits := ⟨_, F_law_fits, B_law_fits⟩, g_law_fits := PySem.W.mg_of X G a_law_fits, k_law_fits := k_law_fits, d_law_names := ⟨_, F_law_names, B_law_names⟩, g_law_names := PySem.W.mg_of X G a_law_names, k_law_names := k_law_names, d_look_name := ⟨_, F_look_name, B_look_name⟩, g_look_name := PySem.W.mg_of X G a_look_name, k_look_name := k_look_name, d_look_wish := ⟨_, F_look_wish, B_look_wish⟩, g_look_wish := PySem.W.mg_of X G a_look_wish, k_look_wish := k_look_wish, d_law_mix := ⟨_, F_law_mix, B_law_mix⟩, g_law_mix := PySem.W.mg_of X G a_law_mix, k_law_mix := k_law_mix, d_law_is_name := ⟨_, F_law_is_name, B_law_is_name⟩, g_law_is_name := PySem.W.mg_of X G a_law_is_name, k_law_is_name := k_law_is_name, d_law_is_wish := ⟨_, F_law_is_wish, B_law_is_wish⟩, g_law_is_wish := PySem.W.mg_of X G a_law_is_wish, k_law_is_wish := k_law_is_wish, d_law_draw := ⟨_, F_law_draw, B_law_draw⟩, g_law_draw := PySem.W.mg_of X G a_law_draw, k_law_draw := k_law_draw, d_law_pick := ⟨_, F_law_pick, B_law_pick⟩, g_law_pick := PySem.W.mg_of X G a_law_pick, k_law_pick := k_law_pick, d_law_signs := ⟨_, F_law_signs, B_law_signs⟩, g_law_signs := PySem.W.mg_of X G a_law_signs, k_law_signs := k_law_signs, d_law_small := ⟨_, F_law_small, B_law_small⟩, g_law_small := PySem.W.mg_of X G a_law_small, k_law_small := k_law_small, d_law_level := ⟨_, F_law_level, B_law_level⟩, g_law_level := PySem.W.mg_of X G a_law_level, k_law_level := k_law_level, d_law_great := ⟨_, F_law_great, B_law_great⟩, g_law_great := PySem.W.mg_of X G a_law_great, k_law_great := k_law_great, d_fits_levels := ⟨_, F_fits_levels, B_fits_levels⟩, g_fits_levels := PySem.W.mg_of X G a_fits_levels, k_fits_levels := k_fits_levels, d_covers_levels := ⟨_, F_covers_levels, B_covers_levels⟩, g_covers_levels := PySem.W.mg_of X G a_covers_levels, k_covers_levels := k_covers_levels, d_fits := ⟨_, F_fits, B_fits⟩, g_fits := PySem.W.mg_of X G a_fits, k_fits := k_fits, d_covers := ⟨_, F_covers, B_covers⟩, g_covers := PySem.W.mg_of X G a_covers, k_covers := k_covers, d_both_levels := ⟨_, F_both_levels, B_both_levels⟩, g_both_levels := PySem.W.mg_of X G a_both_levels, k_both_levels := k_both_levels, d_meeting := ⟨_, F_meeting, B_meeting⟩, g_meeting := PySem.W.mg_of X G a_meeting, k_meeting := k_meeting, d_law_told := ⟨_, F_law_told, B_law_told⟩, g_law_told := PySem.W.mg_of X G a_law_told, k_law_told := k_law_told, d_law_good := ⟨_, F_law_good, B_law_good⟩, g_law_good := PySem.W.mg_of X G a_law_good, k_law_good := k_law_good, d_law := ⟨_, F_law, B_law⟩, g_law := PySem.W.mg_of X G a_law, k_law := k_law, x_TidingError := x_TidingError, gc_TidingError := PySem.W.mg_of X G aC_TidingError, kc_TidingError := kC_TidingError, b_TidingError := b_TidingError, t_TidingError := t_TidingError, x_BadName := x_BadName, gc_BadName := PySem.W.mg_of X G aC_BadName, kc_BadName := kC_BadName, b_BadName := b_BadName, t_BadName := t_BadName, x_BadPacket := x_BadPacket, gc_BadPacket := PySem.W.mg_of X G aC_BadPacket, kc_BadPacket := kC_BadPacket, b_BadPacket := b_BadPacket, t_BadPacket := t_BadPacket, x_BadBytes := x_BadBytes, gc_BadBytes := PySem.W.mg_of X G aC_BadBytes, kc_BadBytes := kC_BadBytes, b_BadBytes := b_BadBytes, t_BadBytes := t_BadBytes, x_BadLine := x_BadLine, gc_BadLine := PySem.W.mg_of X G aC_BadLine, kc_BadLine := kC_BadLine, b_BadLine := b_BadLine, t_BadLine := t_BadLine, x_BadText := x_BadText, gc_BadText := PySem.W.mg_of X G aC_BadText, kc_BadText := kC_BadText, b_BadText := b_BadText, t_BadText := t_BadText, xm_TidingError := xm_cons (PySem.W.mg_of X G aC_TidingError) zm_TidingError_TidingError (xm_cons (PySem.W.mg_of X G aC_BadName) zm_BadName_TidingError (xm_cons (PySem.W.mg_of X G aC_BadPacket) zm_BadPacket_TidingError (xm_cons (PySem.W.mg_of X G aC_BadBytes) zm_BadBytes_TidingError (xm_cons (PySem.W.mg_of X G aC_BadLine) zm_BadLine_TidingError (xm_cons (PySem.W.mg_of X G aC_BadText) zm_BadText_TidingError (xm_nil)))))), ix_BadName := isx_cons (PySem.W.mg_of X G aC_TidingError) E_TidingError zk_TidingError_BadName (isx_cons (PySem.W.mg_of X G aC_BadName) E_BadName zk_BadName_BadName (isx_cons (PySem.W.mg_of X G aC_BadPacket) E_BadPacket zk_BadPacket_BadName (isx_cons (PySem.W.mg_of X G aC_BadBytes) E_BadBytes zk_BadBytes_BadName (isx_cons (PySem.W.mg_of X G aC_BadLine) E_BadLine zk_BadLine_BadName (isx_cons (PySem.W.mg_of X G aC_BadText) E_BadText zk_BadText_BadName (isx_nil)))))), ix_BadPacket := isx_cons (PySem.W.mg_of X G aC_TidingError) E_TidingError zk_TidingError_BadPacket (isx_cons (PySem.W.mg_of X G aC_BadName) E_BadName zk_BadName_BadPacket (isx_cons (PySem.W.mg_of X G aC_BadPacket) E_BadPacket zk_BadPacket_BadPacket (isx_cons (PySem.W.mg_of X G aC_BadBytes) E_BadBytes zk_BadBytes_BadPacket (isx_cons (PySem.W.mg_of X G aC_BadLine) E_BadLine zk_BadLine_BadPacket (isx_cons (PySem.W.mg_of X G aC_BadText) E_BadText zk_BadText_BadPacket (isx_nil)))))), ix_BadBytes := isx_cons (PySem.W.mg_of X G aC_TidingError) E_TidingError zk_TidingError_BadBytes (isx_cons (PySem.W.mg_of X G aC_BadName) E_BadName zk_BadName_BadBytes (isx_cons (PySem.W.mg_of X G aC_BadPacket) E_BadPacket zk_BadPacket_BadBytes (isx_cons (PySem.W.mg_of X G aC_BadBytes) E_BadBytes zk_BadBytes_BadBytes (isx_cons (PySem.W.mg_of X G aC_BadLine) E_BadLine zk_BadLine_BadBytes (isx_cons (PySem.W.mg_of X G aC_BadText) E_BadText zk_BadText_BadBytes (isx_nil)))))), ix_BadLine := isx_cons (PySem.W.mg_of X G aC_TidingError) E_TidingError zk_TidingError_BadLine (isx_cons (PySem.W.mg_of X G aC_BadName) E_BadName zk_BadName_BadLine (isx_cons (PySem.W.mg_of X G aC_BadPacket) E_BadPacket zk_BadPacket_BadLine (isx_cons (PySem.W.mg_of X G aC_BadBytes) E_BadBytes zk_BadBytes_BadLine (isx_cons (PySem.W.mg_of X G aC_BadLine) E_BadLine zk_BadLine_BadLine (isx_cons (PySem.W.mg_of X G aC_BadText) E_BadText zk_BadText_BadLine (isx_nil)))))), ix_BadText := isx_cons (PySem.W.mg_of X G aC_TidingError) E_TidingError zk_TidingError_BadText (isx_cons (PySem.W.mg_of X G aC_BadName) E_BadName zk_BadName_BadText (isx_cons (PySem.W.mg_of X G aC_BadPacket) E_BadPacket zk_BadPacket_BadText (isx_cons (PySem.W.mg_of X G aC_BadBytes) E_BadBytes zk_BadBytes_BadText (isx_cons (PySem.W.mg_of X G aC_BadLine) E_BadLine zk_BadLine_BadText (isx_cons (PySem.W.mg_of X G aC_BadText) E_BadText zk_BadText_BadText (isx_nil)))))), ix_ValueError := isx_cons (PySem.W.mg_of X G aC_TidingError) E_TidingError zk_TidingError_ValueError (isx_cons (PySem.W.mg_of X G aC_BadName) E_BadName zk_BadName_ValueError (isx_cons (PySem.W.mg_of X G aC_BadPacket) E_BadPacket zk_BadPacket_ValueError (isx_cons (PySem.W.mg_of X G aC_BadBytes) E_BadBytes zk_BadBytes_ValueError (isx_cons (PySem.W.mg_of X G aC_BadLine) E_BadLine zk_BadLine_ValueError (isx_cons (PySem.W.mg_of X G aC_BadText) E_BadText zk_BadText_ValueError (isx_nil)))))), n_ValueError := PySem.W.mg_none_of X G n_ValueError, n_all := PySem.W.mg_none_of X G n_all, n_any := PySem.W.mg_none_of X G n_any, n_bool := PySem.W.mg_none_of X G n_bool, n_isinstance := PySem.W.mg_none_of X G n_isinstance, n_len := PySem.W.mg_none_of X G n_len, n_ord := PySem.W.mg_none_of X G n_ord, n_range := PySem.W.mg_none_of X G n_range, c_MOST_LEVELS := PySem.W.mg_of X G v_MOST_LEVELS, c_MOST_SIGNS := PySem.W.mg_of X G v_MOST_SIGNS }
  exact ⟨PySem.W.fnOf "law" "law" (defArgs s_law) (defBody s_law) (defScope s_law) .none kV_law dc_law pm_law an_law cd_law ct_law, fun s v => .of_eq rfl, fun base _ _ => fn_law T F_law⟩
def spW (K : PySem.W.Frag) : Sp := fun vs H Q E => ∀ mg, spD ⟨K, mg, J⟩ 1 m_law vs H Q E
theorem walk (hlaw : ∀ ns : List Int, ns.length ≤ 63 → ∃ s, m_law [.lsk (ns.map .int)] [] = .ok (.bl true) s) {l : PySem.W.OpenLaw} {q : Program} {loose : List Str} {XP : (Str → Option Value) → Heap → Prop} {YP : World → Heap → Prop} {d : DefRec} {K : Params → PySem.W.Frag} (hn : l.most = some 63) (hdf : d.params.defaults = [])
    (hY : ∀ (w : World) (h : Heap), YP w h → (K w.params).In h)
    (F : ∀ (w : World) (mg : Str → Option Value) (fa : Addr) (h : Heap), (K w.params).In h → h.Ns mainGlobals mg → mg d.name = some (.ref fa) →
      ∃ fd : FuncData, (∀ (s : Shared) (u : Value), BindsTo s fd ⟨[u], []⟩ [("script", u)]) ∧ ∀ base : Heap, (K w.params).In base → base.Ns mainGlobals mg → FnOk l.prog w (K w.params) mg base (cxt true l.prog w) 18 fa fd ["script"] (spD ⟨K w.params, mg, J⟩ 1 m_law)) :
    PySem.W.WalkO q loose XP YP l.row.toRowW d [] (fun f vs => PySem.call f vs) :=
  L2.walk_of (n := 63) (k := 18) (x := "script") (CX := fun w => cxt true l.prog w) (sp := fun w => spW (K w.params)) hn (by decide) hdf ⟨rfl, by decide, by decide⟩ hY (fun w mg fa h kx hg hm => by
      obtain ⟨fd, h1, h2⟩ := F w mg fa h kx hg hm
      exact ⟨fd, h1, fun base hb hgb => (h2 base hb hgb).imp fun vs H Q E hs => hs mg⟩) (fun w H a ns hl _ hS mg => law_sp hlaw hl hS) fun w H s e s' h => by
    obtain ⟨_, _, _, _, _, _, _, _, _, _, _, _, z⟩ := h
    exact z
end Tx
namespace Tx
open PySem L2 Pd
/-! ### texts that are written -/
theorem t_slash : Str.ofString "/" = mkS [47] := by decide +kernel
theorem t_hash : Str.ofString "#" = mkS [35] := by decide +kernel
theorem t_plus : Str.ofString "+" = mkS [43] := by decide +kernel
theorem t_nil : Str.ofString "" = mkS [] := by decide +kernel
theorem t_bad : Str.ofString "+#/" = mkS [43, 35, 47] := by decide +kernel
theorem t_dollar : Str.ofString "$" = mkS [36] := by decide +kernel
theorem t_a : Str.ofString "a" = mkS [97] := by decide +kernel
/-! ### names and wishes, plainly -/
def sgn (c : Nat) : Bool := 32 ≤ c && c < 127 && c != 37 && !decide (c ∈ [43, 35, 47])
def gl (l : List Nat) : Bool := decide (l.length ≤ 12) && l.all sgn
def isName (l : List Nat) : Bool := !(l == []) && decide ((splC 47 l).length ≤ 8) && (splC 47 l).all gl
def plain (ls : List (List Nat)) : List (List Nat) := if ls.getLast? = some [35] then ls.dropLast else ls
def gw (l : List Nat) : Bool := l == [43] || gl l
def isWish (l : List Nat) : Bool := !(l == []) && decide ((splC 47 l).length ≤ 8) && (plain (splC 47 l)).all gw
theorem ev_is_level (l : List Nat) (s : Sto) : m_is_level [.str (mkS l)] s = .ok (.bl (gl l)) s := by
  by_cases h : l.length ≤ 12
  · have h1 : ¬ ((12 : Int) < l.length) := by omega
    have e3 : ∀ env1 : En, True → lcGo (gN 1) Pd.tYes (eAnd (eChain dLe dLt (eC (.int 32)) (eUn dOrd (eVar 1)) (eC (.int 127))) (eAnd (eOp dNe (eUn dOrd (eVar 1)) (eC (.int 37))) (eOp dNotIn (eVar 1) (eC (.str (mkS [43, 35, 47])))))) (fun _ => True) (l.map fun c => .str (mkS [c])) [some (.str (mkS l)), none] s = .ok (l.map fun c => .bl (sgn c)) s := fun _ _ => by
      refine lc_map trivial fun c _ => ⟨[some (.str (mkS l)), some (.str (mkS [c]))], rfl, rfl, ?_⟩
      by_cases h2 : (32 : Int) ≤ c
      · by_cases h3 : (c : Int) < 127
        · by_cases h4 : (c : Int) = 37
          · have e : c = 37 := by omega
            subst e
            rfl
          · have h5 : ((c : Int) == 37) = false := by simpa using h4
            simp only [fnOf, ev_seq, ev_asg, sBnd_def, ev_op, ev_un, bnd_def, ev_call, evs_cons, evs_nil, ev_var, ev_c, ev_if, ev_next, ev_expr, ev_tru, ev_bl, ev_and, ev_or, ev_not, ev_yes, ev_andE, ev_orE, ev_notE, ev_ifE, ev_chain, ofB_some, ofO_some, ofO_none, truD_non, truD_bl, truD_int, truD_str, truD_tup, truD_lst, truD_lsk, ev_tup, ev_lst, ev_nwF, ev_nwM, ev_meth, ev_make, ev_fld, ev_setF, ev_bm1, asQ_tup, asQ_lst, asQ_lsk, asL_lst, asL_lsk, dLen_tup, dLen_lst, dLen_lsk, dLen_str, dIx_tup, dIx_lst, dIx_lsk, dIx_str, dAdd_int, dNeg_int, isN_def, notN_def, isNon_non, isNon_int, isNon_bl, isNon_str, isNon_tup, isNon_lst, isNon_obj, isNon_exc, dEq_int, dNe_int, dEq_str, dNe_str, dEq_bl, atI_zero, atI_one, atI_2, atI_3, atI_4, atI_5, atI_6, atI_7, atI_8, atI_9, atI_10, atI_11, atI_12, atI_m1, ev_gT, setAll_nil, setAll_cons, iOp_int, ev_gN, ev_ret, List.map_cons, List.map_nil, List.length_cons, List.length_nil, rep_zero, rep_succ, List.cons_append, List.nil_append, List.getElem?_cons_zero, List.getElem?_cons_succ, List.set_cons_zero, List.set_cons_succ, Nat.sub_self, Nat.reduceAdd, Nat.reduceSub, Option.map_some, Option.bind_some, if_true, Bool.not_true, Bool.not_false, Bool.false_eq_true, if_false, decide_true, decide_false, Int.reduceBEq, Int.reduceEq, Int.reduceLT, Int.reduceLE, Int.reduceNeg, Int.reduceAdd, Int.reduceSub, Int.reduceMul, Int.reduceToNat, Nat.reduceLT, Nat.reduceLeDiff, beq_self_eq_true, reduceIte, eq_self, Int.reduceNe, Int.reduceBNe, not_true_eq_false, not_false_eq_true, true_and, and_true, true_or, or_true, false_or, or_false, and_false, false_and, decide_eq_true_eq, Bool.true_and, Bool.and_true, Bool.false_and, Bool.and_false, Bool.true_or, Bool.or_true, Bool.false_or, Bool.or_false, dOrd_mk, dLe, dLt, h2, h3, h5, dNotIn_sign]
            have h6 : sgn c = (!decide (c ∈ [43, 35, 47])) := by
              unfold sgn
              have a1 : decide (32 ≤ c) = true := decide_eq_true (by omega)
              have a2 : decide (c < 127) = true := decide_eq_true (by omega)
              have a3 : (c != 37) = true := by simp; omega
              rw [a1, a2, a3]; rfl
            rw [h6]
        · simp only [fnOf, ev_seq, ev_asg, sBnd_def, ev_op, ev_un, bnd_def, ev_call, evs_cons, evs_nil, ev_var, ev_c, ev_if, ev_next, ev_expr, ev_tru, ev_bl, ev_and, ev_or, ev_not, ev_yes, ev_andE, ev_orE, ev_notE, ev_ifE, ev_chain, ofB_some, ofO_some, ofO_none, truD_non, truD_bl, truD_int, truD_str, truD_tup, truD_lst, truD_lsk, ev_tup, ev_lst, ev_nwF, ev_nwM, ev_meth, ev_make, ev_fld, ev_setF, ev_bm1, asQ_tup, asQ_lst, asQ_lsk, asL_lst, asL_lsk, dLen_tup, dLen_lst, dLen_lsk, dLen_str, dIx_tup, dIx_lst, dIx_lsk, dIx_str, dAdd_int, dNeg_int, isN_def, notN_def, isNon_non, isNon_int, isNon_bl, isNon_str, isNon_tup, isNon_lst, isNon_obj, isNon_exc, dEq_int, dNe_int, dEq_str, dNe_str, dEq_bl, atI_zero, atI_one, atI_2, atI_3, atI_4, atI_5, atI_6, atI_7, atI_8, atI_9, atI_10, atI_11, atI_12, atI_m1, ev_gT, setAll_nil, setAll_cons, iOp_int, ev_gN, ev_ret, List.map_cons, List.map_nil, List.length_cons, List.length_nil, rep_zero, rep_succ, List.cons_append, List.nil_append, List.getElem?_cons_zero, List.getElem?_cons_succ, List.set_cons_zero, List.set_cons_succ, Nat.sub_self, Nat.reduceAdd, Nat.reduceSub, Option.map_some, Option.bind_some, if_true, Bool.not_true, Bool.not_false, Bool.false_eq_true, if_false, decide_true, decide_false, Int.reduceBEq, Int.reduceEq, Int.reduceLT, Int.reduceLE, Int.reduceNeg, Int.reduceAdd, Int.reduceSub, Int.reduceMul, Int.reduceToNat, Nat.reduceLT, Nat.reduceLeDiff, beq_self_eq_true, reduceIte, eq_self, Int.reduceNe, Int.reduceBNe, not_true_eq_false, not_false_eq_true, true_and, and_true, true_or, or_true, false_or, or_false, and_false, false_and, decide_eq_true_eq, Bool.true_and, Bool.and_true, Bool.false_and, Bool.and_false, Bool.true_or, Bool.or_true, Bool.false_or, Bool.or_false, dOrd_mk, dLe, dLt, h2, h3, dNotIn_sign]
          have h6 : sgn c = false := by
            unfold sgn
            have a2 : decide (c < 127) = false := decide_eq_false (by omega)
            rw [a2]; simp
          rw [h6]
      · simp only [fnOf, ev_seq, ev_asg, sBnd_def, ev_op, ev_un, bnd_def, ev_call, evs_cons, evs_nil, ev_var, ev_c, ev_if, ev_next, ev_expr, ev_tru, ev_bl, ev_and, ev_or, ev_not, ev_yes, ev_andE, ev_orE, ev_notE, ev_ifE, ev_chain, ofB_some, ofO_some, ofO_none, truD_non, truD_bl, truD_int, truD_str, truD_tup, truD_lst, truD_lsk, ev_tup, ev_lst, ev_nwF, ev_nwM, ev_meth, ev_make, ev_fld, ev_setF, ev_bm1, asQ_tup, asQ_lst, asQ_lsk, asL_lst, asL_lsk, dLen_tup, dLen_lst, dLen_lsk, dLen_str, dIx_tup, dIx_lst, dIx_lsk, dIx_str, dAdd_int, dNeg_int, isN_def, notN_def, isNon_non, isNon_int, isNon_bl, isNon_str, isNon_tup, isNon_lst, isNon_obj, isNon_exc, dEq_int, dNe_int, dEq_str, dNe_str, dEq_bl, atI_zero, atI_one, atI_2, atI_3, atI_4, atI_5, atI_6, atI_7, atI_8, atI_9, atI_10, atI_11, atI_12, atI_m1, ev_gT, setAll_nil, setAll_cons, iOp_int, ev_gN, ev_ret, List.map_cons, List.map_nil, List.length_cons, List.length_nil, rep_zero, rep_succ, List.cons_append, List.nil_append, List.getElem?_cons_zero, List.getElem?_cons_succ, List.set_cons_zero, List.set_cons_succ, Nat.sub_self, Nat.reduceAdd, Nat.reduceSub, Option.map_some, Option.bind_some, if_true, Bool.not_true, Bool.not_false, Bool.false_eq_true, if_false, decide_true, decide_false, Int.reduceBEq, Int.reduceEq, Int.reduceLT, Int.reduceLE, Int.reduceNeg, Int.reduceAdd, Int.reduceSub, Int.reduceMul, Int.reduceToNat, Nat.reduceLT, Nat.reduceLeDiff, beq_self_eq_true, reduceIte, eq_self, Int.reduceNe, Int.reduceBNe, not_true_eq_false, not_false_eq_true, true_and, and_true, true_or, or_true, false_or, or_false, and_false, false_and, decide_eq_true_eq, Bool.true_and, Bool.and_true, Bool.false_and, Bool.and_false, Bool.true_or, Bool.or_true, Bool.false_or, Bool.or_false, dOrd_mk, dLe, dLt, h2, dNotIn_sign]
        have h6 : sgn c = false := by
          unfold sgn
          have a2 : decide (32 ≤ c) = false := decide_eq_false (by omega)
          rw [a2]; simp
        rw [h6]
    have e4 := e3 [] trivial
    have hg : gl l = l.all sgn := by unfold gl; rw [decide_eq_true h, Bool.true_and]
    unfold m_is_level b_is_level
    simp only [fnOf, ev_seq, ev_asg, sBnd_def, ev_op, ev_un, bnd_def, ev_call, evs_cons, evs_nil, ev_var, ev_c, ev_if, ev_next, ev_expr, ev_tru, ev_bl, ev_and, ev_or, ev_not, ev_yes, ev_andE, ev_orE, ev_notE, ev_ifE, ev_chain, ofB_some, ofO_some, ofO_none, truD_non, truD_bl, truD_int, truD_str, truD_tup, truD_lst, truD_lsk, ev_tup, ev_lst, ev_nwF, ev_nwM, ev_meth, ev_make, ev_fld, ev_setF, ev_bm1, asQ_tup, asQ_lst, asQ_lsk, asL_lst, asL_lsk, dLen_tup, dLen_lst, dLen_lsk, dLen_str, dIx_tup, dIx_lst, dIx_lsk, dIx_str, dAdd_int, dNeg_int, isN_def, notN_def, isNon_non, isNon_int, isNon_bl, isNon_str, isNon_tup, isNon_lst, isNon_obj, isNon_exc, dEq_int, dNe_int, dEq_str, dNe_str, dEq_bl, atI_zero, atI_one, atI_2, atI_3, atI_4, atI_5, atI_6, atI_7, atI_8, atI_9, atI_10, atI_11, atI_12, atI_m1, ev_gT, setAll_nil, setAll_cons, iOp_int, ev_gN, ev_ret, List.map_cons, List.map_nil, List.length_cons, List.length_nil, rep_zero, rep_succ, List.cons_append, List.nil_append, List.getElem?_cons_zero, List.getElem?_cons_succ, List.set_cons_zero, List.set_cons_succ, Nat.sub_self, Nat.reduceAdd, Nat.reduceSub, Option.map_some, Option.bind_some, if_true, Bool.not_true, Bool.not_false, Bool.false_eq_true, if_false, decide_true, decide_false, Int.reduceBEq, Int.reduceEq, Int.reduceLT, Int.reduceLE, Int.reduceNeg, Int.reduceAdd, Int.reduceSub, Int.reduceMul, Int.reduceToNat, Nat.reduceLT, Nat.reduceLeDiff, beq_self_eq_true, reduceIte, eq_self, Int.reduceNe, Int.reduceBNe, not_true_eq_false, not_false_eq_true, true_and, and_true, true_or, or_true, false_or, or_false, and_false, false_and, decide_eq_true_eq, Bool.true_and, Bool.and_true, Bool.false_and, Bool.and_false, Bool.true_or, Bool.or_true, Bool.false_or, Bool.or_false, mkS_len, dGt, h1, t_bad, ev_lc, ev_iSeq, signs_mk, wipeD_nil, wipeD_cons, bndN, e4, dAll_map, hg]
  · have h1 : (12 : Int) < l.length := by omega
    have hg : gl l = false := by unfold gl; rw [decide_eq_false h, Bool.false_and]
    unfold m_is_level b_is_level
    simp only [fnOf, ev_seq, ev_asg, sBnd_def, ev_op, ev_un, bnd_def, ev_call, evs_cons, evs_nil, ev_var, ev_c, ev_if, ev_next, ev_expr, ev_tru, ev_bl, ev_and, ev_or, ev_not, ev_yes, ev_andE, ev_orE, ev_notE, ev_ifE, ev_chain, ofB_some, ofO_some, ofO_none, truD_non, truD_bl, truD_int, truD_str, truD_tup, truD_lst, truD_lsk, ev_tup, ev_lst, ev_nwF, ev_nwM, ev_meth, ev_make, ev_fld, ev_setF, ev_bm1, asQ_tup, asQ_lst, asQ_lsk, asL_lst, asL_lsk, dLen_tup, dLen_lst, dLen_lsk, dLen_str, dIx_tup, dIx_lst, dIx_lsk, dIx_str, dAdd_int, dNeg_int, isN_def, notN_def, isNon_non, isNon_int, isNon_bl, isNon_str, isNon_tup, isNon_lst, isNon_obj, isNon_exc, dEq_int, dNe_int, dEq_str, dNe_str, dEq_bl, atI_zero, atI_one, atI_2, atI_3, atI_4, atI_5, atI_6, atI_7, atI_8, atI_9, atI_10, atI_11, atI_12, atI_m1, ev_gT, setAll_nil, setAll_cons, iOp_int, ev_gN, ev_ret, List.map_cons, List.map_nil, List.length_cons, List.length_nil, rep_zero, rep_succ, List.cons_append, List.nil_append, List.getElem?_cons_zero, List.getElem?_cons_succ, List.set_cons_zero, List.set_cons_succ, Nat.sub_self, Nat.reduceAdd, Nat.reduceSub, Option.map_some, Option.bind_some, if_true, Bool.not_true, Bool.not_false, Bool.false_eq_true, if_false, decide_true, decide_false, Int.reduceBEq, Int.reduceEq, Int.reduceLT, Int.reduceLE, Int.reduceNeg, Int.reduceAdd, Int.reduceSub, Int.reduceMul, Int.reduceToNat, Nat.reduceLT, Nat.reduceLeDiff, beq_self_eq_true, reduceIte, eq_self, Int.reduceNe, Int.reduceBNe, not_true_eq_false, not_false_eq_true, true_and, and_true, true_or, or_true, false_or, or_false, and_false, false_and, decide_eq_true_eq, Bool.true_and, Bool.and_true, Bool.false_and, Bool.and_false, Bool.true_or, Bool.or_true, Bool.false_or, Bool.or_false, mkS_len, dGt, h1, hg]
theorem ev_look_name (l : List Nat) (s : Sto) : m_look_name [.str (mkS l)] s = if isName l = true then .ok .non s else .exc 1 s := by
  have e3 : lcGo (gN 2) Pd.tYes (eCall m_is_level [eVar 2]) (fun _ => True) (lvs (splC 47 l)) [some (.str (mkS l)), some (.lst (lvs (splC 47 l))), none] s = .ok ((splC 47 l).map fun p => .bl (gl p)) s :=
    by
      refine lc_map ?_ fun p _ => ⟨[some (.str (mkS l)), some (.lst (lvs (splC 47 l))), some (.str (mkS p))], rfl, rfl, ?_⟩
      · trivial
      · simp only [fnOf, ev_seq, ev_asg, sBnd_def, ev_op, ev_un, bnd_def, ev_call, evs_cons, evs_nil, ev_var, ev_c, ev_if, ev_next, ev_expr, ev_tru, ev_bl, ev_and, ev_or, ev_not, ev_yes, ev_andE, ev_orE, ev_notE, ev_ifE, ev_chain, ofB_some, ofO_some, ofO_none, truD_non, truD_bl, truD_int, truD_str, truD_tup, truD_lst, truD_lsk, ev_tup, ev_lst, ev_nwF, ev_nwM, ev_meth, ev_make, ev_fld, ev_setF, ev_bm1, asQ_tup, asQ_lst, asQ_lsk, asL_lst, asL_lsk, dLen_tup, dLen_lst, dLen_lsk, dLen_str, dIx_tup, dIx_lst, dIx_lsk, dIx_str, dAdd_int, dNeg_int, isN_def, notN_def, isNon_non, isNon_int, isNon_bl, isNon_str, isNon_tup, isNon_lst, isNon_obj, isNon_exc, dEq_int, dNe_int, dEq_str, dNe_str, dEq_bl, atI_zero, atI_one, atI_2, atI_3, atI_4, atI_5, atI_6, atI_7, atI_8, atI_9, atI_10, atI_11, atI_12, atI_m1, ev_gT, setAll_nil, setAll_cons, iOp_int, ev_gN, ev_ret, List.map_cons, List.map_nil, List.length_cons, List.length_nil, rep_zero, rep_succ, List.cons_append, List.nil_append, List.getElem?_cons_zero, List.getElem?_cons_succ, List.set_cons_zero, List.set_cons_succ, Nat.sub_self, Nat.reduceAdd, Nat.reduceSub, Option.map_some, Option.bind_some, if_true, Bool.not_true, Bool.not_false, Bool.false_eq_true, if_false, decide_true, decide_false, Int.reduceBEq, Int.reduceEq, Int.reduceLT, Int.reduceLE, Int.reduceNeg, Int.reduceAdd, Int.reduceSub, Int.reduceMul, Int.reduceToNat, Nat.reduceLT, Nat.reduceLeDiff, beq_self_eq_true, reduceIte, eq_self, Int.reduceNe, Int.reduceBNe, not_true_eq_false, not_false_eq_true, true_and, and_true, true_or, or_true, false_or, or_false, and_false, false_and, decide_eq_true_eq, Bool.true_and, Bool.and_true, Bool.false_and, Bool.and_false, Bool.true_or, Bool.or_true, Bool.false_or, Bool.or_false, ev_is_level]
  unfold m_look_name b_look_name
  by_cases h1 : (l == []) = true
  · have hn : isName l = false := by unfold isName; rw [h1]; rfl
    simp only [fnOf, ev_seq, ev_asg, sBnd_def, ev_op, ev_un, bnd_def, ev_call, evs_cons, evs_nil, ev_var, ev_c, ev_if, ev_next, ev_expr, ev_tru, ev_bl, ev_and, ev_or, ev_not, ev_yes, ev_andE, ev_orE, ev_notE, ev_ifE, ev_chain, ofB_some, ofO_some, ofO_none, truD_non, truD_bl, truD_int, truD_str, truD_tup, truD_lst, truD_lsk, ev_tup, ev_lst, ev_nwF, ev_nwM, ev_meth, ev_make, ev_fld, ev_setF, ev_bm1, asQ_tup, asQ_lst, asQ_lsk, asL_lst, asL_lsk, dLen_tup, dLen_lst, dLen_lsk, dLen_str, dIx_tup, dIx_lst, dIx_lsk, dIx_str, dAdd_int, dNeg_int, isN_def, notN_def, isNon_non, isNon_int, isNon_bl, isNon_str, isNon_tup, isNon_lst, isNon_obj, isNon_exc, dEq_int, dNe_int, dEq_str, dNe_str, dEq_bl, atI_zero, atI_one, atI_2, atI_3, atI_4, atI_5, atI_6, atI_7, atI_8, atI_9, atI_10, atI_11, atI_12, atI_m1, ev_gT, setAll_nil, setAll_cons, iOp_int, ev_gN, ev_ret, List.map_cons, List.map_nil, List.length_cons, List.length_nil, rep_zero, rep_succ, List.cons_append, List.nil_append, List.getElem?_cons_zero, List.getElem?_cons_succ, List.set_cons_zero, List.set_cons_succ, Nat.sub_self, Nat.reduceAdd, Nat.reduceSub, Option.map_some, Option.bind_some, if_true, Bool.not_true, Bool.not_false, Bool.false_eq_true, if_false, decide_true, decide_false, Int.reduceBEq, Int.reduceEq, Int.reduceLT, Int.reduceLE, Int.reduceNeg, Int.reduceAdd, Int.reduceSub, Int.reduceMul, Int.reduceToNat, Nat.reduceLT, Nat.reduceLeDiff, beq_self_eq_true, reduceIte, eq_self, Int.reduceNe, Int.reduceBNe, not_true_eq_false, not_false_eq_true, true_and, and_true, true_or, or_true, false_or, or_false, and_false, false_and, decide_eq_true_eq, Bool.true_and, Bool.and_true, Bool.false_and, Bool.and_false, Bool.true_or, Bool.or_true, Bool.false_or, Bool.or_false, t_slash, t_nil, isStr_str, dSplit_mk, mkS_beq, h1, ev_raise, hn]
  · have h1' : (l == []) = false := by simpa using h1
    by_cases h2 : (splC 47 l).length ≤ 8
    · have g2 : ¬ ((8 : Int) < (splC 47 l).length) := by omega
      have hn : isName l = (splC 47 l).all gl := by unfold isName; rw [h1', decide_eq_true h2]; rfl
      cases hq : (splC 47 l).all gl with
      | true => simp only [fnOf, ev_seq, ev_asg, sBnd_def, ev_op, ev_un, bnd_def, ev_call, evs_cons, evs_nil, ev_var, ev_c, ev_if, ev_next, ev_expr, ev_tru, ev_bl, ev_and, ev_or, ev_not, ev_yes, ev_andE, ev_orE, ev_notE, ev_ifE, ev_chain, ofB_some, ofO_some, ofO_none, truD_non, truD_bl, truD_int, truD_str, truD_tup, truD_lst, truD_lsk, ev_tup, ev_lst, ev_nwF, ev_nwM, ev_meth, ev_make, ev_fld, ev_setF, ev_bm1, asQ_tup, asQ_lst, asQ_lsk, asL_lst, asL_lsk, dLen_tup, dLen_lst, dLen_lsk, dLen_str, dIx_tup, dIx_lst, dIx_lsk, dIx_str, dAdd_int, dNeg_int, isN_def, notN_def, isNon_non, isNon_int, isNon_bl, isNon_str, isNon_tup, isNon_lst, isNon_obj, isNon_exc, dEq_int, dNe_int, dEq_str, dNe_str, dEq_bl, atI_zero, atI_one, atI_2, atI_3, atI_4, atI_5, atI_6, atI_7, atI_8, atI_9, atI_10, atI_11, atI_12, atI_m1, ev_gT, setAll_nil, setAll_cons, iOp_int, ev_gN, ev_ret, List.map_cons, List.map_nil, List.length_cons, List.length_nil, rep_zero, rep_succ, List.cons_append, List.nil_append, List.getElem?_cons_zero, List.getElem?_cons_succ, List.set_cons_zero, List.set_cons_succ, Nat.sub_self, Nat.reduceAdd, Nat.reduceSub, Option.map_some, Option.bind_some, if_true, Bool.not_true, Bool.not_false, Bool.false_eq_true, if_false, decide_true, decide_false, Int.reduceBEq, Int.reduceEq, Int.reduceLT, Int.reduceLE, Int.reduceNeg, Int.reduceAdd, Int.reduceSub, Int.reduceMul, Int.reduceToNat, Nat.reduceLT, Nat.reduceLeDiff, beq_self_eq_true, reduceIte, eq_self, Int.reduceNe, Int.reduceBNe, not_true_eq_false, not_false_eq_true, true_and, and_true, true_or, or_true, false_or, or_false, and_false, false_and, decide_eq_true_eq, Bool.true_and, Bool.and_true, Bool.false_and, Bool.and_false, Bool.true_or, Bool.or_true, Bool.false_or, Bool.or_false, t_slash, t_nil, isStr_str, dSplit_mk, mkS_beq, h1', dGt, List.length_map, g2, ev_lc, ev_iSeq, wipeD_nil, wipeD_cons, bndN, e3, dAll_map, hq, ev_raise, hn]
      | false => simp only [fnOf, ev_seq, ev_asg, sBnd_def, ev_op, ev_un, bnd_def, ev_call, evs_cons, evs_nil, ev_var, ev_c, ev_if, ev_next, ev_expr, ev_tru, ev_bl, ev_and, ev_or, ev_not, ev_yes, ev_andE, ev_orE, ev_notE, ev_ifE, ev_chain, ofB_some, ofO_some, ofO_none, truD_non, truD_bl, truD_int, truD_str, truD_tup, truD_lst, truD_lsk, ev_tup, ev_lst, ev_nwF, ev_nwM, ev_meth, ev_make, ev_fld, ev_setF, ev_bm1, asQ_tup, asQ_lst, asQ_lsk, asL_lst, asL_lsk, dLen_tup, dLen_lst, dLen_lsk, dLen_str, dIx_tup, dIx_lst, dIx_lsk, dIx_str, dAdd_int, dNeg_int, isN_def, notN_def, isNon_non, isNon_int, isNon_bl, isNon_str, isNon_tup, isNon_lst, isNon_obj, isNon_exc, dEq_int, dNe_int, dEq_str, dNe_str, dEq_bl, atI_zero, atI_one, atI_2, atI_3, atI_4, atI_5, atI_6, atI_7, atI_8, atI_9, atI_10, atI_11, atI_12, atI_m1, ev_gT, setAll_nil, setAll_cons, iOp_int, ev_gN, ev_ret, List.map_cons, List.map_nil, List.length_cons, List.length_nil, rep_zero, rep_succ, List.cons_append, List.nil_append, List.getElem?_cons_zero, List.getElem?_cons_succ, List.set_cons_zero, List.set_cons_succ, Nat.sub_self, Nat.reduceAdd, Nat.reduceSub, Option.map_some, Option.bind_some, if_true, Bool.not_true, Bool.not_false, Bool.false_eq_true, if_false, decide_true, decide_false, Int.reduceBEq, Int.reduceEq, Int.reduceLT, Int.reduceLE, Int.reduceNeg, Int.reduceAdd, Int.reduceSub, Int.reduceMul, Int.reduceToNat, Nat.reduceLT, Nat.reduceLeDiff, beq_self_eq_true, reduceIte, eq_self, Int.reduceNe, Int.reduceBNe, not_true_eq_false, not_false_eq_true, true_and, and_true, true_or, or_true, false_or, or_false, and_false, false_and, decide_eq_true_eq, Bool.true_and, Bool.and_true, Bool.false_and, Bool.and_false, Bool.true_or, Bool.or_true, Bool.false_or, Bool.or_false, t_slash, t_nil, isStr_str, dSplit_mk, mkS_beq, h1', dGt, List.length_map, g2, ev_lc, ev_iSeq, wipeD_nil, wipeD_cons, bndN, e3, dAll_map, hq, ev_raise, hn]
    · have g2 : (8 : Int) < (splC 47 l).length := by omega
      have hn : isName l = false := by unfold isName; rw [h1', decide_eq_false h2]; rfl
      simp only [fnOf, ev_seq, ev_asg, sBnd_def, ev_op, ev_un, bnd_def, ev_call, evs_cons, evs_nil, ev_var, ev_c, ev_if, ev_next, ev_expr, ev_tru, ev_bl, ev_and, ev_or, ev_not, ev_yes, ev_andE, ev_orE, ev_notE, ev_ifE, ev_chain, ofB_some, ofO_some, ofO_none, truD_non, truD_bl, truD_int, truD_str, truD_tup, truD_lst, truD_lsk, ev_tup, ev_lst, ev_nwF, ev_nwM, ev_meth, ev_make, ev_fld, ev_setF, ev_bm1, asQ_tup, asQ_lst, asQ_lsk, asL_lst, asL_lsk, dLen_tup, dLen_lst, dLen_lsk, dLen_str, dIx_tup, dIx_lst, dIx_lsk, dIx_str, dAdd_int, dNeg_int, isN_def, notN_def, isNon_non, isNon_int, isNon_bl, isNon_str, isNon_tup, isNon_lst, isNon_obj, isNon_exc, dEq_int, dNe_int, dEq_str, dNe_str, dEq_bl, atI_zero, atI_one, atI_2, atI_3, atI_4, atI_5, atI_6, atI_7, atI_8, atI_9, atI_10, atI_11, atI_12, atI_m1, ev_gT, setAll_nil, setAll_cons, iOp_int, ev_gN, ev_ret, List.map_cons, List.map_nil, List.length_cons, List.length_nil, rep_zero, rep_succ, List.cons_append, List.nil_append, List.getElem?_cons_zero, List.getElem?_cons_succ, List.set_cons_zero, List.set_cons_succ, Nat.sub_self, Nat.reduceAdd, Nat.reduceSub, Option.map_some, Option.bind_some, if_true, Bool.not_true, Bool.not_false, Bool.false_eq_true, if_false, decide_true, decide_false, Int.reduceBEq, Int.reduceEq, Int.reduceLT, Int.reduceLE, Int.reduceNeg, Int.reduceAdd, Int.reduceSub, Int.reduceMul, Int.reduceToNat, Nat.reduceLT, Nat.reduceLeDiff, beq_self_eq_true, reduceIte, eq_self, Int.reduceNe, Int.reduceBNe, not_true_eq_false, not_false_eq_true, true_and, and_true, true_or, or_true, false_or, or_false, and_false, false_and, decide_eq_true_eq, Bool.true_and, Bool.and_true, Bool.false_and, Bool.and_false, Bool.true_or, Bool.or_true, Bool.false_or, Bool.or_false, t_slash, t_nil, isStr_str, dSplit_mk, mkS_beq, h1', dGt, List.length_map, g2, ev_raise, hn]
theorem ev_look_wish (l : List Nat) (s : Sto) : m_look_wish [.str (mkS l)] s = if isWish l = true then .ok .non s else .exc 1 s := by
  obtain ⟨z, hz⟩ := splC_last_ne l
  have e3 : ∀ v : Dt, v = .lst (lvs (plain (splC 47 l))) → lcGo (gN 3) Pd.tYes (eOr (eOp dEq (eVar 3) (eC (.str (mkS [43])))) (eCall m_is_level [eVar 3])) (fun _ => True) (lvs (plain (splC 47 l))) [some (.str (mkS l)), some (.lst (lvs (splC 47 l))), some v, none] s = .ok ((plain (splC 47 l)).map fun p => .bl (gw p)) s := fun v _ =>
    by
      refine lc_map ?_ fun p _ => ⟨[some (.str (mkS l)), some (.lst (lvs (splC 47 l))), some v, some (.str (mkS p))], rfl, rfl, ?_⟩
      · trivial
      unfold gw
      cases hp : (p == [43]) with
      | true => simp only [fnOf, ev_seq, ev_asg, sBnd_def, ev_op, ev_un, bnd_def, ev_call, evs_cons, evs_nil, ev_var, ev_c, ev_if, ev_next, ev_expr, ev_tru, ev_bl, ev_and, ev_or, ev_not, ev_yes, ev_andE, ev_orE, ev_notE, ev_ifE, ev_chain, ofB_some, ofO_some, ofO_none, truD_non, truD_bl, truD_int, truD_str, truD_tup, truD_lst, truD_lsk, ev_tup, ev_lst, ev_nwF, ev_nwM, ev_meth, ev_make, ev_fld, ev_setF, ev_bm1, asQ_tup, asQ_lst, asQ_lsk, asL_lst, asL_lsk, dLen_tup, dLen_lst, dLen_lsk, dLen_str, dIx_tup, dIx_lst, dIx_lsk, dIx_str, dAdd_int, dNeg_int, isN_def, notN_def, isNon_non, isNon_int, isNon_bl, isNon_str, isNon_tup, isNon_lst, isNon_obj, isNon_exc, dEq_int, dNe_int, dEq_str, dNe_str, dEq_bl, atI_zero, atI_one, atI_2, atI_3, atI_4, atI_5, atI_6, atI_7, atI_8, atI_9, atI_10, atI_11, atI_12, atI_m1, ev_gT, setAll_nil, setAll_cons, iOp_int, ev_gN, ev_ret, List.map_cons, List.map_nil, List.length_cons, List.length_nil, rep_zero, rep_succ, List.cons_append, List.nil_append, List.getElem?_cons_zero, List.getElem?_cons_succ, List.set_cons_zero, List.set_cons_succ, Nat.sub_self, Nat.reduceAdd, Nat.reduceSub, Option.map_some, Option.bind_some, if_true, Bool.not_true, Bool.not_false, Bool.false_eq_true, if_false, decide_true, decide_false, Int.reduceBEq, Int.reduceEq, Int.reduceLT, Int.reduceLE, Int.reduceNeg, Int.reduceAdd, Int.reduceSub, Int.reduceMul, Int.reduceToNat, Nat.reduceLT, Nat.reduceLeDiff, beq_self_eq_true, reduceIte, eq_self, Int.reduceNe, Int.reduceBNe, not_true_eq_false, not_false_eq_true, true_and, and_true, true_or, or_true, false_or, or_false, and_false, false_and, decide_eq_true_eq, Bool.true_and, Bool.and_true, Bool.false_and, Bool.and_false, Bool.true_or, Bool.or_true, Bool.false_or, Bool.or_false, ev_is_level, mkS_beq, hp]
      | false => simp only [fnOf, ev_seq, ev_asg, sBnd_def, ev_op, ev_un, bnd_def, ev_call, evs_cons, evs_nil, ev_var, ev_c, ev_if, ev_next, ev_expr, ev_tru, ev_bl, ev_and, ev_or, ev_not, ev_yes, ev_andE, ev_orE, ev_notE, ev_ifE, ev_chain, ofB_some, ofO_some, ofO_none, truD_non, truD_bl, truD_int, truD_str, truD_tup, truD_lst, truD_lsk, ev_tup, ev_lst, ev_nwF, ev_nwM, ev_meth, ev_make, ev_fld, ev_setF, ev_bm1, asQ_tup, asQ_lst, asQ_lsk, asL_lst, asL_lsk, dLen_tup, dLen_lst, dLen_lsk, dLen_str, dIx_tup, dIx_lst, dIx_lsk, dIx_str, dAdd_int, dNeg_int, isN_def, notN_def, isNon_non, isNon_int, isNon_bl, isNon_str, isNon_tup, isNon_lst, isNon_obj, isNon_exc, dEq_int, dNe_int, dEq_str, dNe_str, dEq_bl, atI_zero, atI_one, atI_2, atI_3, atI_4, atI_5, atI_6, atI_7, atI_8, atI_9, atI_10, atI_11, atI_12, atI_m1, ev_gT, setAll_nil, setAll_cons, iOp_int, ev_gN, ev_ret, List.map_cons, List.map_nil, List.length_cons, List.length_nil, rep_zero, rep_succ, List.cons_append, List.nil_append, List.getElem?_cons_zero, List.getElem?_cons_succ, List.set_cons_zero, List.set_cons_succ, Nat.sub_self, Nat.reduceAdd, Nat.reduceSub, Option.map_some, Option.bind_some, if_true, Bool.not_true, Bool.not_false, Bool.false_eq_true, if_false, decide_true, decide_false, Int.reduceBEq, Int.reduceEq, Int.reduceLT, Int.reduceLE, Int.reduceNeg, Int.reduceAdd, Int.reduceSub, Int.reduceMul, Int.reduceToNat, Nat.reduceLT, Nat.reduceLeDiff, beq_self_eq_true, reduceIte, eq_self, Int.reduceNe, Int.reduceBNe, not_true_eq_false, not_false_eq_true, true_and, and_true, true_or, or_true, false_or, or_false, and_false, false_and, decide_eq_true_eq, Bool.true_and, Bool.and_true, Bool.false_and, Bool.and_false, Bool.true_or, Bool.or_true, Bool.false_or, Bool.or_false, ev_is_level, mkS_beq, hp]
  have e4 := e3 _ rfl
  have hl : ((splC 47 l).map fun l => Dt.str (mkS l)).getLast? = some (.str (mkS z)) := by rw [List.getLast?_map, hz]; rfl
  have e5 : (eIf (tBl (eOp dEq (eOp dIx (eVar 1) (eUn dNeg (eC (.int 1)))) (eC (.str (mkS [35]))))) (eSl nwF (eVar 1) none (some (eUn dNeg (eC (.int 1))))) (eVar 1)) [some (.str (mkS l)), some (.lst (lvs (splC 47 l))), none, none] s = .ok (.lst (lvs (plain (splC 47 l)))) s := by
    by_cases hh : z = [35]
    · have hb : (z == [35]) = true := by simpa using hh
      have hp : plain (splC 47 l) = (splC 47 l).dropLast := by unfold plain; rw [hz, hh, if_pos rfl]
      simp only [fnOf, ev_seq, ev_asg, sBnd_def, ev_op, ev_un, bnd_def, ev_call, evs_cons, evs_nil, ev_var, ev_c, ev_if, ev_next, ev_expr, ev_tru, ev_bl, ev_and, ev_or, ev_not, ev_yes, ev_andE, ev_orE, ev_notE, ev_ifE, ev_chain, ofB_some, ofO_some, ofO_none, truD_non, truD_bl, truD_int, truD_str, truD_tup, truD_lst, truD_lsk, ev_tup, ev_lst, ev_nwF, ev_nwM, ev_meth, ev_make, ev_fld, ev_setF, ev_bm1, asQ_tup, asQ_lst, asQ_lsk, asL_lst, asL_lsk, dLen_tup, dLen_lst, dLen_lsk, dLen_str, dIx_tup, dIx_lst, dIx_lsk, dIx_str, dAdd_int, dNeg_int, isN_def, notN_def, isNon_non, isNon_int, isNon_bl, isNon_str, isNon_tup, isNon_lst, isNon_obj, isNon_exc, dEq_int, dNe_int, dEq_str, dNe_str, dEq_bl, atI_zero, atI_one, atI_2, atI_3, atI_4, atI_5, atI_6, atI_7, atI_8, atI_9, atI_10, atI_11, atI_12, atI_m1, ev_gT, setAll_nil, setAll_cons, iOp_int, ev_gN, ev_ret, List.map_cons, List.map_nil, List.length_cons, List.length_nil, rep_zero, rep_succ, List.cons_append, List.nil_append, List.getElem?_cons_zero, List.getElem?_cons_succ, List.set_cons_zero, List.set_cons_succ, Nat.sub_self, Nat.reduceAdd, Nat.reduceSub, Option.map_some, Option.bind_some, if_true, Bool.not_true, Bool.not_false, Bool.false_eq_true, if_false, decide_true, decide_false, Int.reduceBEq, Int.reduceEq, Int.reduceLT, Int.reduceLE, Int.reduceNeg, Int.reduceAdd, Int.reduceSub, Int.reduceMul, Int.reduceToNat, Nat.reduceLT, Nat.reduceLeDiff, beq_self_eq_true, reduceIte, eq_self, Int.reduceNe, Int.reduceBNe, not_true_eq_false, not_false_eq_true, true_and, and_true, true_or, or_true, false_or, or_false, and_false, false_and, decide_eq_true_eq, Bool.true_and, Bool.and_true, Bool.false_and, Bool.and_false, Bool.true_or, Bool.or_true, Bool.false_or, Bool.or_false, hl, mkS_beq, hb, ev_sl, evp_none, evp_some, dSl_lst, cut_init, hp, List.map_dropLast]
    · have hb : (z == [35]) = false := by simpa using hh
      have hp : plain (splC 47 l) = splC 47 l := by unfold plain; rw [hz, if_neg (fun h => hh (Option.some.inj h))]
      simp only [fnOf, ev_seq, ev_asg, sBnd_def, ev_op, ev_un, bnd_def, ev_call, evs_cons, evs_nil, ev_var, ev_c, ev_if, ev_next, ev_expr, ev_tru, ev_bl, ev_and, ev_or, ev_not, ev_yes, ev_andE, ev_orE, ev_notE, ev_ifE, ev_chain, ofB_some, ofO_some, ofO_none, truD_non, truD_bl, truD_int, truD_str, truD_tup, truD_lst, truD_lsk, ev_tup, ev_lst, ev_nwF, ev_nwM, ev_meth, ev_make, ev_fld, ev_setF, ev_bm1, asQ_tup, asQ_lst, asQ_lsk, asL_lst, asL_lsk, dLen_tup, dLen_lst, dLen_lsk, dLen_str, dIx_tup, dIx_lst, dIx_lsk, dIx_str, dAdd_int, dNeg_int, isN_def, notN_def, isNon_non, isNon_int, isNon_bl, isNon_str, isNon_tup, isNon_lst, isNon_obj, isNon_exc, dEq_int, dNe_int, dEq_str, dNe_str, dEq_bl, atI_zero, atI_one, atI_2, atI_3, atI_4, atI_5, atI_6, atI_7, atI_8, atI_9, atI_10, atI_11, atI_12, atI_m1, ev_gT, setAll_nil, setAll_cons, iOp_int, ev_gN, ev_ret, List.map_cons, List.map_nil, List.length_cons, List.length_nil, rep_zero, rep_succ, List.cons_append, List.nil_append, List.getElem?_cons_zero, List.getElem?_cons_succ, List.set_cons_zero, List.set_cons_succ, Nat.sub_self, Nat.reduceAdd, Nat.reduceSub, Option.map_some, Option.bind_some, if_true, Bool.not_true, Bool.not_false, Bool.false_eq_true, if_false, decide_true, decide_false, Int.reduceBEq, Int.reduceEq, Int.reduceLT, Int.reduceLE, Int.reduceNeg, Int.reduceAdd, Int.reduceSub, Int.reduceMul, Int.reduceToNat, Nat.reduceLT, Nat.reduceLeDiff, beq_self_eq_true, reduceIte, eq_self, Int.reduceNe, Int.reduceBNe, not_true_eq_false, not_false_eq_true, true_and, and_true, true_or, or_true, false_or, or_false, and_false, false_and, decide_eq_true_eq, Bool.true_and, Bool.and_true, Bool.false_and, Bool.and_false, Bool.true_or, Bool.or_true, Bool.false_or, Bool.or_false, hl, mkS_beq, hb, hp]
  unfold m_look_wish b_look_wish
  by_cases h1 : (l == []) = true
  · have hn : isWish l = false := by unfold isWish; rw [h1]; rfl
    simp only [ev_ifE] at e5
    simp only [fnOf, ev_seq, ev_asg, sBnd_def, ev_op, ev_un, bnd_def, ev_call, evs_cons, evs_nil, ev_var, ev_c, ev_if, ev_next, ev_expr, ev_tru, ev_bl, ev_and, ev_or, ev_not, ev_yes, ev_andE, ev_orE, ev_notE, ev_ifE, ev_chain, ofB_some, ofO_some, ofO_none, truD_non, truD_bl, truD_int, truD_str, truD_tup, truD_lst, truD_lsk, ev_tup, ev_lst, ev_nwF, ev_nwM, ev_meth, ev_make, ev_fld, ev_setF, ev_bm1, asQ_tup, asQ_lst, asQ_lsk, asL_lst, asL_lsk, dLen_tup, dLen_lst, dLen_lsk, dLen_str, dIx_tup, dIx_lst, dIx_lsk, dIx_str, dAdd_int, dNeg_int, isN_def, notN_def, isNon_non, isNon_int, isNon_bl, isNon_str, isNon_tup, isNon_lst, isNon_obj, isNon_exc, dEq_int, dNe_int, dEq_str, dNe_str, dEq_bl, atI_zero, atI_one, atI_2, atI_3, atI_4, atI_5, atI_6, atI_7, atI_8, atI_9, atI_10, atI_11, atI_12, atI_m1, ev_gT, setAll_nil, setAll_cons, iOp_int, ev_gN, ev_ret, List.map_cons, List.map_nil, List.length_cons, List.length_nil, rep_zero, rep_succ, List.cons_append, List.nil_append, List.getElem?_cons_zero, List.getElem?_cons_succ, List.set_cons_zero, List.set_cons_succ, Nat.sub_self, Nat.reduceAdd, Nat.reduceSub, Option.map_some, Option.bind_some, if_true, Bool.not_true, Bool.not_false, Bool.false_eq_true, if_false, decide_true, decide_false, Int.reduceBEq, Int.reduceEq, Int.reduceLT, Int.reduceLE, Int.reduceNeg, Int.reduceAdd, Int.reduceSub, Int.reduceMul, Int.reduceToNat, Nat.reduceLT, Nat.reduceLeDiff, beq_self_eq_true, reduceIte, eq_self, Int.reduceNe, Int.reduceBNe, not_true_eq_false, not_false_eq_true, true_and, and_true, true_or, or_true, false_or, or_false, and_false, false_and, decide_eq_true_eq, Bool.true_and, Bool.and_true, Bool.false_and, Bool.and_false, Bool.true_or, Bool.or_true, Bool.false_or, Bool.or_false, t_slash, t_hash, t_plus, t_nil, isStr_str, dSplit_mk] at e5
    simp only [fnOf, ev_seq, ev_asg, sBnd_def, ev_op, ev_un, bnd_def, ev_call, evs_cons, evs_nil, ev_var, ev_c, ev_if, ev_next, ev_expr, ev_tru, ev_bl, ev_and, ev_or, ev_not, ev_yes, ev_andE, ev_orE, ev_notE, ev_ifE, ev_chain, ofB_some, ofO_some, ofO_none, truD_non, truD_bl, truD_int, truD_str, truD_tup, truD_lst, truD_lsk, ev_tup, ev_lst, ev_nwF, ev_nwM, ev_meth, ev_make, ev_fld, ev_setF, ev_bm1, asQ_tup, asQ_lst, asQ_lsk, asL_lst, asL_lsk, dLen_tup, dLen_lst, dLen_lsk, dLen_str, dIx_tup, dIx_lst, dIx_lsk, dIx_str, dAdd_int, dNeg_int, isN_def, notN_def, isNon_non, isNon_int, isNon_bl, isNon_str, isNon_tup, isNon_lst, isNon_obj, isNon_exc, dEq_int, dNe_int, dEq_str, dNe_str, dEq_bl, atI_zero, atI_one, atI_2, atI_3, atI_4, atI_5, atI_6, atI_7, atI_8, atI_9, atI_10, atI_11, atI_12, atI_m1, ev_gT, setAll_nil, setAll_cons, iOp_int, ev_gN, ev_ret, List.map_cons, List.map_nil, List.length_cons, List.length_nil, rep_zero, rep_succ, List.cons_append, List.nil_append, List.getElem?_cons_zero, List.getElem?_cons_succ, List.set_cons_zero, List.set_cons_succ, Nat.sub_self, Nat.reduceAdd, Nat.reduceSub, Option.map_some, Option.bind_some, if_true, Bool.not_true, Bool.not_false, Bool.false_eq_true, if_false, decide_true, decide_false, Int.reduceBEq, Int.reduceEq, Int.reduceLT, Int.reduceLE, Int.reduceNeg, Int.reduceAdd, Int.reduceSub, Int.reduceMul, Int.reduceToNat, Nat.reduceLT, Nat.reduceLeDiff, beq_self_eq_true, reduceIte, eq_self, Int.reduceNe, Int.reduceBNe, not_true_eq_false, not_false_eq_true, true_and, and_true, true_or, or_true, false_or, or_false, and_false, false_and, decide_eq_true_eq, Bool.true_and, Bool.and_true, Bool.false_and, Bool.and_false, Bool.true_or, Bool.or_true, Bool.false_or, Bool.or_false, t_slash, t_hash, t_plus, t_nil, isStr_str, dSplit_mk, e5, mkS_beq, h1, ev_raise, hn]
  · have h1' : (l == []) = false := by simpa using h1
    simp only [ev_ifE] at e5
    simp only [fnOf, ev_seq, ev_asg, sBnd_def, ev_op, ev_un, bnd_def, ev_call, evs_cons, evs_nil, ev_var, ev_c, ev_if, ev_next, ev_expr, ev_tru, ev_bl, ev_and, ev_or, ev_not, ev_yes, ev_andE, ev_orE, ev_notE, ev_ifE, ev_chain, ofB_some, ofO_some, ofO_none, truD_non, truD_bl, truD_int, truD_str, truD_tup, truD_lst, truD_lsk, ev_tup, ev_lst, ev_nwF, ev_nwM, ev_meth, ev_make, ev_fld, ev_setF, ev_bm1, asQ_tup, asQ_lst, asQ_lsk, asL_lst, asL_lsk, dLen_tup, dLen_lst, dLen_lsk, dLen_str, dIx_tup, dIx_lst, dIx_lsk, dIx_str, dAdd_int, dNeg_int, isN_def, notN_def, isNon_non, isNon_int, isNon_bl, isNon_str, isNon_tup, isNon_lst, isNon_obj, isNon_exc, dEq_int, dNe_int, dEq_str, dNe_str, dEq_bl, atI_zero, atI_one, atI_2, atI_3, atI_4, atI_5, atI_6, atI_7, atI_8, atI_9, atI_10, atI_11, atI_12, atI_m1, ev_gT, setAll_nil, setAll_cons, iOp_int, ev_gN, ev_ret, List.map_cons, List.map_nil, List.length_cons, List.length_nil, rep_zero, rep_succ, List.cons_append, List.nil_append, List.getElem?_cons_zero, List.getElem?_cons_succ, List.set_cons_zero, List.set_cons_succ, Nat.sub_self, Nat.reduceAdd, Nat.reduceSub, Option.map_some, Option.bind_some, if_true, Bool.not_true, Bool.not_false, Bool.false_eq_true, if_false, decide_true, decide_false, Int.reduceBEq, Int.reduceEq, Int.reduceLT, Int.reduceLE, Int.reduceNeg, Int.reduceAdd, Int.reduceSub, Int.reduceMul, Int.reduceToNat, Nat.reduceLT, Nat.reduceLeDiff, beq_self_eq_true, reduceIte, eq_self, Int.reduceNe, Int.reduceBNe, not_true_eq_false, not_false_eq_true, true_and, and_true, true_or, or_true, false_or, or_false, and_false, false_and, decide_eq_true_eq, Bool.true_and, Bool.and_true, Bool.false_and, Bool.and_false, Bool.true_or, Bool.or_true, Bool.false_or, Bool.or_false, t_slash, t_hash, t_plus, t_nil, isStr_str, dSplit_mk] at e5
    by_cases h2 : (splC 47 l).length ≤ 8
    · have g2 : ¬ ((8 : Int) < (splC 47 l).length) := by omega
      have hn : isWish l = (plain (splC 47 l)).all gw := by unfold isWish; rw [h1', decide_eq_true h2]; rfl
      cases hq : (plain (splC 47 l)).all gw with
      | true => simp only [fnOf, ev_seq, ev_asg, sBnd_def, ev_op, ev_un, bnd_def, ev_call, evs_cons, evs_nil, ev_var, ev_c, ev_if, ev_next, ev_expr, ev_tru, ev_bl, ev_and, ev_or, ev_not, ev_yes, ev_andE, ev_orE, ev_notE, ev_ifE, ev_chain, ofB_some, ofO_some, ofO_none, truD_non, truD_bl, truD_int, truD_str, truD_tup, truD_lst, truD_lsk, ev_tup, ev_lst, ev_nwF, ev_nwM, ev_meth, ev_make, ev_fld, ev_setF, ev_bm1, asQ_tup, asQ_lst, asQ_lsk, asL_lst, asL_lsk, dLen_tup, dLen_lst, dLen_lsk, dLen_str, dIx_tup, dIx_lst, dIx_lsk, dIx_str, dAdd_int, dNeg_int, isN_def, notN_def, isNon_non, isNon_int, isNon_bl, isNon_str, isNon_tup, isNon_lst, isNon_obj, isNon_exc, dEq_int, dNe_int, dEq_str, dNe_str, dEq_bl, atI_zero, atI_one, atI_2, atI_3, atI_4, atI_5, atI_6, atI_7, atI_8, atI_9, atI_10, atI_11, atI_12, atI_m1, ev_gT, setAll_nil, setAll_cons, iOp_int, ev_gN, ev_ret, List.map_cons, List.map_nil, List.length_cons, List.length_nil, rep_zero, rep_succ, List.cons_append, List.nil_append, List.getElem?_cons_zero, List.getElem?_cons_succ, List.set_cons_zero, List.set_cons_succ, Nat.sub_self, Nat.reduceAdd, Nat.reduceSub, Option.map_some, Option.bind_some, if_true, Bool.not_true, Bool.not_false, Bool.false_eq_true, if_false, decide_true, decide_false, Int.reduceBEq, Int.reduceEq, Int.reduceLT, Int.reduceLE, Int.reduceNeg, Int.reduceAdd, Int.reduceSub, Int.reduceMul, Int.reduceToNat, Nat.reduceLT, Nat.reduceLeDiff, beq_self_eq_true, reduceIte, eq_self, Int.reduceNe, Int.reduceBNe, not_true_eq_false, not_false_eq_true, true_and, and_true, true_or, or_true, false_or, or_false, and_false, false_and, decide_eq_true_eq, Bool.true_and, Bool.and_true, Bool.false_and, Bool.and_false, Bool.true_or, Bool.or_true, Bool.false_or, Bool.or_false, t_slash, t_hash, t_plus, t_nil, isStr_str, dSplit_mk, e5, mkS_beq, h1', dGt, List.length_map, g2, ev_lc, ev_iSeq, wipeD_nil, wipeD_cons, bndN, e4, dAll_map, hq, ev_raise, hn]
      | false => simp only [fnOf, ev_seq, ev_asg, sBnd_def, ev_op, ev_un, bnd_def, ev_call, evs_cons, evs_nil, ev_var, ev_c, ev_if, ev_next, ev_expr, ev_tru, ev_bl, ev_and, ev_or, ev_not, ev_yes, ev_andE, ev_orE, ev_notE, ev_ifE, ev_chain, ofB_some, ofO_some, ofO_none, truD_non, truD_bl, truD_int, truD_str, truD_tup, truD_lst, truD_lsk, ev_tup, ev_lst, ev_nwF, ev_nwM, ev_meth, ev_make, ev_fld, ev_setF, ev_bm1, asQ_tup, asQ_lst, asQ_lsk, asL_lst, asL_lsk, dLen_tup, dLen_lst, dLen_lsk, dLen_str, dIx_tup, dIx_lst, dIx_lsk, dIx_str, dAdd_int, dNeg_int, isN_def, notN_def, isNon_non, isNon_int, isNon_bl, isNon_str, isNon_tup, isNon_lst, isNon_obj, isNon_exc, dEq_int, dNe_int, dEq_str, dNe_str, dEq_bl, atI_zero, atI_one, atI_2, atI_3, atI_4, atI_5, atI_6, atI_7, atI_8, atI_9, atI_10, atI_11, atI_12, atI_m1, ev_gT, setAll_nil, setAll_cons, iOp_int, ev_gN, ev_ret, List.map_cons, List.map_nil, List.length_cons, List.length_nil, rep_zero, rep_succ, List.cons_append, List.nil_append, List.getElem?_cons_zero, List.getElem?_cons_succ, List.set_cons_zero, List.set_cons_succ, Nat.sub_self, Nat.reduceAdd, Nat.reduceSub, Option.map_some, Option.bind_some, if_true, Bool.not_true, Bool.not_false, Bool.false_eq_true, if_false, decide_true, decide_false, Int.reduceBEq, Int.reduceEq, Int.reduceLT, Int.reduceLE, Int.reduceNeg, Int.reduceAdd, Int.reduceSub, Int.reduceMul, Int.reduceToNat, Nat.reduceLT, Nat.reduceLeDiff, beq_self_eq_true, reduceIte, eq_self, Int.reduceNe, Int.reduceBNe, not_true_eq_false, not_false_eq_true, true_and, and_true, true_or, or_true, false_or, or_false, and_false, false_and, decide_eq_true_eq, Bool.true_and, Bool.and_true, Bool.false_and, Bool.and_false, Bool.true_or, Bool.or_true, Bool.false_or, Bool.or_false, t_slash, t_hash, t_plus, t_nil, isStr_str, dSplit_mk, e5, mkS_beq, h1', dGt, List.length_map, g2, ev_lc, ev_iSeq, wipeD_nil, wipeD_cons, bndN, e4, dAll_map, hq, ev_raise, hn]
    · have g2 : (8 : Int) < (splC 47 l).length := by omega
      have hn : isWish l = false := by unfold isWish; rw [h1', decide_eq_false h2]; rfl
      simp only [fnOf, ev_seq, ev_asg, sBnd_def, ev_op, ev_un, bnd_def, ev_call, evs_cons, evs_nil, ev_var, ev_c, ev_if, ev_next, ev_expr, ev_tru, ev_bl, ev_and, ev_or, ev_not, ev_yes, ev_andE, ev_orE, ev_notE, ev_ifE, ev_chain, ofB_some, ofO_some, ofO_none, truD_non, truD_bl, truD_int, truD_str, truD_tup, truD_lst, truD_lsk, ev_tup, ev_lst, ev_nwF, ev_nwM, ev_meth, ev_make, ev_fld, ev_setF, ev_bm1, asQ_tup, asQ_lst, asQ_lsk, asL_lst, asL_lsk, dLen_tup, dLen_lst, dLen_lsk, dLen_str, dIx_tup, dIx_lst, dIx_lsk, dIx_str, dAdd_int, dNeg_int, isN_def, notN_def, isNon_non, isNon_int, isNon_bl, isNon_str, isNon_tup, isNon_lst, isNon_obj, isNon_exc, dEq_int, dNe_int, dEq_str, dNe_str, dEq_bl, atI_zero, atI_one, atI_2, atI_3, atI_4, atI_5, atI_6, atI_7, atI_8, atI_9, atI_10, atI_11, atI_12, atI_m1, ev_gT, setAll_nil, setAll_cons, iOp_int, ev_gN, ev_ret, List.map_cons, List.map_nil, List.length_cons, List.length_nil, rep_zero, rep_succ, List.cons_append, List.nil_append, List.getElem?_cons_zero, List.getElem?_cons_succ, List.set_cons_zero, List.set_cons_succ, Nat.sub_self, Nat.reduceAdd, Nat.reduceSub, Option.map_some, Option.bind_some, if_true, Bool.not_true, Bool.not_false, Bool.false_eq_true, if_false, decide_true, decide_false, Int.reduceBEq, Int.reduceEq, Int.reduceLT, Int.reduceLE, Int.reduceNeg, Int.reduceAdd, Int.reduceSub, Int.reduceMul, Int.reduceToNat, Nat.reduceLT, Nat.reduceLeDiff, beq_self_eq_true, reduceIte, eq_self, Int.reduceNe, Int.reduceBNe, not_true_eq_false, not_false_eq_true, true_and, and_true, true_or, or_true, false_or, or_false, and_false, false_and, decide_eq_true_eq, Bool.true_and, Bool.and_true, Bool.false_and, Bool.and_false, Bool.true_or, Bool.or_true, Bool.false_or, Bool.or_false, t_slash, t_hash, t_plus, t_nil, isStr_str, dSplit_mk, e5, mkS_beq, h1', dGt, List.length_map, g2, ev_raise, hn]
/-! ### fits -/
def fitsL : List (List Nat) → List (List Nat) → Bool
  | [], qs => qs.isEmpty
  | p :: ps, qs => if p = [35] then true else match qs with
    | [] => false
    | q :: qs => ([43] == p || q == p) && fitsL ps qs
theorem ev_fits_levels (s : Sto) : ∀ (n : Nat) (ps qs : List (List Nat)), ps.length < n → r_fits_levels n [.lst (lvs ps), .lst (lvs qs)] s = .ok (.bl (fitsL ps qs)) s
  | 0, ps, qs, h => absurd h (Nat.not_lt_zero _)
  | n + 1, [], qs, h => by
    unfold r_fits_levels b_fits_levels
    have c : cutD (lvs []) none (some 1) = [] := rfl
    have hq : (lvs qs).isEmpty = qs.isEmpty := by cases qs <;> rfl
    simp only [fnOf, ev_seq, ev_asg, sBnd_def, ev_op, ev_un, bnd_def, ev_call, evs_cons, evs_nil, ev_var, ev_c, ev_if, ev_next, ev_expr, ev_tru, ev_bl, ev_and, ev_or, ev_not, ev_yes, ev_andE, ev_orE, ev_notE, ev_ifE, ev_chain, ofB_some, ofO_some, ofO_none, truD_non, truD_bl, truD_int, truD_str, truD_tup, truD_lst, truD_lsk, ev_tup, ev_lst, ev_nwF, ev_nwM, ev_meth, ev_make, ev_fld, ev_setF, ev_bm1, asQ_tup, asQ_lst, asQ_lsk, asL_lst, asL_lsk, dLen_tup, dLen_lst, dLen_lsk, dLen_str, dIx_tup, dIx_lst, dIx_lsk, dIx_str, dAdd_int, dNeg_int, isN_def, notN_def, isNon_non, isNon_int, isNon_bl, isNon_str, isNon_tup, isNon_lst, isNon_obj, isNon_exc, dEq_int, dNe_int, dEq_str, dNe_str, dEq_bl, atI_zero, atI_one, atI_2, atI_3, atI_4, atI_5, atI_6, atI_7, atI_8, atI_9, atI_10, atI_11, atI_12, atI_m1, ev_gT, setAll_nil, setAll_cons, iOp_int, ev_gN, ev_ret, List.map_cons, List.map_nil, List.length_cons, List.length_nil, rep_zero, rep_succ, List.cons_append, List.nil_append, List.getElem?_cons_zero, List.getElem?_cons_succ, List.set_cons_zero, List.set_cons_succ, Nat.sub_self, Nat.reduceAdd, Nat.reduceSub, Option.map_some, Option.bind_some, if_true, Bool.not_true, Bool.not_false, Bool.false_eq_true, if_false, decide_true, decide_false, Int.reduceBEq, Int.reduceEq, Int.reduceLT, Int.reduceLE, Int.reduceNeg, Int.reduceAdd, Int.reduceSub, Int.reduceMul, Int.reduceToNat, Nat.reduceLT, Nat.reduceLeDiff, beq_self_eq_true, reduceIte, eq_self, Int.reduceNe, Int.reduceBNe, not_true_eq_false, not_false_eq_true, true_and, and_true, true_or, or_true, false_or, or_false, and_false, false_and, decide_eq_true_eq, Bool.true_and, Bool.and_true, Bool.false_and, Bool.and_false, Bool.true_or, Bool.or_true, Bool.false_or, Bool.or_false, t_hash, ev_sl, evp_none, evp_some, dSl_lst, c, dEq_nil1, hq]
    cases qs <;> rfl
  | n + 1, p :: ps, qs, h => by
    have ih := ev_fits_levels s n ps
    have hn : ps.length < n := by simpa using h
    have c : cutD (Dt.str (mkS p) :: lvs ps) none (some 1) = [Dt.str (mkS p)] := by rw [cut_one]; rfl
    have c2 : cutD (Dt.str (mkS p) :: lvs ps) (some 1) none = lvs ps := cut_tail _ _
    unfold r_fits_levels b_fits_levels
    by_cases hp : p = [35]
    · have hb : (p == [35]) = true := by simpa using hp
      have hf : fitsL (p :: ps) qs = true := by unfold fitsL; rw [if_pos hp]
      simp only [fnOf, ev_seq, ev_asg, sBnd_def, ev_op, ev_un, bnd_def, ev_call, evs_cons, evs_nil, ev_var, ev_c, ev_if, ev_next, ev_expr, ev_tru, ev_bl, ev_and, ev_or, ev_not, ev_yes, ev_andE, ev_orE, ev_notE, ev_ifE, ev_chain, ofB_some, ofO_some, ofO_none, truD_non, truD_bl, truD_int, truD_str, truD_tup, truD_lst, truD_lsk, ev_tup, ev_lst, ev_nwF, ev_nwM, ev_meth, ev_make, ev_fld, ev_setF, ev_bm1, asQ_tup, asQ_lst, asQ_lsk, asL_lst, asL_lsk, dLen_tup, dLen_lst, dLen_lsk, dLen_str, dIx_tup, dIx_lst, dIx_lsk, dIx_str, dAdd_int, dNeg_int, isN_def, notN_def, isNon_non, isNon_int, isNon_bl, isNon_str, isNon_tup, isNon_lst, isNon_obj, isNon_exc, dEq_int, dNe_int, dEq_str, dNe_str, dEq_bl, atI_zero, atI_one, atI_2, atI_3, atI_4, atI_5, atI_6, atI_7, atI_8, atI_9, atI_10, atI_11, atI_12, atI_m1, ev_gT, setAll_nil, setAll_cons, iOp_int, ev_gN, ev_ret, List.map_cons, List.map_nil, List.length_cons, List.length_nil, rep_zero, rep_succ, List.cons_append, List.nil_append, List.getElem?_cons_zero, List.getElem?_cons_succ, List.set_cons_zero, List.set_cons_succ, Nat.sub_self, Nat.reduceAdd, Nat.reduceSub, Option.map_some, Option.bind_some, if_true, Bool.not_true, Bool.not_false, Bool.false_eq_true, if_false, decide_true, decide_false, Int.reduceBEq, Int.reduceEq, Int.reduceLT, Int.reduceLE, Int.reduceNeg, Int.reduceAdd, Int.reduceSub, Int.reduceMul, Int.reduceToNat, Nat.reduceLT, Nat.reduceLeDiff, beq_self_eq_true, reduceIte, eq_self, Int.reduceNe, Int.reduceBNe, not_true_eq_false, not_false_eq_true, true_and, and_true, true_or, or_true, false_or, or_false, and_false, false_and, decide_eq_true_eq, Bool.true_and, Bool.and_true, Bool.false_and, Bool.and_false, Bool.true_or, Bool.or_true, Bool.false_or, Bool.or_false, t_hash, ev_sl, evp_none, evp_some, dSl_lst, c, dEq_lst1, hb, hf]
    · have hb : (p == [35]) = false := by simpa using hp
      cases qs with
      | nil =>
        have hf : fitsL (p :: ps) [] = false := by unfold fitsL; rw [if_neg hp]
        simp only [fnOf, ev_seq, ev_asg, sBnd_def, ev_op, ev_un, bnd_def, ev_call, evs_cons, evs_nil, ev_var, ev_c, ev_if, ev_next, ev_expr, ev_tru, ev_bl, ev_and, ev_or, ev_not, ev_yes, ev_andE, ev_orE, ev_notE, ev_ifE, ev_chain, ofB_some, ofO_some, ofO_none, truD_non, truD_bl, truD_int, truD_str, truD_tup, truD_lst, truD_lsk, ev_tup, ev_lst, ev_nwF, ev_nwM, ev_meth, ev_make, ev_fld, ev_setF, ev_bm1, asQ_tup, asQ_lst, asQ_lsk, asL_lst, asL_lsk, dLen_tup, dLen_lst, dLen_lsk, dLen_str, dIx_tup, dIx_lst, dIx_lsk, dIx_str, dAdd_int, dNeg_int, isN_def, notN_def, isNon_non, isNon_int, isNon_bl, isNon_str, isNon_tup, isNon_lst, isNon_obj, isNon_exc, dEq_int, dNe_int, dEq_str, dNe_str, dEq_bl, atI_zero, atI_one, atI_2, atI_3, atI_4, atI_5, atI_6, atI_7, atI_8, atI_9, atI_10, atI_11, atI_12, atI_m1, ev_gT, setAll_nil, setAll_cons, iOp_int, ev_gN, ev_ret, List.map_cons, List.map_nil, List.length_cons, List.length_nil, rep_zero, rep_succ, List.cons_append, List.nil_append, List.getElem?_cons_zero, List.getElem?_cons_succ, List.set_cons_zero, List.set_cons_succ, Nat.sub_self, Nat.reduceAdd, Nat.reduceSub, Option.map_some, Option.bind_some, if_true, Bool.not_true, Bool.not_false, Bool.false_eq_true, if_false, decide_true, decide_false, Int.reduceBEq, Int.reduceEq, Int.reduceLT, Int.reduceLE, Int.reduceNeg, Int.reduceAdd, Int.reduceSub, Int.reduceMul, Int.reduceToNat, Nat.reduceLT, Nat.reduceLeDiff, beq_self_eq_true, reduceIte, eq_self, Int.reduceNe, Int.reduceBNe, not_true_eq_false, not_false_eq_true, true_and, and_true, true_or, or_true, false_or, or_false, and_false, false_and, decide_eq_true_eq, Bool.true_and, Bool.and_true, Bool.false_and, Bool.and_false, Bool.true_or, Bool.or_true, Bool.false_or, Bool.or_false, t_hash, ev_sl, evp_none, evp_some, dSl_lst, c, dEq_lst1, hb, hf, List.isEmpty_nil, List.isEmpty_cons]
      | cons q qs =>
        have hf : fitsL (p :: ps) (q :: qs) = (([43] == p || q == p) && fitsL ps qs) := by rw [fitsL, if_neg hp]
        have c3 : cutD (Dt.str (mkS q) :: lvs qs) (some 1) none = lvs qs := cut_tail _ _
        have ih2 := ih qs hn
        cases hh : ([43] == p || q == p) with
        | true => simp only [fnOf, ev_seq, ev_asg, sBnd_def, ev_op, ev_un, bnd_def, ev_call, evs_cons, evs_nil, ev_var, ev_c, ev_if, ev_next, ev_expr, ev_tru, ev_bl, ev_and, ev_or, ev_not, ev_yes, ev_andE, ev_orE, ev_notE, ev_ifE, ev_chain, ofB_some, ofO_some, ofO_none, truD_non, truD_bl, truD_int, truD_str, truD_tup, truD_lst, truD_lsk, ev_tup, ev_lst, ev_nwF, ev_nwM, ev_meth, ev_make, ev_fld, ev_setF, ev_bm1, asQ_tup, asQ_lst, asQ_lsk, asL_lst, asL_lsk, dLen_tup, dLen_lst, dLen_lsk, dLen_str, dIx_tup, dIx_lst, dIx_lsk, dIx_str, dAdd_int, dNeg_int, isN_def, notN_def, isNon_non, isNon_int, isNon_bl, isNon_str, isNon_tup, isNon_lst, isNon_obj, isNon_exc, dEq_int, dNe_int, dEq_str, dNe_str, dEq_bl, atI_zero, atI_one, atI_2, atI_3, atI_4, atI_5, atI_6, atI_7, atI_8, atI_9, atI_10, atI_11, atI_12, atI_m1, ev_gT, setAll_nil, setAll_cons, iOp_int, ev_gN, ev_ret, List.map_cons, List.map_nil, List.length_cons, List.length_nil, rep_zero, rep_succ, List.cons_append, List.nil_append, List.getElem?_cons_zero, List.getElem?_cons_succ, List.set_cons_zero, List.set_cons_succ, Nat.sub_self, Nat.reduceAdd, Nat.reduceSub, Option.map_some, Option.bind_some, if_true, Bool.not_true, Bool.not_false, Bool.false_eq_true, if_false, decide_true, decide_false, Int.reduceBEq, Int.reduceEq, Int.reduceLT, Int.reduceLE, Int.reduceNeg, Int.reduceAdd, Int.reduceSub, Int.reduceMul, Int.reduceToNat, Nat.reduceLT, Nat.reduceLeDiff, beq_self_eq_true, reduceIte, eq_self, Int.reduceNe, Int.reduceBNe, not_true_eq_false, not_false_eq_true, true_and, and_true, true_or, or_true, false_or, or_false, and_false, false_and, decide_eq_true_eq, Bool.true_and, Bool.and_true, Bool.false_and, Bool.and_false, Bool.true_or, Bool.or_true, Bool.false_or, Bool.or_false, t_hash, t_plus, ev_sl, evp_none, evp_some, dSl_lst, c, c2, c3, dEq_lst1, hb, dIn_two, hh, ih2, hf, List.isEmpty_cons]
        | false => simp only [fnOf, ev_seq, ev_asg, sBnd_def, ev_op, ev_un, bnd_def, ev_call, evs_cons, evs_nil, ev_var, ev_c, ev_if, ev_next, ev_expr, ev_tru, ev_bl, ev_and, ev_or, ev_not, ev_yes, ev_andE, ev_orE, ev_notE, ev_ifE, ev_chain, ofB_some, ofO_some, ofO_none, truD_non, truD_bl, truD_int, truD_str, truD_tup, truD_lst, truD_lsk, ev_tup, ev_lst, ev_nwF, ev_nwM, ev_meth, ev_make, ev_fld, ev_setF, ev_bm1, asQ_tup, asQ_lst, asQ_lsk, asL_lst, asL_lsk, dLen_tup, dLen_lst, dLen_lsk, dLen_str, dIx_tup, dIx_lst, dIx_lsk, dIx_str, dAdd_int, dNeg_int, isN_def, notN_def, isNon_non, isNon_int, isNon_bl, isNon_str, isNon_tup, isNon_lst, isNon_obj, isNon_exc, dEq_int, dNe_int, dEq_str, dNe_str, dEq_bl, atI_zero, atI_one, atI_2, atI_3, atI_4, atI_5, atI_6, atI_7, atI_8, atI_9, atI_10, atI_11, atI_12, atI_m1, ev_gT, setAll_nil, setAll_cons, iOp_int, ev_gN, ev_ret, List.map_cons, List.map_nil, List.length_cons, List.length_nil, rep_zero, rep_succ, List.cons_append, List.nil_append, List.getElem?_cons_zero, List.getElem?_cons_succ, List.set_cons_zero, List.set_cons_succ, Nat.sub_self, Nat.reduceAdd, Nat.reduceSub, Option.map_some, Option.bind_some, if_true, Bool.not_true, Bool.not_false, Bool.false_eq_true, if_false, decide_true, decide_false, Int.reduceBEq, Int.reduceEq, Int.reduceLT, Int.reduceLE, Int.reduceNeg, Int.reduceAdd, Int.reduceSub, Int.reduceMul, Int.reduceToNat, Nat.reduceLT, Nat.reduceLeDiff, beq_self_eq_true, reduceIte, eq_self, Int.reduceNe, Int.reduceBNe, not_true_eq_false, not_false_eq_true, true_and, and_true, true_or, or_true, false_or, or_false, and_false, false_and, decide_eq_true_eq, Bool.true_and, Bool.and_true, Bool.false_and, Bool.and_false, Bool.true_or, Bool.or_true, Bool.false_or, Bool.or_false, t_hash, t_plus, ev_sl, evp_none, evp_some, dSl_lst, c, c2, c3, dEq_lst1, hb, dIn_two, hh, ih2, hf, List.isEmpty_cons]
theorem splC_cons (l : List Nat) : ∃ p ps, splC 47 l = p :: ps := by
  cases e : splC 47 l with
  | nil => exact absurd e (splC_ne 47 l)
  | cons p ps => exact ⟨p, ps, rfl⟩
/-- the first level is for any -/
def wide (ls : List (List Nat)) : Bool := match ls with
  | [] => false
  | p :: _ => [43] == p || [35] == p
def fitsC (w l : List Nat) : Bool := !(wide (splC 47 w) && TL.pre [36] l) && fitsL (splC 47 w) (splC 47 l)
theorem ev_is_wide (p : List Nat) (s : Sto) : m_is_wide [.str (mkS p)] s = .ok (.bl ([43] == p || [35] == p)) s := by
  unfold m_is_wide b_is_wide
  simp only [fnOf, ev_seq, ev_asg, sBnd_def, ev_op, ev_un, bnd_def, ev_call, evs_cons, evs_nil, ev_var, ev_c, ev_if, ev_next, ev_expr, ev_tru, ev_bl, ev_and, ev_or, ev_not, ev_yes, ev_andE, ev_orE, ev_notE, ev_ifE, ev_chain, ofB_some, ofO_some, ofO_none, truD_non, truD_bl, truD_int, truD_str, truD_tup, truD_lst, truD_lsk, ev_tup, ev_lst, ev_nwF, ev_nwM, ev_meth, ev_make, ev_fld, ev_setF, ev_bm1, asQ_tup, asQ_lst, asQ_lsk, asL_lst, asL_lsk, dLen_tup, dLen_lst, dLen_lsk, dLen_str, dIx_tup, dIx_lst, dIx_lsk, dIx_str, dAdd_int, dNeg_int, isN_def, notN_def, isNon_non, isNon_int, isNon_bl, isNon_str, isNon_tup, isNon_lst, isNon_obj, isNon_exc, dEq_int, dNe_int, dEq_str, dNe_str, dEq_bl, atI_zero, atI_one, atI_2, atI_3, atI_4, atI_5, atI_6, atI_7, atI_8, atI_9, atI_10, atI_11, atI_12, atI_m1, ev_gT, setAll_nil, setAll_cons, iOp_int, ev_gN, ev_ret, List.map_cons, List.map_nil, List.length_cons, List.length_nil, rep_zero, rep_succ, List.cons_append, List.nil_append, List.getElem?_cons_zero, List.getElem?_cons_succ, List.set_cons_zero, List.set_cons_succ, Nat.sub_self, Nat.reduceAdd, Nat.reduceSub, Option.map_some, Option.bind_some, if_true, Bool.not_true, Bool.not_false, Bool.false_eq_true, if_false, decide_true, decide_false, Int.reduceBEq, Int.reduceEq, Int.reduceLT, Int.reduceLE, Int.reduceNeg, Int.reduceAdd, Int.reduceSub, Int.reduceMul, Int.reduceToNat, Nat.reduceLT, Nat.reduceLeDiff, beq_self_eq_true, reduceIte, eq_self, Int.reduceNe, Int.reduceBNe, not_true_eq_false, not_false_eq_true, true_and, and_true, true_or, or_true, false_or, or_false, and_false, false_and, decide_eq_true_eq, Bool.true_and, Bool.and_true, Bool.false_and, Bool.and_false, Bool.true_or, Bool.or_true, Bool.false_or, Bool.or_false, t_plus, t_hash, dIn_two]
theorem ev_fits (w l : List Nat) (s : Sto) : m_fits [.str (mkS w), .str (mkS l)] s = if isWish w = true then (if isName l = true then .ok (.bl (fitsC w l)) s else .exc 1 s) else .exc 1 s := by
  unfold m_fits b_fits
  have h1 := ev_look_wish w s
  have h2 := ev_look_name l s
  cases hw : isWish w with
  | false =>
    rw [hw, if_neg Bool.false_ne_true] at h1
    simp only [fnOf, ev_seq, ev_asg, sBnd_def, ev_op, ev_un, bnd_def, ev_call, evs_cons, evs_nil, ev_var, ev_c, ev_if, ev_next, ev_expr, ev_tru, ev_bl, ev_and, ev_or, ev_not, ev_yes, ev_andE, ev_orE, ev_notE, ev_ifE, ev_chain, ofB_some, ofO_some, ofO_none, truD_non, truD_bl, truD_int, truD_str, truD_tup, truD_lst, truD_lsk, ev_tup, ev_lst, ev_nwF, ev_nwM, ev_meth, ev_make, ev_fld, ev_setF, ev_bm1, asQ_tup, asQ_lst, asQ_lsk, asL_lst, asL_lsk, dLen_tup, dLen_lst, dLen_lsk, dLen_str, dIx_tup, dIx_lst, dIx_lsk, dIx_str, dAdd_int, dNeg_int, isN_def, notN_def, isNon_non, isNon_int, isNon_bl, isNon_str, isNon_tup, isNon_lst, isNon_obj, isNon_exc, dEq_int, dNe_int, dEq_str, dNe_str, dEq_bl, atI_zero, atI_one, atI_2, atI_3, atI_4, atI_5, atI_6, atI_7, atI_8, atI_9, atI_10, atI_11, atI_12, atI_m1, ev_gT, setAll_nil, setAll_cons, iOp_int, ev_gN, ev_ret, List.map_cons, List.map_nil, List.length_cons, List.length_nil, rep_zero, rep_succ, List.cons_append, List.nil_append, List.getElem?_cons_zero, List.getElem?_cons_succ, List.set_cons_zero, List.set_cons_succ, Nat.sub_self, Nat.reduceAdd, Nat.reduceSub, Option.map_some, Option.bind_some, if_true, Bool.not_true, Bool.not_false, Bool.false_eq_true, if_false, decide_true, decide_false, Int.reduceBEq, Int.reduceEq, Int.reduceLT, Int.reduceLE, Int.reduceNeg, Int.reduceAdd, Int.reduceSub, Int.reduceMul, Int.reduceToNat, Nat.reduceLT, Nat.reduceLeDiff, beq_self_eq_true, reduceIte, eq_self, Int.reduceNe, Int.reduceBNe, not_true_eq_false, not_false_eq_true, true_and, and_true, true_or, or_true, false_or, or_false, and_false, false_and, decide_eq_true_eq, Bool.true_and, Bool.and_true, Bool.false_and, Bool.and_false, Bool.true_or, Bool.or_true, Bool.false_or, Bool.or_false, h1]
  | true =>
    rw [hw, if_pos rfl] at h1
    cases hl : isName l with
    | false =>
      rw [hl, if_neg Bool.false_ne_true] at h2
      simp only [fnOf, ev_seq, ev_asg, sBnd_def, ev_op, ev_un, bnd_def, ev_call, evs_cons, evs_nil, ev_var, ev_c, ev_if, ev_next, ev_expr, ev_tru, ev_bl, ev_and, ev_or, ev_not, ev_yes, ev_andE, ev_orE, ev_notE, ev_ifE, ev_chain, ofB_some, ofO_some, ofO_none, truD_non, truD_bl, truD_int, truD_str, truD_tup, truD_lst, truD_lsk, ev_tup, ev_lst, ev_nwF, ev_nwM, ev_meth, ev_make, ev_fld, ev_setF, ev_bm1, asQ_tup, asQ_lst, asQ_lsk, asL_lst, asL_lsk, dLen_tup, dLen_lst, dLen_lsk, dLen_str, dIx_tup, dIx_lst, dIx_lsk, dIx_str, dAdd_int, dNeg_int, isN_def, notN_def, isNon_non, isNon_int, isNon_bl, isNon_str, isNon_tup, isNon_lst, isNon_obj, isNon_exc, dEq_int, dNe_int, dEq_str, dNe_str, dEq_bl, atI_zero, atI_one, atI_2, atI_3, atI_4, atI_5, atI_6, atI_7, atI_8, atI_9, atI_10, atI_11, atI_12, atI_m1, ev_gT, setAll_nil, setAll_cons, iOp_int, ev_gN, ev_ret, List.map_cons, List.map_nil, List.length_cons, List.length_nil, rep_zero, rep_succ, List.cons_append, List.nil_append, List.getElem?_cons_zero, List.getElem?_cons_succ, List.set_cons_zero, List.set_cons_succ, Nat.sub_self, Nat.reduceAdd, Nat.reduceSub, Option.map_some, Option.bind_some, if_true, Bool.not_true, Bool.not_false, Bool.false_eq_true, if_false, decide_true, decide_false, Int.reduceBEq, Int.reduceEq, Int.reduceLT, Int.reduceLE, Int.reduceNeg, Int.reduceAdd, Int.reduceSub, Int.reduceMul, Int.reduceToNat, Nat.reduceLT, Nat.reduceLeDiff, beq_self_eq_true, reduceIte, eq_self, Int.reduceNe, Int.reduceBNe, not_true_eq_false, not_false_eq_true, true_and, and_true, true_or, or_true, false_or, or_false, and_false, false_and, decide_eq_true_eq, Bool.true_and, Bool.and_true, Bool.false_and, Bool.and_false, Bool.true_or, Bool.or_true, Bool.false_or, Bool.or_false, h1, h2]
    | true =>
      rw [hl, if_pos rfl] at h2
      obtain ⟨p, ps, e⟩ := splC_cons w
      have h8 : (splC 47 w).length ≤ 8 := by
        unfold isWish at hw
        simp only [Bool.and_eq_true, decide_eq_true_eq] at hw
        exact hw.1.2
      have h3 : m_fits_levels [.lst (lvs (p :: ps)), .lst (lvs (splC 47 l))] s = .ok (.bl (fitsL (p :: ps) (splC 47 l))) s := ev_fits_levels s 12 _ _ (by rw [← e]; omega)
      simp only [lvs, List.map_cons] at h3
      have hd : dStarts (.str (mkS l)) (.str (mkS [36])) s = .ok (.bl (TL.pre [36] l)) s := rfl
      have hf : fitsC w l = (!(([43] == p || [35] == p) && TL.pre [36] l) && fitsL (p :: ps) (splC 47 l)) := by unfold fitsC wide; rw [e]
      cases h5 : ([43] == p || [35] == p) with
      | false => simp only [fnOf, ev_seq, ev_asg, sBnd_def, ev_op, ev_un, bnd_def, ev_call, evs_cons, evs_nil, ev_var, ev_c, ev_if, ev_next, ev_expr, ev_tru, ev_bl, ev_and, ev_or, ev_not, ev_yes, ev_andE, ev_orE, ev_notE, ev_ifE, ev_chain, ofB_some, ofO_some, ofO_none, truD_non, truD_bl, truD_int, truD_str, truD_tup, truD_lst, truD_lsk, ev_tup, ev_lst, ev_nwF, ev_nwM, ev_meth, ev_make, ev_fld, ev_setF, ev_bm1, asQ_tup, asQ_lst, asQ_lsk, asL_lst, asL_lsk, dLen_tup, dLen_lst, dLen_lsk, dLen_str, dIx_tup, dIx_lst, dIx_lsk, dIx_str, dAdd_int, dNeg_int, isN_def, notN_def, isNon_non, isNon_int, isNon_bl, isNon_str, isNon_tup, isNon_lst, isNon_obj, isNon_exc, dEq_int, dNe_int, dEq_str, dNe_str, dEq_bl, atI_zero, atI_one, atI_2, atI_3, atI_4, atI_5, atI_6, atI_7, atI_8, atI_9, atI_10, atI_11, atI_12, atI_m1, ev_gT, setAll_nil, setAll_cons, iOp_int, ev_gN, ev_ret, List.map_cons, List.map_nil, List.length_cons, List.length_nil, rep_zero, rep_succ, List.cons_append, List.nil_append, List.getElem?_cons_zero, List.getElem?_cons_succ, List.set_cons_zero, List.set_cons_succ, Nat.sub_self, Nat.reduceAdd, Nat.reduceSub, Option.map_some, Option.bind_some, if_true, Bool.not_true, Bool.not_false, Bool.false_eq_true, if_false, decide_true, decide_false, Int.reduceBEq, Int.reduceEq, Int.reduceLT, Int.reduceLE, Int.reduceNeg, Int.reduceAdd, Int.reduceSub, Int.reduceMul, Int.reduceToNat, Nat.reduceLT, Nat.reduceLeDiff, beq_self_eq_true, reduceIte, eq_self, Int.reduceNe, Int.reduceBNe, not_true_eq_false, not_false_eq_true, true_and, and_true, true_or, or_true, false_or, or_false, and_false, false_and, decide_eq_true_eq, Bool.true_and, Bool.and_true, Bool.false_and, Bool.and_false, Bool.true_or, Bool.or_true, Bool.false_or, Bool.or_false, h1, h2, t_slash, t_dollar, isStr_str, dSplit_mk, e, ev_is_wide, h5, hd, h3, hf]
      | true =>
        cases h6 : TL.pre [36] l with
        | false => simp only [fnOf, ev_seq, ev_asg, sBnd_def, ev_op, ev_un, bnd_def, ev_call, evs_cons, evs_nil, ev_var, ev_c, ev_if, ev_next, ev_expr, ev_tru, ev_bl, ev_and, ev_or, ev_not, ev_yes, ev_andE, ev_orE, ev_notE, ev_ifE, ev_chain, ofB_some, ofO_some, ofO_none, truD_non, truD_bl, truD_int, truD_str, truD_tup, truD_lst, truD_lsk, ev_tup, ev_lst, ev_nwF, ev_nwM, ev_meth, ev_make, ev_fld, ev_setF, ev_bm1, asQ_tup, asQ_lst, asQ_lsk, asL_lst, asL_lsk, dLen_tup, dLen_lst, dLen_lsk, dLen_str, dIx_tup, dIx_lst, dIx_lsk, dIx_str, dAdd_int, dNeg_int, isN_def, notN_def, isNon_non, isNon_int, isNon_bl, isNon_str, isNon_tup, isNon_lst, isNon_obj, isNon_exc, dEq_int, dNe_int, dEq_str, dNe_str, dEq_bl, atI_zero, atI_one, atI_2, atI_3, atI_4, atI_5, atI_6, atI_7, atI_8, atI_9, atI_10, atI_11, atI_12, atI_m1, ev_gT, setAll_nil, setAll_cons, iOp_int, ev_gN, ev_ret, List.map_cons, List.map_nil, List.length_cons, List.length_nil, rep_zero, rep_succ, List.cons_append, List.nil_append, List.getElem?_cons_zero, List.getElem?_cons_succ, List.set_cons_zero, List.set_cons_succ, Nat.sub_self, Nat.reduceAdd, Nat.reduceSub, Option.map_some, Option.bind_some, if_true, Bool.not_true, Bool.not_false, Bool.false_eq_true, if_false, decide_true, decide_false, Int.reduceBEq, Int.reduceEq, Int.reduceLT, Int.reduceLE, Int.reduceNeg, Int.reduceAdd, Int.reduceSub, Int.reduceMul, Int.reduceToNat, Nat.reduceLT, Nat.reduceLeDiff, beq_self_eq_true, reduceIte, eq_self, Int.reduceNe, Int.reduceBNe, not_true_eq_false, not_false_eq_true, true_and, and_true, true_or, or_true, false_or, or_false, and_false, false_and, decide_eq_true_eq, Bool.true_and, Bool.and_true, Bool.false_and, Bool.and_false, Bool.true_or, Bool.or_true, Bool.false_or, Bool.or_false, h1, h2, t_slash, t_dollar, isStr_str, dSplit_mk, e, ev_is_wide, h5, hd, h6, h3, hf]
        | true => simp only [fnOf, ev_seq, ev_asg, sBnd_def, ev_op, ev_un, bnd_def, ev_call, evs_cons, evs_nil, ev_var, ev_c, ev_if, ev_next, ev_expr, ev_tru, ev_bl, ev_and, ev_or, ev_not, ev_yes, ev_andE, ev_orE, ev_notE, ev_ifE, ev_chain, ofB_some, ofO_some, ofO_none, truD_non, truD_bl, truD_int, truD_str, truD_tup, truD_lst, truD_lsk, ev_tup, ev_lst, ev_nwF, ev_nwM, ev_meth, ev_make, ev_fld, ev_setF, ev_bm1, asQ_tup, asQ_lst, asQ_lsk, asL_lst, asL_lsk, dLen_tup, dLen_lst, dLen_lsk, dLen_str, dIx_tup, dIx_lst, dIx_lsk, dIx_str, dAdd_int, dNeg_int, isN_def, notN_def, isNon_non, isNon_int, isNon_bl, isNon_str, isNon_tup, isNon_lst, isNon_obj, isNon_exc, dEq_int, dNe_int, dEq_str, dNe_str, dEq_bl, atI_zero, atI_one, atI_2, atI_3, atI_4, atI_5, atI_6, atI_7, atI_8, atI_9, atI_10, atI_11, atI_12, atI_m1, ev_gT, setAll_nil, setAll_cons, iOp_int, ev_gN, ev_ret, List.map_cons, List.map_nil, List.length_cons, List.length_nil, rep_zero, rep_succ, List.cons_append, List.nil_append, List.getElem?_cons_zero, List.getElem?_cons_succ, List.set_cons_zero, List.set_cons_succ, Nat.sub_self, Nat.reduceAdd, Nat.reduceSub, Option.map_some, Option.bind_some, if_true, Bool.not_true, Bool.not_false, Bool.false_eq_true, if_false, decide_true, decide_false, Int.reduceBEq, Int.reduceEq, Int.reduceLT, Int.reduceLE, Int.reduceNeg, Int.reduceAdd, Int.reduceSub, Int.reduceMul, Int.reduceToNat, Nat.reduceLT, Nat.reduceLeDiff, beq_self_eq_true, reduceIte, eq_self, Int.reduceNe, Int.reduceBNe, not_true_eq_false, not_false_eq_true, true_and, and_true, true_or, or_true, false_or, or_false, and_false, false_and, decide_eq_true_eq, Bool.true_and, Bool.and_true, Bool.false_and, Bool.and_false, Bool.true_or, Bool.or_true, Bool.false_or, Bool.or_false, h1, h2, t_slash, t_dollar, isStr_str, dSplit_mk, e, ev_is_wide, h5, hd, h6, h3, hf]
/-! ### the law's draws -/
def cell (ns : List Int) (k : Int) : Int := if ns = [] then 0 else (ns[(k % ns.length).toNat]?).getD 0
def mixA (ns : List Int) (k : Int) : Int := (cell ns k + 104729 * (k + 1)) % 4294967291
def mixB (ns : List Int) (k : Int) : Int := mixA ns k ^ 5 % 4294967279
def mix (ns : List Int) (k : Int) : Int := (mixB ns k / 64 * 69621 + mixB ns k) % 4294967231
def dr (ns : List Int) (n : Nat) (many : Int) : Int := mix ns n / 8 % many
theorem dr_nonneg (ns : List Int) (n : Nat) {m : Int} (h : 0 < m) : 0 ≤ dr ns n m := Int.emod_nonneg _ (by omega)
theorem dr_lt (ns : List Int) (n : Nat) {m : Int} (h : 0 < m) : dr ns n m < m := Int.emod_lt_of_pos _ h
theorem mod_ok {m : Int} (h : 0 < m) (i : Int) : (0 ≤ i % m) ∧ (i % m < m) := ⟨Int.emod_nonneg _ (by omega), Int.emod_lt_of_pos _ h⟩
abbrev sc (ns : List Int) : Dt := .lsk (ns.map .int)
theorem ev_cell (ns : List Int) (k : Int) (s : Sto) (hk : 0 ≤ k) : m_law_cell [sc ns, .int k] s = .ok (.int (cell ns k)) s := by
  by_cases h : ns = []
  · subst h
    simp [m_law_cell, b_law_cell, fnOf, cell]
  · have hl : 0 < ns.length := List.length_pos_iff.mpr h
    have hm : (0 : Int) < ns.length := by omega
    obtain ⟨h1, h2⟩ := mod_ok hm k
    obtain ⟨j, hj⟩ : ∃ j : Nat, k % (ns.length : Int) = j := ⟨(k % (ns.length : Int)).toNat, by omega⟩
    have hj2 : j < ns.length := by omega
    have e : atI (ns.map Dt.int) (k % (ns.length : Int)) = some (.int (cell ns k)) := by
      rw [hj, atI_ofNat, List.getElem?_map, List.getElem?_eq_getElem hj2]
      simp [cell, h, hj, List.getElem?_eq_getElem hj2]
    have hm' : ¬ ns.isEmpty = true := by simpa using h
    simp [m_law_cell, b_law_cell, fnOf, h, hl, sc, e]
theorem ev_mix (ns : List Int) (k : Int) (s : Sto) (hk : 0 ≤ k) : m_law_mix [sc ns, .int k] s = .ok (.int (mix ns k)) s := by
  have h1 := mod_ok (m := 4294967291) (by decide) (cell ns k + 104729 * (k + 1))
  have h2 := mod_ok (m := 4294967279) (by decide) (mixA ns k ^ 5)
  have h3 : (mixA ns k).natAbs < 2 ^ 64 := by unfold mixA; omega
  have h5 : -(2 ^ 64) < mixB ns k / 64 ∧ mixB ns k / 64 < 2 ^ 64 := by unfold mixB; omega
  have e1 : m_law_cell [sc ns, .int k] s = .ok (.int (cell ns k)) s := ev_cell ns k s hk
  have e2 : decide ((-(2 ^ 64) < (104729 : Int) ∧ (104729 : Int) < 2 ^ 64) ∨ (-(2 ^ 64) < (k + 1) ∧ (k + 1) < 2 ^ 64)) = true := decide_eq_true (.inl (by decide))
  have e3 : decide ((0 : Int) ≤ 5 ∧ (5 : Int) ≤ 1000000 ∧ (mixA ns k).natAbs < 2 ^ 64) = true := decide_eq_true ⟨by decide, by decide, h3⟩
  have e4 : decide ((-(2 ^ 64) < mixB ns k / 64 ∧ mixB ns k / 64 < 2 ^ 64) ∨ (-(2 ^ 64) < (69621 : Int) ∧ (69621 : Int) < 2 ^ 64)) = true := decide_eq_true (.inl h5)
  have e5 : decide (0 < (64 : Int) ∧ (64 : Int) < 1073741824) = true := by decide
  have f1 : (cell ns k + 104729 * (k + 1)) % 4294967291 = mixA ns k := rfl
  have f2 : mixA ns k ^ (5 : Int).toNat % 4294967279 = mixB ns k := rfl
  have f3 : (mixB ns k / 64 * 69621 + mixB ns k) % 4294967231 = mix ns k := rfl
  have g1 : decide ((0 : Int) < 4294967291) = true := by decide
  have g2 : decide ((0 : Int) < 4294967279) = true := by decide
  have g3 : decide ((0 : Int) < 4294967231) = true := by decide
  unfold m_law_mix b_law_mix
  simp only [fnOf, ev_seq, ev_asg, sBnd_def, ev_op, ev_un, bnd_def, ev_call, evs_cons, evs_nil, ev_var, ev_c, ev_if, ev_next, ev_expr, ev_tru, ev_bl, ev_and, ev_or, ev_not, ev_yes, ev_andE, ev_orE, ev_notE, ev_ifE, ev_chain, ofB_some, ofO_some, ofO_none, truD_non, truD_bl, truD_int, truD_str, truD_tup, truD_lst, truD_lsk, ev_tup, ev_lst, ev_nwF, ev_nwM, ev_meth, ev_make, ev_fld, ev_setF, ev_bm1, asQ_tup, asQ_lst, asQ_lsk, asL_lst, asL_lsk, dLen_tup, dLen_lst, dLen_lsk, dLen_str, dIx_tup, dIx_lst, dIx_lsk, dIx_str, dAdd_int, dNeg_int, isN_def, notN_def, isNon_non, isNon_int, isNon_bl, isNon_str, isNon_tup, isNon_lst, isNon_obj, isNon_exc, dEq_int, dNe_int, dEq_str, dNe_str, dEq_bl, atI_zero, atI_one, atI_2, atI_3, atI_4, atI_5, atI_6, atI_7, atI_8, atI_9, atI_10, atI_11, atI_12, atI_m1, ev_gT, setAll_nil, setAll_cons, iOp_int, ev_gN, ev_ret, List.map_cons, List.map_nil, List.length_cons, List.length_nil, rep_zero, rep_succ, List.cons_append, List.nil_append, List.getElem?_cons_zero, List.getElem?_cons_succ, List.set_cons_zero, List.set_cons_succ, Nat.sub_self, Nat.reduceAdd, Nat.reduceSub, Option.map_some, Option.bind_some, if_true, Bool.not_true, Bool.not_false, Bool.false_eq_true, if_false, decide_true, e1, e2, f1, e3, f2, e5, e4, f3, g1, g2, g3]
theorem zeros_app (n : Nat) : List.replicate n (Dt.int 0) ++ [.int 0] = List.replicate (n + 1) (.int 0) := by rw [List.replicate_succ']
abbrev zs (n : Nat) : Mo := .lst (List.replicate n (.int 0))
/-- the store, n numbers drawn -/
def tw (s : Sto) (n : Nat) : Sto := s.set 0 (zs n)
theorem tw_at {s : Sto} {n i : Nat} (h : i ≠ 0) : (tw s n)[i]? = s[i]? := by unfold tw; rw [List.getElem?_set_ne (Ne.symm h)]
theorem tw_len (s : Sto) (n : Nat) : (tw s n).length = s.length := by unfold tw; rw [List.length_set]
theorem tw_zero {s : Sto} {n : Nat} (h : 0 < s.length) : (tw s n)[0]? = some (zs n) := by unfold tw; rw [List.getElem?_set_self h]
theorem tw_self {s : Sto} {n : Nat} (h : s[0]? = some (zs n)) : tw s n = s := by
  unfold tw
  apply List.ext_getElem?
  intro i
  by_cases e : 0 = i
  · subst e; rw [List.getElem?_set_self (List.getElem?_eq_some_iff.mp h).1, h]
  · rw [List.getElem?_set_ne e]
theorem tw_set {s : Sto} {n i : Nat} {m : Mo} (h : i ≠ 0) : (tw s n).set i m = tw (s.set i m) n := by unfold tw; rw [List.set_comm _ _ (Ne.symm h)]
theorem tw_tw (s : Sto) (n m : Nat) : tw (tw s n) m = tw s m := by unfold tw; rw [List.set_set]
theorem tw_app {s : Sto} {n : Nat} {m : Mo} (h : 0 < s.length) : tw s n ++ [m] = tw (s ++ [m]) n := by unfold tw; rw [List.set_append_left _ _ h]
theorem ev_draw (ns : List Int) {n : Nat} {many : Int} {s : Sto} (hs : 0 < s.length) (hn : n < 1000000) (hm : 0 < many) : m_law_draw [sc ns, .obj 0, .int many] (tw s n) = .ok (.int (dr ns (n + 1) many)) (tw s (n + 1)) := by
  have ht : (tw s n)[0]? = some (zs n) := tw_zero hs
  have h1 := isLst_obj ht
  have h2 := dApp_obj (y := .int 0) ht (by rw [List.length_replicate, sizeLine_eq]; omega)
  rw [zeros_app] at h2
  have e0 : (tw s n).set 0 (.lst (List.replicate (n + 1) (.int 0))) = tw s (n + 1) := by unfold tw; rw [List.set_set]
  rw [e0] at h2
  have h3 : dLen (.obj 0) (tw s (n + 1)) = .ok (.int ((n + 1 : Nat) : Int)) (tw s (n + 1)) := by
    rw [dLen_obj (l := List.replicate (n + 1) (.int 0)) (tw_zero hs), List.length_replicate]
  have h4 := ev_mix ns ((n + 1 : Nat) : Int) (tw s (n + 1)) (Int.natCast_nonneg _)
  have f1 : mix ns ((n + 1 : Nat) : Int) / 8 % many = dr ns (n + 1) many := rfl
  have g1 : decide (0 < (8 : Int) ∧ (8 : Int) < 1073741824) = true := by decide
  have g2 : decide (0 < many) = true := decide_eq_true hm
  unfold m_law_draw b_law_draw
  simp only [fnOf, ev_seq, ev_asg, sBnd_def, ev_op, ev_un, bnd_def, ev_call, evs_cons, evs_nil, ev_var, ev_c, ev_if, ev_next, ev_expr, ev_tru, ev_bl, ev_and, ev_or, ev_not, ev_yes, ev_andE, ev_orE, ev_notE, ev_ifE, ev_chain, ofB_some, ofO_some, ofO_none, truD_non, truD_bl, truD_int, truD_str, truD_tup, truD_lst, truD_lsk, ev_tup, ev_lst, ev_nwF, ev_nwM, ev_meth, ev_make, ev_fld, ev_setF, ev_bm1, asQ_tup, asQ_lst, asQ_lsk, asL_lst, asL_lsk, dLen_tup, dLen_lst, dLen_lsk, dLen_str, dIx_tup, dIx_lst, dIx_lsk, dIx_str, dAdd_int, dNeg_int, isN_def, notN_def, isNon_non, isNon_int, isNon_bl, isNon_str, isNon_tup, isNon_lst, isNon_obj, isNon_exc, dEq_int, dNe_int, dEq_str, dNe_str, dEq_bl, atI_zero, atI_one, atI_2, atI_3, atI_4, atI_5, atI_6, atI_7, atI_8, atI_9, atI_10, atI_11, atI_12, atI_m1, ev_gT, setAll_nil, setAll_cons, iOp_int, ev_gN, ev_ret, List.map_cons, List.map_nil, List.length_cons, List.length_nil, rep_zero, rep_succ, List.cons_append, List.nil_append, List.getElem?_cons_zero, List.getElem?_cons_succ, List.set_cons_zero, List.set_cons_succ, Nat.sub_self, Nat.reduceAdd, Nat.reduceSub, Option.map_some, Option.bind_some, if_true, Bool.not_true, Bool.not_false, Bool.false_eq_true, if_false, decide_true, h1, h2, h3, h4, f1, g1, g2]
/-- a draw, whatever it is -/
theorem ex_draw (ns : List Int) {n : Nat} {many : Int} {s : Sto} (hs : 0 < s.length) (hn : n < 1000000) (hm : 0 < many) : ∃ v : Nat, (v : Int) < many ∧ m_law_draw [sc ns, .obj 0, .int many] (tw s n) = .ok (.int (v : Int)) (tw s (n + 1)) := by
  have h0 := dr_nonneg ns (n + 1) hm
  refine ⟨(dr ns (n + 1) many).toNat, ?_, ?_⟩
  · rw [Int.toNat_of_nonneg h0]; exact dr_lt ns (n + 1) hm
  · rw [Int.toNat_of_nonneg h0]; exact ev_draw ns hs hn hm
/-- a thing picked out of a list -/
theorem ex_pick (ns : List Int) {n : Nat} {l : List Dt} {s : Sto} (hs : 0 < s.length) (hn : n < 1000000) (hl : l ≠ []) : ∃ d ∈ l, m_law_pick [sc ns, .obj 0, .lst l] (tw s n) = .ok d (tw s (n + 1)) := by
  have hl' : (0 : Int) < l.length := by have := List.length_pos_iff.mpr hl; omega
  obtain ⟨v, hv, h1⟩ := ex_draw ns (s := s) hs hn hl'
  have hv2 : v < l.length := by omega
  have h5 : atI l (v : Int) = some l[v] := by rw [atI_ofNat, List.getElem?_eq_getElem hv2]
  refine ⟨l[v], List.getElem_mem hv2, ?_⟩
  unfold m_law_pick b_law_pick
  simp only [fnOf, ev_seq, ev_asg, sBnd_def, ev_op, ev_un, bnd_def, ev_call, evs_cons, evs_nil, ev_var, ev_c, ev_if, ev_next, ev_expr, ev_tru, ev_bl, ev_and, ev_or, ev_not, ev_yes, ev_andE, ev_orE, ev_notE, ev_ifE, ev_chain, ofB_some, ofO_some, ofO_none, truD_non, truD_bl, truD_int, truD_str, truD_tup, truD_lst, truD_lsk, ev_tup, ev_lst, ev_nwF, ev_nwM, ev_meth, ev_make, ev_fld, ev_setF, ev_bm1, asQ_tup, asQ_lst, asQ_lsk, asL_lst, asL_lsk, dLen_tup, dLen_lst, dLen_lsk, dLen_str, dIx_tup, dIx_lst, dIx_lsk, dIx_str, dAdd_int, dNeg_int, isN_def, notN_def, isNon_non, isNon_int, isNon_bl, isNon_str, isNon_tup, isNon_lst, isNon_obj, isNon_exc, dEq_int, dNe_int, dEq_str, dNe_str, dEq_bl, atI_zero, atI_one, atI_2, atI_3, atI_4, atI_5, atI_6, atI_7, atI_8, atI_9, atI_10, atI_11, atI_12, atI_m1, ev_gT, setAll_nil, setAll_cons, iOp_int, ev_gN, ev_ret, List.map_cons, List.map_nil, List.length_cons, List.length_nil, rep_zero, rep_succ, List.cons_append, List.nil_append, List.getElem?_cons_zero, List.getElem?_cons_succ, List.set_cons_zero, List.set_cons_succ, Nat.sub_self, Nat.reduceAdd, Nat.reduceSub, Option.map_some, Option.bind_some, if_true, Bool.not_true, Bool.not_false, Bool.false_eq_true, if_false, decide_true, decide_false, Int.reduceBEq, Int.reduceEq, Int.reduceLT, Int.reduceLE, Int.reduceNeg, Int.reduceAdd, Int.reduceSub, Int.reduceMul, Int.reduceToNat, Nat.reduceLT, Nat.reduceLeDiff, beq_self_eq_true, reduceIte, eq_self, Int.reduceNe, Int.reduceBNe, not_true_eq_false, not_false_eq_true, true_and, and_true, true_or, or_true, false_or, or_false, and_false, false_and, decide_eq_true_eq, Bool.true_and, Bool.and_true, Bool.false_and, Bool.and_false, Bool.true_or, Bool.or_true, Bool.false_or, Bool.or_false, h1, h5]
theorem ex_pickO (ns : List Int) {n i : Nat} {l : List Dt} {s : Sto} (hs : 0 < s.length) (hn : n < 1000000) (hi : i ≠ 0) (ho : s[i]? = some (.lst l)) (hl : l ≠ []) : ∃ d ∈ l, m_law_pick [sc ns, .obj 0, .obj i] (tw s n) = .ok d (tw s (n + 1)) := by
  have hl' : (0 : Int) < l.length := by have := List.length_pos_iff.mpr hl; omega
  obtain ⟨v, hv, h1⟩ := ex_draw ns (s := s) hs hn hl'
  have hv2 : v < l.length := by omega
  have h5 : atI l (v : Int) = some l[v] := by rw [atI_ofNat, List.getElem?_eq_getElem hv2]
  have o1 : (tw s n)[i]? = some (.lst l) := by rw [tw_at hi]; exact ho
  have o2 : (tw s (n + 1))[i]? = some (.lst l) := by rw [tw_at hi]; exact ho
  have e1 := dLen_obj o1
  have e2 := dIx_obj (i := (v : Int)) o2
  refine ⟨l[v], List.getElem_mem hv2, ?_⟩
  unfold m_law_pick b_law_pick
  simp only [fnOf, ev_seq, ev_asg, sBnd_def, ev_op, ev_un, bnd_def, ev_call, evs_cons, evs_nil, ev_var, ev_c, ev_if, ev_next, ev_expr, ev_tru, ev_bl, ev_and, ev_or, ev_not, ev_yes, ev_andE, ev_orE, ev_notE, ev_ifE, ev_chain, ofB_some, ofO_some, ofO_none, truD_non, truD_bl, truD_int, truD_str, truD_tup, truD_lst, truD_lsk, ev_tup, ev_lst, ev_nwF, ev_nwM, ev_meth, ev_make, ev_fld, ev_setF, ev_bm1, asQ_tup, asQ_lst, asQ_lsk, asL_lst, asL_lsk, dLen_tup, dLen_lst, dLen_lsk, dLen_str, dIx_tup, dIx_lst, dIx_lsk, dIx_str, dAdd_int, dNeg_int, isN_def, notN_def, isNon_non, isNon_int, isNon_bl, isNon_str, isNon_tup, isNon_lst, isNon_obj, isNon_exc, dEq_int, dNe_int, dEq_str, dNe_str, dEq_bl, atI_zero, atI_one, atI_2, atI_3, atI_4, atI_5, atI_6, atI_7, atI_8, atI_9, atI_10, atI_11, atI_12, atI_m1, ev_gT, setAll_nil, setAll_cons, iOp_int, ev_gN, ev_ret, List.map_cons, List.map_nil, List.length_cons, List.length_nil, rep_zero, rep_succ, List.cons_append, List.nil_append, List.getElem?_cons_zero, List.getElem?_cons_succ, List.set_cons_zero, List.set_cons_succ, Nat.sub_self, Nat.reduceAdd, Nat.reduceSub, Option.map_some, Option.bind_some, if_true, Bool.not_true, Bool.not_false, Bool.false_eq_true, if_false, decide_true, decide_false, Int.reduceBEq, Int.reduceEq, Int.reduceLT, Int.reduceLE, Int.reduceNeg, Int.reduceAdd, Int.reduceSub, Int.reduceMul, Int.reduceToNat, Nat.reduceLT, Nat.reduceLeDiff, beq_self_eq_true, reduceIte, eq_self, Int.reduceNe, Int.reduceBNe, not_true_eq_false, not_false_eq_true, true_and, and_true, true_or, or_true, false_or, or_false, and_false, false_and, decide_eq_true_eq, Bool.true_and, Bool.and_true, Bool.false_and, Bool.and_false, Bool.true_or, Bool.or_true, Bool.false_or, Bool.or_false, e1, h1, e2, h5]
/-- a sign of a text -/
theorem ex_pickS (ns : List Int) {n : Nat} {l : List Nat} {s : Sto} (hs : 0 < s.length) (hn : n < 1000000) (hl : l ≠ []) : ∃ c ∈ l, m_law_pick [sc ns, .obj 0, .str (mkS l)] (tw s n) = .ok (.str (mkS [c])) (tw s (n + 1)) := by
  have hl' : (0 : Int) < l.length := by have := List.length_pos_iff.mpr hl; omega
  obtain ⟨v, hv, h1⟩ := ex_draw ns (s := s) hs hn hl'
  have hv2 : v < l.length := by omega
  have h5 : atI l (v : Int) = some l[v] := by rw [atI_ofNat, List.getElem?_eq_getElem hv2]
  refine ⟨l[v], List.getElem_mem hv2, ?_⟩
  unfold m_law_pick b_law_pick
  simp only [fnOf, ev_seq, ev_asg, sBnd_def, ev_op, ev_un, bnd_def, ev_call, evs_cons, evs_nil, ev_var, ev_c, ev_if, ev_next, ev_expr, ev_tru, ev_bl, ev_and, ev_or, ev_not, ev_yes, ev_andE, ev_orE, ev_notE, ev_ifE, ev_chain, ofB_some, ofO_some, ofO_none, truD_non, truD_bl, truD_int, truD_str, truD_tup, truD_lst, truD_lsk, ev_tup, ev_lst, ev_nwF, ev_nwM, ev_meth, ev_make, ev_fld, ev_setF, ev_bm1, asQ_tup, asQ_lst, asQ_lsk, asL_lst, asL_lsk, dLen_tup, dLen_lst, dLen_lsk, dLen_str, dIx_tup, dIx_lst, dIx_lsk, dIx_str, dAdd_int, dNeg_int, isN_def, notN_def, isNon_non, isNon_int, isNon_bl, isNon_str, isNon_tup, isNon_lst, isNon_obj, isNon_exc, dEq_int, dNe_int, dEq_str, dNe_str, dEq_bl, atI_zero, atI_one, atI_2, atI_3, atI_4, atI_5, atI_6, atI_7, atI_8, atI_9, atI_10, atI_11, atI_12, atI_m1, ev_gT, setAll_nil, setAll_cons, iOp_int, ev_gN, ev_ret, List.map_cons, List.map_nil, List.length_cons, List.length_nil, rep_zero, rep_succ, List.cons_append, List.nil_append, List.getElem?_cons_zero, List.getElem?_cons_succ, List.set_cons_zero, List.set_cons_succ, Nat.sub_self, Nat.reduceAdd, Nat.reduceSub, Option.map_some, Option.bind_some, if_true, Bool.not_true, Bool.not_false, Bool.false_eq_true, if_false, decide_true, decide_false, Int.reduceBEq, Int.reduceEq, Int.reduceLT, Int.reduceLE, Int.reduceNeg, Int.reduceAdd, Int.reduceSub, Int.reduceMul, Int.reduceToNat, Nat.reduceLT, Nat.reduceLeDiff, beq_self_eq_true, reduceIte, eq_self, Int.reduceNe, Int.reduceBNe, not_true_eq_false, not_false_eq_true, true_and, and_true, true_or, or_true, false_or, or_false, and_false, false_and, decide_eq_true_eq, Bool.true_and, Bool.and_true, Bool.false_and, Bool.and_false, Bool.true_or, Bool.or_true, Bool.false_or, Bool.or_false, mkS_len, h1, h5]
theorem seq_nx {f g : Sx} {env : En} {s : Sto} {P : En → Sto → Prop} {Q : Res → Prop} (h1 : ∃ e s', f env s = .fl (.nx e) s' ∧ P e s') (h2 : ∀ e s', P e s' → Q (g e s')) : Q (sSeq f g env s) := by
  obtain ⟨e, s', h3, h4⟩ := h1
  have : sSeq f g env s = g e s' := by rw [ev_seq, h3]
  rw [this]
  exact h2 e s' h4
theorem fn_rt {n : Nat} {f : Sx} {ds : List Dt} {s : Sto} {P : Dt → Sto → Prop} (h : ∃ d s', f (ds.map some ++ List.replicate (n - ds.length) none) s = .fl (.rt d) s' ∧ P d s') : ∃ d s', fnOf n f ds s = .ok d s' ∧ P d s' := by
  obtain ⟨d, s', h1, h2⟩ := h
  exact ⟨d, s', by simp only [fnOf, h1], h2⟩
/-! ### levels that the law draws -/
def allSigns : List Nat := [32, 33, 35, 36, 38, 39, 40, 41, 42, 43, 44, 45, 46, 47, 48, 49, 50, 51, 52, 53, 54, 55, 56, 57, 58, 59, 60, 61, 62, 63, 64, 65, 66, 67, 88, 89, 90, 91, 93, 94, 95, 97, 98, 99, 100, 101, 102, 103, 104, 105, 106, 107, 108, 109, 110, 111, 112, 113, 114, 115, 116, 117, 118, 119, 120, 121, 122, 123, 124, 125, 126]
theorem t_signs : Str.ofString " !#$&'()*+,-./0123456789:;<=>?@ABCXYZ[]^_abcdefghijklmnopqrstuvwxyz{|}~" = mkS allSigns := by decide +kernel
theorem t_x : Str.ofString "x" = mkS [120] := by decide +kernel
theorem t_b : Str.ofString "b" = mkS [98] := by decide +kernel
theorem t_ds : Str.ofString "$s" = mkS [36, 115] := by decide +kernel
theorem t_ab : Str.ofString "ab" = mkS [97, 98] := by decide +kernel
theorem allSigns_ok : ∀ c ∈ allSigns, c < 127 ∧ (sgn c = true ∨ c ∈ [43, 35, 47]) := by decide +kernel
theorem ex_signs (ns : List Int) {n many : Nat} {also : Bool} {s : Sto} (hs : 0 < s.length) (hn : n + many < 1000000) (hm : many ≤ 1000) : ∃ l : List Nat, l.length = many ∧ (∀ c ∈ l, c < 127) ∧ (also = false → l.all sgn = true) ∧ m_law_signs [sc ns, .obj 0, .int (many : Int), .bl also] (tw s n) = .ok (.str (mkS l)) (tw s (n + many)) := by
  obtain ⟨e, s', h1, h2⟩ := for_range_inv (tg := gN 6) (body := l_law_signs_1) (fun k env s' => ∃ (l : List Nat) (a b : Option Dt), l.length = k ∧ (∀ c ∈ l, c < 127) ∧ (also = false → l.all sgn = true) ∧ env = [some (sc ns), some (.obj 0), some (.int (many : Int)), some (.bl also), some (.str (mkS allSigns)), some (.str (mkS l)), a, b] ∧ s' = tw s (n + k)) many (env := [some (sc ns), some (.obj 0), some (.int (many : Int)), some (.bl also), some (.str (mkS allSigns)), some (.str (mkS [])), none, none]) (s := tw s n)
    ⟨[], none, none, rfl, (fun _ h => nomatch h), fun _ => rfl, rfl, rfl⟩ (fun k env s' hk hi => by
      obtain ⟨l, a, b, e1, e2, e3, e4, e5⟩ := hi
      subst e4; subst e5
      obtain ⟨c, hc, e6⟩ := ex_pickS ns (n := n + k) (l := allSigns) hs (by omega) (by decide)
      obtain ⟨hc1, hc2⟩ := allSigns_ok c hc
      refine ⟨_, rfl, ?_⟩
      by_cases hb : c ∈ [43, 35, 47] ∧ also = false
      · obtain ⟨hb, ha⟩ := hb
        subst ha
        refine ⟨_, _, .inl (?_ : _ = Res.fl (.nx [some (sc ns), some (.obj 0), some (.int (many : Int)), some (.bl false), some (.str (mkS allSigns)), some (.str (mkS (l ++ [120]))), some (.int (k : Int)), some (.str (mkS [c]))]) (tw s (n + k + 1))), l ++ [120], _, _, ?_, ?_, ?_, rfl, by rw [Nat.add_assoc]⟩
        · unfold l_law_signs_1
          simp only [fnOf, ev_seq, ev_asg, sBnd_def, ev_op, ev_un, bnd_def, ev_call, evs_cons, evs_nil, ev_var, ev_c, ev_if, ev_next, ev_expr, ev_tru, ev_bl, ev_and, ev_or, ev_not, ev_yes, ev_andE, ev_orE, ev_notE, ev_ifE, ev_chain, ofB_some, ofO_some, ofO_none, truD_non, truD_bl, truD_int, truD_str, truD_tup, truD_lst, truD_lsk, ev_tup, ev_lst, ev_nwF, ev_nwM, ev_meth, ev_make, ev_fld, ev_setF, ev_bm1, asQ_tup, asQ_lst, asQ_lsk, asL_lst, asL_lsk, dLen_tup, dLen_lst, dLen_lsk, dLen_str, dIx_tup, dIx_lst, dIx_lsk, dIx_str, dAdd_int, dNeg_int, isN_def, notN_def, isNon_non, isNon_int, isNon_bl, isNon_str, isNon_tup, isNon_lst, isNon_obj, isNon_exc, dEq_int, dNe_int, dEq_str, dNe_str, dEq_bl, atI_zero, atI_one, atI_2, atI_3, atI_4, atI_5, atI_6, atI_7, atI_8, atI_9, atI_10, atI_11, atI_12, atI_m1, ev_gT, setAll_nil, setAll_cons, iOp_int, ev_gN, ev_ret, List.map_cons, List.map_nil, List.length_cons, List.length_nil, rep_zero, rep_succ, List.cons_append, List.nil_append, List.getElem?_cons_zero, List.getElem?_cons_succ, List.set_cons_zero, List.set_cons_succ, Nat.sub_self, Nat.reduceAdd, Nat.reduceSub, Option.map_some, Option.bind_some, if_true, Bool.not_true, Bool.not_false, Bool.false_eq_true, if_false, decide_true, decide_false, Int.reduceBEq, Int.reduceEq, Int.reduceLT, Int.reduceLE, Int.reduceNeg, Int.reduceAdd, Int.reduceSub, Int.reduceMul, Int.reduceToNat, Nat.reduceLT, Nat.reduceLeDiff, beq_self_eq_true, reduceIte, eq_self, Int.reduceNe, Int.reduceBNe, not_true_eq_false, not_false_eq_true, true_and, and_true, true_or, or_true, false_or, or_false, and_false, false_and, decide_eq_true_eq, Bool.true_and, Bool.and_true, Bool.false_and, Bool.and_false, Bool.true_or, Bool.or_true, Bool.false_or, Bool.or_false, e6, t_bad, t_x, dIn_sign, hb, str_obj]
          rw [if_pos (by omega)]
        · simp [e1]
        · intro d hd
          rcases List.mem_append.mp hd with hd | hd
          · exact e2 d hd
          · simp at hd; omega
        · intro h
          rw [List.all_append, e3 h]
          rfl
      · refine ⟨_, _, .inl (?_ : _ = Res.fl (.nx [some (sc ns), some (.obj 0), some (.int (many : Int)), some (.bl also), some (.str (mkS allSigns)), some (.str (mkS (l ++ [c]))), some (.int (k : Int)), some (.str (mkS [c]))]) (tw s (n + k + 1))), l ++ [c], _, _, ?_, ?_, ?_, rfl, by rw [Nat.add_assoc]⟩
        · unfold l_law_signs_1
          by_cases hb2 : c ∈ [43, 35, 47]
          · have ha : also = true := by
              cases also with
              | true => rfl
              | false => exact absurd ⟨hb2, rfl⟩ hb
            subst ha
            simp only [fnOf, ev_seq, ev_asg, sBnd_def, ev_op, ev_un, bnd_def, ev_call, evs_cons, evs_nil, ev_var, ev_c, ev_if, ev_next, ev_expr, ev_tru, ev_bl, ev_and, ev_or, ev_not, ev_yes, ev_andE, ev_orE, ev_notE, ev_ifE, ev_chain, ofB_some, ofO_some, ofO_none, truD_non, truD_bl, truD_int, truD_str, truD_tup, truD_lst, truD_lsk, ev_tup, ev_lst, ev_nwF, ev_nwM, ev_meth, ev_make, ev_fld, ev_setF, ev_bm1, asQ_tup, asQ_lst, asQ_lsk, asL_lst, asL_lsk, dLen_tup, dLen_lst, dLen_lsk, dLen_str, dIx_tup, dIx_lst, dIx_lsk, dIx_str, dAdd_int, dNeg_int, isN_def, notN_def, isNon_non, isNon_int, isNon_bl, isNon_str, isNon_tup, isNon_lst, isNon_obj, isNon_exc, dEq_int, dNe_int, dEq_str, dNe_str, dEq_bl, atI_zero, atI_one, atI_2, atI_3, atI_4, atI_5, atI_6, atI_7, atI_8, atI_9, atI_10, atI_11, atI_12, atI_m1, ev_gT, setAll_nil, setAll_cons, iOp_int, ev_gN, ev_ret, List.map_cons, List.map_nil, List.length_cons, List.length_nil, rep_zero, rep_succ, List.cons_append, List.nil_append, List.getElem?_cons_zero, List.getElem?_cons_succ, List.set_cons_zero, List.set_cons_succ, Nat.sub_self, Nat.reduceAdd, Nat.reduceSub, Option.map_some, Option.bind_some, if_true, Bool.not_true, Bool.not_false, Bool.false_eq_true, if_false, decide_true, decide_false, Int.reduceBEq, Int.reduceEq, Int.reduceLT, Int.reduceLE, Int.reduceNeg, Int.reduceAdd, Int.reduceSub, Int.reduceMul, Int.reduceToNat, Nat.reduceLT, Nat.reduceLeDiff, beq_self_eq_true, reduceIte, eq_self, Int.reduceNe, Int.reduceBNe, not_true_eq_false, not_false_eq_true, true_and, and_true, true_or, or_true, false_or, or_false, and_false, false_and, decide_eq_true_eq, Bool.true_and, Bool.and_true, Bool.false_and, Bool.and_false, Bool.true_or, Bool.or_true, Bool.false_or, Bool.or_false, e6, t_bad, t_x, dIn_sign, hb2, str_obj]
            rw [if_pos (by omega)]
          · simp only [fnOf, ev_seq, ev_asg, sBnd_def, ev_op, ev_un, bnd_def, ev_call, evs_cons, evs_nil, ev_var, ev_c, ev_if, ev_next, ev_expr, ev_tru, ev_bl, ev_and, ev_or, ev_not, ev_yes, ev_andE, ev_orE, ev_notE, ev_ifE, ev_chain, ofB_some, ofO_some, ofO_none, truD_non, truD_bl, truD_int, truD_str, truD_tup, truD_lst, truD_lsk, ev_tup, ev_lst, ev_nwF, ev_nwM, ev_meth, ev_make, ev_fld, ev_setF, ev_bm1, asQ_tup, asQ_lst, asQ_lsk, asL_lst, asL_lsk, dLen_tup, dLen_lst, dLen_lsk, dLen_str, dIx_tup, dIx_lst, dIx_lsk, dIx_str, dAdd_int, dNeg_int, isN_def, notN_def, isNon_non, isNon_int, isNon_bl, isNon_str, isNon_tup, isNon_lst, isNon_obj, isNon_exc, dEq_int, dNe_int, dEq_str, dNe_str, dEq_bl, atI_zero, atI_one, atI_2, atI_3, atI_4, atI_5, atI_6, atI_7, atI_8, atI_9, atI_10, atI_11, atI_12, atI_m1, ev_gT, setAll_nil, setAll_cons, iOp_int, ev_gN, ev_ret, List.map_cons, List.map_nil, List.length_cons, List.length_nil, rep_zero, rep_succ, List.cons_append, List.nil_append, List.getElem?_cons_zero, List.getElem?_cons_succ, List.set_cons_zero, List.set_cons_succ, Nat.sub_self, Nat.reduceAdd, Nat.reduceSub, Option.map_some, Option.bind_some, if_true, Bool.not_true, Bool.not_false, Bool.false_eq_true, if_false, decide_true, decide_false, Int.reduceBEq, Int.reduceEq, Int.reduceLT, Int.reduceLE, Int.reduceNeg, Int.reduceAdd, Int.reduceSub, Int.reduceMul, Int.reduceToNat, Nat.reduceLT, Nat.reduceLeDiff, beq_self_eq_true, reduceIte, eq_self, Int.reduceNe, Int.reduceBNe, not_true_eq_false, not_false_eq_true, true_and, and_true, true_or, or_true, false_or, or_false, and_false, false_and, decide_eq_true_eq, Bool.true_and, Bool.and_true, Bool.false_and, Bool.and_false, Bool.true_or, Bool.or_true, Bool.false_or, Bool.or_false, e6, t_bad, t_x, dIn_sign, hb2, str_obj]
            rw [if_pos (by omega)]
        · simp [e1]
        · intro d hd
          rcases List.mem_append.mp hd with hd | hd
          · exact e2 d hd
          · simp at hd; omega
        · intro h
          rw [List.all_append, e3 h]
          have : sgn c = true := by
            rcases hc2 with h1 | h1
            · exact h1
            · exact absurd ⟨h1, h⟩ hb
          simp [this])
  obtain ⟨l, a, b, e1, e2, e3, e4, e5⟩ := h2
  subst e4; subst e5
  refine ⟨l, e1, e2, e3, ?_⟩
  have hr : (many : Int) ≤ 16777216 ∧ -(2 ^ 62) ≤ (many : Int) := by omega
  unfold m_law_signs b_law_signs
  simp only [fnOf, ev_seq, ev_asg, sBnd_def, ev_op, ev_un, bnd_def, ev_call, evs_cons, evs_nil, ev_var, ev_c, ev_if, ev_next, ev_expr, ev_tru, ev_bl, ev_and, ev_or, ev_not, ev_yes, ev_andE, ev_orE, ev_notE, ev_ifE, ev_chain, ofB_some, ofO_some, ofO_none, truD_non, truD_bl, truD_int, truD_str, truD_tup, truD_lst, truD_lsk, ev_tup, ev_lst, ev_nwF, ev_nwM, ev_meth, ev_make, ev_fld, ev_setF, ev_bm1, asQ_tup, asQ_lst, asQ_lsk, asL_lst, asL_lsk, dLen_tup, dLen_lst, dLen_lsk, dLen_str, dIx_tup, dIx_lst, dIx_lsk, dIx_str, dAdd_int, dNeg_int, isN_def, notN_def, isNon_non, isNon_int, isNon_bl, isNon_str, isNon_tup, isNon_lst, isNon_obj, isNon_exc, dEq_int, dNe_int, dEq_str, dNe_str, dEq_bl, atI_zero, atI_one, atI_2, atI_3, atI_4, atI_5, atI_6, atI_7, atI_8, atI_9, atI_10, atI_11, atI_12, atI_m1, ev_gT, setAll_nil, setAll_cons, iOp_int, ev_gN, ev_ret, List.map_cons, List.map_nil, List.length_cons, List.length_nil, rep_zero, rep_succ, List.cons_append, List.nil_append, List.getElem?_cons_zero, List.getElem?_cons_succ, List.set_cons_zero, List.set_cons_succ, Nat.sub_self, Nat.reduceAdd, Nat.reduceSub, Option.map_some, Option.bind_some, if_true, Bool.not_true, Bool.not_false, Bool.false_eq_true, if_false, decide_true, decide_false, Int.reduceBEq, Int.reduceEq, Int.reduceLT, Int.reduceLE, Int.reduceNeg, Int.reduceAdd, Int.reduceSub, Int.reduceMul, Int.reduceToNat, Nat.reduceLT, Nat.reduceLeDiff, beq_self_eq_true, reduceIte, eq_self, Int.reduceNe, Int.reduceBNe, not_true_eq_false, not_false_eq_true, true_and, and_true, true_or, or_true, false_or, or_false, and_false, false_and, decide_eq_true_eq, Bool.true_and, Bool.and_true, Bool.false_and, Bool.and_false, Bool.true_or, Bool.or_true, Bool.false_or, Bool.or_false, t_signs, t_nil, ev_for, ev_iRange, hr, Int.toNat_natCast, h1]
theorem ex_level (ns : List Int) {n : Nat} {s : Sto} (hs : 0 < s.length) (hn : n + 20 < 1000000) : ∃ (l : List Nat) (n' : Nat), n' ≤ n + 14 ∧ gl l = true ∧ m_law_level [sc ns, .obj 0] (tw s n) = .ok (.str (mkS l)) (tw s n') := by
  obtain ⟨v, hv, h1⟩ := ex_draw ns (n := n) (s := s) (many := 8) hs (by omega) (by decide)
  by_cases h5 : (v : Int) < 5
  · obtain ⟨d, hd, h2⟩ := ex_pick ns (n := n + 1) (l := [.str (mkS [97]), .str (mkS [98]), .str (mkS []), .str (mkS [36, 115]), .str (mkS [97, 98])]) hs (by omega) (by simp)
    have hx : ∃ l, d = .str (mkS l) ∧ gl l = true := by
      simp only [List.mem_cons, List.not_mem_nil, or_false] at hd
      rcases hd with h | h | h | h | h <;> exact ⟨_, h, by decide⟩
    obtain ⟨l, e, hl⟩ := hx
    subst e
    refine ⟨l, n + 2, by omega, hl, ?_⟩
    unfold m_law_level b_law_level
    simp only [fnOf, ev_seq, ev_asg, sBnd_def, ev_op, ev_un, bnd_def, ev_call, evs_cons, evs_nil, ev_var, ev_c, ev_if, ev_next, ev_expr, ev_tru, ev_bl, ev_and, ev_or, ev_not, ev_yes, ev_andE, ev_orE, ev_notE, ev_ifE, ev_chain, ofB_some, ofO_some, ofO_none, truD_non, truD_bl, truD_int, truD_str, truD_tup, truD_lst, truD_lsk, ev_tup, ev_lst, ev_nwF, ev_nwM, ev_meth, ev_make, ev_fld, ev_setF, ev_bm1, asQ_tup, asQ_lst, asQ_lsk, asL_lst, asL_lsk, dLen_tup, dLen_lst, dLen_lsk, dLen_str, dIx_tup, dIx_lst, dIx_lsk, dIx_str, dAdd_int, dNeg_int, isN_def, notN_def, isNon_non, isNon_int, isNon_bl, isNon_str, isNon_tup, isNon_lst, isNon_obj, isNon_exc, dEq_int, dNe_int, dEq_str, dNe_str, dEq_bl, atI_zero, atI_one, atI_2, atI_3, atI_4, atI_5, atI_6, atI_7, atI_8, atI_9, atI_10, atI_11, atI_12, atI_m1, ev_gT, setAll_nil, setAll_cons, iOp_int, ev_gN, ev_ret, List.map_cons, List.map_nil, List.length_cons, List.length_nil, rep_zero, rep_succ, List.cons_append, List.nil_append, List.getElem?_cons_zero, List.getElem?_cons_succ, List.set_cons_zero, List.set_cons_succ, Nat.sub_self, Nat.reduceAdd, Nat.reduceSub, Option.map_some, Option.bind_some, if_true, Bool.not_true, Bool.not_false, Bool.false_eq_true, if_false, decide_true, decide_false, Int.reduceBEq, Int.reduceEq, Int.reduceLT, Int.reduceLE, Int.reduceNeg, Int.reduceAdd, Int.reduceSub, Int.reduceMul, Int.reduceToNat, Nat.reduceLT, Nat.reduceLeDiff, beq_self_eq_true, reduceIte, eq_self, Int.reduceNe, Int.reduceBNe, not_true_eq_false, not_false_eq_true, true_and, and_true, true_or, or_true, false_or, or_false, and_false, false_and, decide_eq_true_eq, Bool.true_and, Bool.and_true, Bool.false_and, Bool.and_false, Bool.true_or, Bool.or_true, Bool.false_or, Bool.or_false, h1, dLt, h5, t_a, t_b, t_nil, t_ds, t_ab, h2]
  · obtain ⟨d, hd, h2⟩ := ex_pick ns (n := n + 1) (l := [.int 1, .int 2, .int 5, .int 12]) hs (by omega) (by simp)
    have hx : ∃ m : Nat, d = .int (m : Int) ∧ m ≤ 12 := by
      simp only [List.mem_cons, List.not_mem_nil, or_false] at hd
      rcases hd with h | h | h | h
      · exact ⟨1, h, by decide⟩
      · exact ⟨2, h, by decide⟩
      · exact ⟨5, h, by decide⟩
      · exact ⟨12, h, by decide⟩
    obtain ⟨m, e, hm⟩ := hx
    subst e
    obtain ⟨l, e1, e2, e3, e4⟩ := ex_signs ns (n := n + 1 + 1) (many := m) (also := false) (s := s) hs (by omega) (by omega)
    refine ⟨l, n + 1 + 1 + m, by omega, ?_, ?_⟩
    · unfold gl
      rw [e3 rfl, Bool.and_true]
      exact decide_eq_true (by omega)
    · unfold m_law_level b_law_level
      simp only [fnOf, ev_seq, ev_asg, sBnd_def, ev_op, ev_un, bnd_def, ev_call, evs_cons, evs_nil, ev_var, ev_c, ev_if, ev_next, ev_expr, ev_tru, ev_bl, ev_and, ev_or, ev_not, ev_yes, ev_andE, ev_orE, ev_notE, ev_ifE, ev_chain, ofB_some, ofO_some, ofO_none, truD_non, truD_bl, truD_int, truD_str, truD_tup, truD_lst, truD_lsk, ev_tup, ev_lst, ev_nwF, ev_nwM, ev_meth, ev_make, ev_fld, ev_setF, ev_bm1, asQ_tup, asQ_lst, asQ_lsk, asL_lst, asL_lsk, dLen_tup, dLen_lst, dLen_lsk, dLen_str, dIx_tup, dIx_lst, dIx_lsk, dIx_str, dAdd_int, dNeg_int, isN_def, notN_def, isNon_non, isNon_int, isNon_bl, isNon_str, isNon_tup, isNon_lst, isNon_obj, isNon_exc, dEq_int, dNe_int, dEq_str, dNe_str, dEq_bl, atI_zero, atI_one, atI_2, atI_3, atI_4, atI_5, atI_6, atI_7, atI_8, atI_9, atI_10, atI_11, atI_12, atI_m1, ev_gT, setAll_nil, setAll_cons, iOp_int, ev_gN, ev_ret, List.map_cons, List.map_nil, List.length_cons, List.length_nil, rep_zero, rep_succ, List.cons_append, List.nil_append, List.getElem?_cons_zero, List.getElem?_cons_succ, List.set_cons_zero, List.set_cons_succ, Nat.sub_self, Nat.reduceAdd, Nat.reduceSub, Option.map_some, Option.bind_some, if_true, Bool.not_true, Bool.not_false, Bool.false_eq_true, if_false, decide_true, decide_false, Int.reduceBEq, Int.reduceEq, Int.reduceLT, Int.reduceLE, Int.reduceNeg, Int.reduceAdd, Int.reduceSub, Int.reduceMul, Int.reduceToNat, Nat.reduceLT, Nat.reduceLeDiff, beq_self_eq_true, reduceIte, eq_self, Int.reduceNe, Int.reduceBNe, not_true_eq_false, not_false_eq_true, true_and, and_true, true_or, or_true, false_or, or_false, and_false, false_and, decide_eq_true_eq, Bool.true_and, Bool.and_true, Bool.false_and, Bool.and_false, Bool.true_or, Bool.or_true, Bool.false_or, Bool.or_false, h1, dLt, h5, h2, e4]
/-! ### the law's own look at names -/
def lsg (c : Nat) : Bool := 32 ≤ c && c < 127 && !(35 == c || (37 == c || 43 == c))
def ll (l : List Nat) : Bool := decide (l.length < 13) && l.all lsg
theorem lsg_sgn {c : Nat} (h : c ≠ 47) : lsg c = sgn c := by
  unfold lsg sgn
  have : (c != 37 && !decide (c ∈ [43, 35, 47])) = !(35 == c || (37 == c || 43 == c)) := by
    rw [Bool.eq_iff_iff]
    simp
    omega
  rw [Bool.and_assoc (decide (32 ≤ c) && decide (c < 127)), this]
theorem ll_gl {l : List Nat} (h : 47 ∉ l) : ll l = gl l := by
  unfold ll gl
  have e1 : decide (l.length < 13) = decide (l.length ≤ 12) := by
    rw [Bool.eq_iff_iff]; simp; omega
  have e2 : l.all lsg = l.all sgn := by
    rw [Bool.eq_iff_iff, List.all_eq_true, List.all_eq_true]
    constructor
    · intro k c hc
      rw [← lsg_sgn (fun e => h (e ▸ hc))]
      exact k c hc
    · intro k c hc
      rw [lsg_sgn (fun e => h (e ▸ hc))]
      exact k c hc
  rw [e1, e2]
theorem nat_beq_int (a c : Nat) : (((a : Nat) : Int) == (c : Int)) = (a == c) := by
  rw [Bool.eq_iff_iff]; simp; omega
theorem ev_law_is_level (l : List Nat) (s : Sto) : m_law_is_level [.str (mkS l)] s = .ok (.bl (ll l)) s := by
  have e1 : lcGo (gN 2) Pd.tYes (eUn dOrd (eVar 2)) (fun _ => True) (l.map fun c => .str (mkS [c])) [some (.str (mkS l)), none, none, none] s = .ok (l.map fun (c : Nat) => .int (c : Int)) s := by
    refine lc_map trivial fun c _ => ⟨[some (.str (mkS l)), none, some (.str (mkS [c])), none], rfl, rfl, ?_⟩
    simp only [fnOf, ev_seq, ev_asg, sBnd_def, ev_op, ev_un, bnd_def, ev_call, evs_cons, evs_nil, ev_var, ev_c, ev_if, ev_next, ev_expr, ev_tru, ev_bl, ev_and, ev_or, ev_not, ev_yes, ev_andE, ev_orE, ev_notE, ev_ifE, ev_chain, ofB_some, ofO_some, ofO_none, truD_non, truD_bl, truD_int, truD_str, truD_tup, truD_lst, truD_lsk, ev_tup, ev_lst, ev_nwF, ev_nwM, ev_meth, ev_make, ev_fld, ev_setF, ev_bm1, asQ_tup, asQ_lst, asQ_lsk, asL_lst, asL_lsk, dLen_tup, dLen_lst, dLen_lsk, dLen_str, dIx_tup, dIx_lst, dIx_lsk, dIx_str, dAdd_int, dNeg_int, isN_def, notN_def, isNon_non, isNon_int, isNon_bl, isNon_str, isNon_tup, isNon_lst, isNon_obj, isNon_exc, dEq_int, dNe_int, dEq_str, dNe_str, dEq_bl, atI_zero, atI_one, atI_2, atI_3, atI_4, atI_5, atI_6, atI_7, atI_8, atI_9, atI_10, atI_11, atI_12, atI_m1, ev_gT, setAll_nil, setAll_cons, iOp_int, ev_gN, ev_ret, List.map_cons, List.map_nil, List.length_cons, List.length_nil, rep_zero, rep_succ, List.cons_append, List.nil_append, List.getElem?_cons_zero, List.getElem?_cons_succ, List.set_cons_zero, List.set_cons_succ, Nat.sub_self, Nat.reduceAdd, Nat.reduceSub, Option.map_some, Option.bind_some, if_true, Bool.not_true, Bool.not_false, Bool.false_eq_true, if_false, decide_true, decide_false, Int.reduceBEq, Int.reduceEq, Int.reduceLT, Int.reduceLE, Int.reduceNeg, Int.reduceAdd, Int.reduceSub, Int.reduceMul, Int.reduceToNat, Nat.reduceLT, Nat.reduceLeDiff, beq_self_eq_true, reduceIte, eq_self, Int.reduceNe, Int.reduceBNe, not_true_eq_false, not_false_eq_true, true_and, and_true, true_or, or_true, false_or, or_false, and_false, false_and, decide_eq_true_eq, Bool.true_and, Bool.and_true, Bool.false_and, Bool.and_false, Bool.true_or, Bool.or_true, Bool.false_or, Bool.or_false, dOrd_mk]
  have e2 : lcGo (gN 3) Pd.tYes (eAnd (eChain dLe dLt (eC (.int 32)) (eVar 3) (eC (.int 127))) (eOp dNotIn (eVar 3) (eTup [eC (.int 35), eC (.int 37), eC (.int 43)]))) (fun _ => True) (l.map fun (c : Nat) => .int (c : Int)) [some (.str (mkS l)), some (.lst (l.map fun (c : Nat) => .int (c : Int))), none, none] s = .ok (l.map fun c => .bl (lsg c)) s := by
    refine lc_map trivial fun c _ => ⟨[some (.str (mkS l)), some (.lst (l.map fun (c : Nat) => .int (c : Int))), none, some (.int (c : Int))], rfl, rfl, ?_⟩
    have b1 : ((35 : Int) == (c : Int)) = (35 == c) := nat_beq_int 35 c
    have b2 : ((37 : Int) == (c : Int)) = (37 == c) := nat_beq_int 37 c
    have b3 : ((43 : Int) == (c : Int)) = (43 == c) := nat_beq_int 43 c
    by_cases h2 : (32 : Int) ≤ c
    · have a1 : decide (32 ≤ c) = true := decide_eq_true (by omega)
      by_cases h3 : (c : Int) < 127
      · have a2 : decide (c < 127) = true := decide_eq_true (by omega)
        simp only [fnOf, ev_seq, ev_asg, sBnd_def, ev_op, ev_un, bnd_def, ev_call, evs_cons, evs_nil, ev_var, ev_c, ev_if, ev_next, ev_expr, ev_tru, ev_bl, ev_and, ev_or, ev_not, ev_yes, ev_andE, ev_orE, ev_notE, ev_ifE, ev_chain, ofB_some, ofO_some, ofO_none, truD_non, truD_bl, truD_int, truD_str, truD_tup, truD_lst, truD_lsk, ev_tup, ev_lst, ev_nwF, ev_nwM, ev_meth, ev_make, ev_fld, ev_setF, ev_bm1, asQ_tup, asQ_lst, asQ_lsk, asL_lst, asL_lsk, dLen_tup, dLen_lst, dLen_lsk, dLen_str, dIx_tup, dIx_lst, dIx_lsk, dIx_str, dAdd_int, dNeg_int, isN_def, notN_def, isNon_non, isNon_int, isNon_bl, isNon_str, isNon_tup, isNon_lst, isNon_obj, isNon_exc, dEq_int, dNe_int, dEq_str, dNe_str, dEq_bl, atI_zero, atI_one, atI_2, atI_3, atI_4, atI_5, atI_6, atI_7, atI_8, atI_9, atI_10, atI_11, atI_12, atI_m1, ev_gT, setAll_nil, setAll_cons, iOp_int, ev_gN, ev_ret, List.map_cons, List.map_nil, List.length_cons, List.length_nil, rep_zero, rep_succ, List.cons_append, List.nil_append, List.getElem?_cons_zero, List.getElem?_cons_succ, List.set_cons_zero, List.set_cons_succ, Nat.sub_self, Nat.reduceAdd, Nat.reduceSub, Option.map_some, Option.bind_some, if_true, Bool.not_true, Bool.not_false, Bool.false_eq_true, if_false, decide_true, decide_false, Int.reduceBEq, Int.reduceEq, Int.reduceLT, Int.reduceLE, Int.reduceNeg, Int.reduceAdd, Int.reduceSub, Int.reduceMul, Int.reduceToNat, Nat.reduceLT, Nat.reduceLeDiff, beq_self_eq_true, reduceIte, eq_self, Int.reduceNe, Int.reduceBNe, not_true_eq_false, not_false_eq_true, true_and, and_true, true_or, or_true, false_or, or_false, and_false, false_and, decide_eq_true_eq, Bool.true_and, Bool.and_true, Bool.false_and, Bool.and_false, Bool.true_or, Bool.or_true, Bool.false_or, Bool.or_false, dLe, dLt, h2, h3, dNotIn_three, b1, b2, b3]
        unfold lsg
        rw [a1, a2]; rfl
      · have a2 : decide (c < 127) = false := decide_eq_false (by omega)
        simp only [fnOf, ev_seq, ev_asg, sBnd_def, ev_op, ev_un, bnd_def, ev_call, evs_cons, evs_nil, ev_var, ev_c, ev_if, ev_next, ev_expr, ev_tru, ev_bl, ev_and, ev_or, ev_not, ev_yes, ev_andE, ev_orE, ev_notE, ev_ifE, ev_chain, ofB_some, ofO_some, ofO_none, truD_non, truD_bl, truD_int, truD_str, truD_tup, truD_lst, truD_lsk, ev_tup, ev_lst, ev_nwF, ev_nwM, ev_meth, ev_make, ev_fld, ev_setF, ev_bm1, asQ_tup, asQ_lst, asQ_lsk, asL_lst, asL_lsk, dLen_tup, dLen_lst, dLen_lsk, dLen_str, dIx_tup, dIx_lst, dIx_lsk, dIx_str, dAdd_int, dNeg_int, isN_def, notN_def, isNon_non, isNon_int, isNon_bl, isNon_str, isNon_tup, isNon_lst, isNon_obj, isNon_exc, dEq_int, dNe_int, dEq_str, dNe_str, dEq_bl, atI_zero, atI_one, atI_2, atI_3, atI_4, atI_5, atI_6, atI_7, atI_8, atI_9, atI_10, atI_11, atI_12, atI_m1, ev_gT, setAll_nil, setAll_cons, iOp_int, ev_gN, ev_ret, List.map_cons, List.map_nil, List.length_cons, List.length_nil, rep_zero, rep_succ, List.cons_append, List.nil_append, List.getElem?_cons_zero, List.getElem?_cons_succ, List.set_cons_zero, List.set_cons_succ, Nat.sub_self, Nat.reduceAdd, Nat.reduceSub, Option.map_some, Option.bind_some, if_true, Bool.not_true, Bool.not_false, Bool.false_eq_true, if_false, decide_true, decide_false, Int.reduceBEq, Int.reduceEq, Int.reduceLT, Int.reduceLE, Int.reduceNeg, Int.reduceAdd, Int.reduceSub, Int.reduceMul, Int.reduceToNat, Nat.reduceLT, Nat.reduceLeDiff, beq_self_eq_true, reduceIte, eq_self, Int.reduceNe, Int.reduceBNe, not_true_eq_false, not_false_eq_true, true_and, and_true, true_or, or_true, false_or, or_false, and_false, false_and, decide_eq_true_eq, Bool.true_and, Bool.and_true, Bool.false_and, Bool.and_false, Bool.true_or, Bool.or_true, Bool.false_or, Bool.or_false, dLe, dLt, h2, h3]
        unfold lsg
        rw [a1, a2]; rfl
    · have a1 : decide (32 ≤ c) = false := decide_eq_false (by omega)
      simp only [fnOf, ev_seq, ev_asg, sBnd_def, ev_op, ev_un, bnd_def, ev_call, evs_cons, evs_nil, ev_var, ev_c, ev_if, ev_next, ev_expr, ev_tru, ev_bl, ev_and, ev_or, ev_not, ev_yes, ev_andE, ev_orE, ev_notE, ev_ifE, ev_chain, ofB_some, ofO_some, ofO_none, truD_non, truD_bl, truD_int, truD_str, truD_tup, truD_lst, truD_lsk, ev_tup, ev_lst, ev_nwF, ev_nwM, ev_meth, ev_make, ev_fld, ev_setF, ev_bm1, asQ_tup, asQ_lst, asQ_lsk, asL_lst, asL_lsk, dLen_tup, dLen_lst, dLen_lsk, dLen_str, dIx_tup, dIx_lst, dIx_lsk, dIx_str, dAdd_int, dNeg_int, isN_def, notN_def, isNon_non, isNon_int, isNon_bl, isNon_str, isNon_tup, isNon_lst, isNon_obj, isNon_exc, dEq_int, dNe_int, dEq_str, dNe_str, dEq_bl, atI_zero, atI_one, atI_2, atI_3, atI_4, atI_5, atI_6, atI_7, atI_8, atI_9, atI_10, atI_11, atI_12, atI_m1, ev_gT, setAll_nil, setAll_cons, iOp_int, ev_gN, ev_ret, List.map_cons, List.map_nil, List.length_cons, List.length_nil, rep_zero, rep_succ, List.cons_append, List.nil_append, List.getElem?_cons_zero, List.getElem?_cons_succ, List.set_cons_zero, List.set_cons_succ, Nat.sub_self, Nat.reduceAdd, Nat.reduceSub, Option.map_some, Option.bind_some, if_true, Bool.not_true, Bool.not_false, Bool.false_eq_true, if_false, decide_true, decide_false, Int.reduceBEq, Int.reduceEq, Int.reduceLT, Int.reduceLE, Int.reduceNeg, Int.reduceAdd, Int.reduceSub, Int.reduceMul, Int.reduceToNat, Nat.reduceLT, Nat.reduceLeDiff, beq_self_eq_true, reduceIte, eq_self, Int.reduceNe, Int.reduceBNe, not_true_eq_false, not_false_eq_true, true_and, and_true, true_or, or_true, false_or, or_false, and_false, false_and, decide_eq_true_eq, Bool.true_and, Bool.and_true, Bool.false_and, Bool.and_false, Bool.true_or, Bool.or_true, Bool.false_or, Bool.or_false, dLe, dLt, h2]
      unfold lsg
      rw [a1]; rfl
  unfold m_law_is_level b_law_is_level
  by_cases h : l.length < 13
  · have h1 : (l.length : Int) < 13 := by omega
    have hl : ll l = l.all lsg := by unfold ll; rw [decide_eq_true h, Bool.true_and]
    simp only [fnOf, ev_seq, ev_asg, sBnd_def, ev_op, ev_un, bnd_def, ev_call, evs_cons, evs_nil, ev_var, ev_c, ev_if, ev_next, ev_expr, ev_tru, ev_bl, ev_and, ev_or, ev_not, ev_yes, ev_andE, ev_orE, ev_notE, ev_ifE, ev_chain, ofB_some, ofO_some, ofO_none, truD_non, truD_bl, truD_int, truD_str, truD_tup, truD_lst, truD_lsk, ev_tup, ev_lst, ev_nwF, ev_nwM, ev_meth, ev_make, ev_fld, ev_setF, ev_bm1, asQ_tup, asQ_lst, asQ_lsk, asL_lst, asL_lsk, dLen_tup, dLen_lst, dLen_lsk, dLen_str, dIx_tup, dIx_lst, dIx_lsk, dIx_str, dAdd_int, dNeg_int, isN_def, notN_def, isNon_non, isNon_int, isNon_bl, isNon_str, isNon_tup, isNon_lst, isNon_obj, isNon_exc, dEq_int, dNe_int, dEq_str, dNe_str, dEq_bl, atI_zero, atI_one, atI_2, atI_3, atI_4, atI_5, atI_6, atI_7, atI_8, atI_9, atI_10, atI_11, atI_12, atI_m1, ev_gT, setAll_nil, setAll_cons, iOp_int, ev_gN, ev_ret, List.map_cons, List.map_nil, List.length_cons, List.length_nil, rep_zero, rep_succ, List.cons_append, List.nil_append, List.getElem?_cons_zero, List.getElem?_cons_succ, List.set_cons_zero, List.set_cons_succ, Nat.sub_self, Nat.reduceAdd, Nat.reduceSub, Option.map_some, Option.bind_some, if_true, Bool.not_true, Bool.not_false, Bool.false_eq_true, if_false, decide_true, decide_false, Int.reduceBEq, Int.reduceEq, Int.reduceLT, Int.reduceLE, Int.reduceNeg, Int.reduceAdd, Int.reduceSub, Int.reduceMul, Int.reduceToNat, Nat.reduceLT, Nat.reduceLeDiff, beq_self_eq_true, reduceIte, eq_self, Int.reduceNe, Int.reduceBNe, not_true_eq_false, not_false_eq_true, true_and, and_true, true_or, or_true, false_or, or_false, and_false, false_and, decide_eq_true_eq, Bool.true_and, Bool.and_true, Bool.false_and, Bool.and_false, Bool.true_or, Bool.or_true, Bool.false_or, Bool.or_false, ev_lc, ev_iSeq, signs_mk, wipeD_nil, wipeD_cons, bndN, e1, mkS_len, dLt, h1, e2, dAll_map, hl]
  · have h1 : ¬ (l.length : Int) < 13 := by omega
    have hl : ll l = false := by unfold ll; rw [decide_eq_false h, Bool.false_and]
    simp only [fnOf, ev_seq, ev_asg, sBnd_def, ev_op, ev_un, bnd_def, ev_call, evs_cons, evs_nil, ev_var, ev_c, ev_if, ev_next, ev_expr, ev_tru, ev_bl, ev_and, ev_or, ev_not, ev_yes, ev_andE, ev_orE, ev_notE, ev_ifE, ev_chain, ofB_some, ofO_some, ofO_none, truD_non, truD_bl, truD_int, truD_str, truD_tup, truD_lst, truD_lsk, ev_tup, ev_lst, ev_nwF, ev_nwM, ev_meth, ev_make, ev_fld, ev_setF, ev_bm1, asQ_tup, asQ_lst, asQ_lsk, asL_lst, asL_lsk, dLen_tup, dLen_lst, dLen_lsk, dLen_str, dIx_tup, dIx_lst, dIx_lsk, dIx_str, dAdd_int, dNeg_int, isN_def, notN_def, isNon_non, isNon_int, isNon_bl, isNon_str, isNon_tup, isNon_lst, isNon_obj, isNon_exc, dEq_int, dNe_int, dEq_str, dNe_str, dEq_bl, atI_zero, atI_one, atI_2, atI_3, atI_4, atI_5, atI_6, atI_7, atI_8, atI_9, atI_10, atI_11, atI_12, atI_m1, ev_gT, setAll_nil, setAll_cons, iOp_int, ev_gN, ev_ret, List.map_cons, List.map_nil, List.length_cons, List.length_nil, rep_zero, rep_succ, List.cons_append, List.nil_append, List.getElem?_cons_zero, List.getElem?_cons_succ, List.set_cons_zero, List.set_cons_succ, Nat.sub_self, Nat.reduceAdd, Nat.reduceSub, Option.map_some, Option.bind_some, if_true, Bool.not_true, Bool.not_false, Bool.false_eq_true, if_false, decide_true, decide_false, Int.reduceBEq, Int.reduceEq, Int.reduceLT, Int.reduceLE, Int.reduceNeg, Int.reduceAdd, Int.reduceSub, Int.reduceMul, Int.reduceToNat, Nat.reduceLT, Nat.reduceLeDiff, beq_self_eq_true, reduceIte, eq_self, Int.reduceNe, Int.reduceBNe, not_true_eq_false, not_false_eq_true, true_and, and_true, true_or, or_true, false_or, or_false, and_false, false_and, decide_eq_true_eq, Bool.true_and, Bool.and_true, Bool.false_and, Bool.and_false, Bool.true_or, Bool.or_true, Bool.false_or, Bool.or_false, ev_lc, ev_iSeq, signs_mk, wipeD_nil, wipeD_cons, bndN, e1, mkS_len, dLt, h1, hl]
theorem all_ll (l : List Nat) : (splC 47 l).all ll = (splC 47 l).all gl := by
  rw [Bool.eq_iff_iff, List.all_eq_true, List.all_eq_true]
  constructor
  · intro k p hp
    rw [← ll_gl (splC_free 47 l p hp)]
    exact k p hp
  · intro k p hp
    rw [ll_gl (splC_free 47 l p hp)]
    exact k p hp
theorem putAt_last {s : Sto} {i : Nat} {l : List Dt} {z v : Dt} (h : s[i]? = some (.lst (l ++ [z]))) : Pd.putAt (.obj i) (.int (-1)) v s = some (s.set i (.lst (l ++ [v]))) := by
  have e : ixN (l ++ [z]).length (-1) = some l.length := by
    unfold ixN
    rw [if_neg (by decide), List.length_append, List.length_singleton, if_pos (by omega)]
    congr 1
    omega
  simp only [Pd.putAt, lstAt_obj h, e, Option.map_some]
  rw [List.set_append_right _ _ (Nat.le_refl _), Nat.sub_self]
  rfl
theorem ev_law_is_wish (l : List Nat) (s : Sto) : ∃ m, m_law_is_wish [.str (mkS l)] s = .ok (.bl (isWish l)) (s ++ [m]) := by
  obtain ⟨z, hz⟩ := splC_last_ne l
  obtain ⟨ds, hd⟩ := List.getLast?_eq_some_iff.mp hz
  -- the levels as they stand in the end
  have key : ∀ (zs : List (List Nat)), zs.length = (splC 47 l).length → (zs.all fun p => p == [43] || ll p) = (plain (splC 47 l)).all gw → ∀ s' : Sto, s'[s.length]? = some (.lst (lvs zs)) → 
      (sRet (eAnd (eOp dNe (eVar 0) (eC (.str (mkS [])))) (eAnd (eOp dLt (eUn dLen (eVar 1)) (eC (.int 9))) (eUn dAll (eLc nwF [2] (iSeq (eVar 1)) (gN 2) (Pd.tYes) (eOr (eOp dEq (eVar 2) (eC (.str (mkS [43])))) (eCall m_law_is_level [eVar 2]))))))) [some (.str (mkS l)), some (.obj s.length), none] s' = .fl (.rt (.bl (isWish l))) s' := fun zs hzl hall s' hs' => by
    have g1 := dLen_obj hs'
    have g2 := asQ_obj hs'
    have e3 : lcGo (gN 2) Pd.tYes (eOr (eOp dEq (eVar 2) (eC (.str (mkS [43])))) (eCall m_law_is_level [eVar 2])) (fun s'' => asQ s'' (.obj s.length) = some (lvs zs)) (lvs zs) [some (.str (mkS l)), some (.obj s.length), none] s' = .ok (zs.map fun p => .bl (p == [43] || ll p)) s' := by
      refine lc_map ?_ fun p _ => ⟨[some (.str (mkS l)), some (.obj s.length), some (.str (mkS p))], rfl, rfl, ?_⟩
      · exact g2
      cases hp : (p == [43]) with
      | true => simp only [fnOf, ev_seq, ev_asg, sBnd_def, ev_op, ev_un, bnd_def, ev_call, evs_cons, evs_nil, ev_var, ev_c, ev_if, ev_next, ev_expr, ev_tru, ev_bl, ev_and, ev_or, ev_not, ev_yes, ev_andE, ev_orE, ev_notE, ev_ifE, ev_chain, ofB_some, ofO_some, ofO_none, truD_non, truD_bl, truD_int, truD_str, truD_tup, truD_lst, truD_lsk, ev_tup, ev_lst, ev_nwF, ev_nwM, ev_meth, ev_make, ev_fld, ev_setF, ev_bm1, asQ_tup, asQ_lst, asQ_lsk, asL_lst, asL_lsk, dLen_tup, dLen_lst, dLen_lsk, dLen_str, dIx_tup, dIx_lst, dIx_lsk, dIx_str, dAdd_int, dNeg_int, isN_def, notN_def, isNon_non, isNon_int, isNon_bl, isNon_str, isNon_tup, isNon_lst, isNon_obj, isNon_exc, dEq_int, dNe_int, dEq_str, dNe_str, dEq_bl, atI_zero, atI_one, atI_2, atI_3, atI_4, atI_5, atI_6, atI_7, atI_8, atI_9, atI_10, atI_11, atI_12, atI_m1, ev_gT, setAll_nil, setAll_cons, iOp_int, ev_gN, ev_ret, List.map_cons, List.map_nil, List.length_cons, List.length_nil, rep_zero, rep_succ, List.cons_append, List.nil_append, List.getElem?_cons_zero, List.getElem?_cons_succ, List.set_cons_zero, List.set_cons_succ, Nat.sub_self, Nat.reduceAdd, Nat.reduceSub, Option.map_some, Option.bind_some, if_true, Bool.not_true, Bool.not_false, Bool.false_eq_true, if_false, decide_true, decide_false, Int.reduceBEq, Int.reduceEq, Int.reduceLT, Int.reduceLE, Int.reduceNeg, Int.reduceAdd, Int.reduceSub, Int.reduceMul, Int.reduceToNat, Nat.reduceLT, Nat.reduceLeDiff, beq_self_eq_true, reduceIte, eq_self, Int.reduceNe, Int.reduceBNe, not_true_eq_false, not_false_eq_true, true_and, and_true, true_or, or_true, false_or, or_false, and_false, false_and, decide_eq_true_eq, Bool.true_and, Bool.and_true, Bool.false_and, Bool.and_false, Bool.true_or, Bool.or_true, Bool.false_or, Bool.or_false, ev_law_is_level, mkS_beq, hp]
      | false => simp only [fnOf, ev_seq, ev_asg, sBnd_def, ev_op, ev_un, bnd_def, ev_call, evs_cons, evs_nil, ev_var, ev_c, ev_if, ev_next, ev_expr, ev_tru, ev_bl, ev_and, ev_or, ev_not, ev_yes, ev_andE, ev_orE, ev_notE, ev_ifE, ev_chain, ofB_some, ofO_some, ofO_none, truD_non, truD_bl, truD_int, truD_str, truD_tup, truD_lst, truD_lsk, ev_tup, ev_lst, ev_nwF, ev_nwM, ev_meth, ev_make, ev_fld, ev_setF, ev_bm1, asQ_tup, asQ_lst, asQ_lsk, asL_lst, asL_lsk, dLen_tup, dLen_lst, dLen_lsk, dLen_str, dIx_tup, dIx_lst, dIx_lsk, dIx_str, dAdd_int, dNeg_int, isN_def, notN_def, isNon_non, isNon_int, isNon_bl, isNon_str, isNon_tup, isNon_lst, isNon_obj, isNon_exc, dEq_int, dNe_int, dEq_str, dNe_str, dEq_bl, atI_zero, atI_one, atI_2, atI_3, atI_4, atI_5, atI_6, atI_7, atI_8, atI_9, atI_10, atI_11, atI_12, atI_m1, ev_gT, setAll_nil, setAll_cons, iOp_int, ev_gN, ev_ret, List.map_cons, List.map_nil, List.length_cons, List.length_nil, rep_zero, rep_succ, List.cons_append, List.nil_append, List.getElem?_cons_zero, List.getElem?_cons_succ, List.set_cons_zero, List.set_cons_succ, Nat.sub_self, Nat.reduceAdd, Nat.reduceSub, Option.map_some, Option.bind_some, if_true, Bool.not_true, Bool.not_false, Bool.false_eq_true, if_false, decide_true, decide_false, Int.reduceBEq, Int.reduceEq, Int.reduceLT, Int.reduceLE, Int.reduceNeg, Int.reduceAdd, Int.reduceSub, Int.reduceMul, Int.reduceToNat, Nat.reduceLT, Nat.reduceLeDiff, beq_self_eq_true, reduceIte, eq_self, Int.reduceNe, Int.reduceBNe, not_true_eq_false, not_false_eq_true, true_and, and_true, true_or, or_true, false_or, or_false, and_false, false_and, decide_eq_true_eq, Bool.true_and, Bool.and_true, Bool.false_and, Bool.and_false, Bool.true_or, Bool.or_true, Bool.false_or, Bool.or_false, ev_law_is_level, mkS_beq, hp]
    by_cases h1 : (l == []) = true
    · have hn : isWish l = false := by unfold isWish; rw [h1]; rfl
      simp only [fnOf, ev_seq, ev_asg, sBnd_def, ev_op, ev_un, bnd_def, ev_call, evs_cons, evs_nil, ev_var, ev_c, ev_if, ev_next, ev_expr, ev_tru, ev_bl, ev_and, ev_or, ev_not, ev_yes, ev_andE, ev_orE, ev_notE, ev_ifE, ev_chain, ofB_some, ofO_some, ofO_none, truD_non, truD_bl, truD_int, truD_str, truD_tup, truD_lst, truD_lsk, ev_tup, ev_lst, ev_nwF, ev_nwM, ev_meth, ev_make, ev_fld, ev_setF, ev_bm1, asQ_tup, asQ_lst, asQ_lsk, asL_lst, asL_lsk, dLen_tup, dLen_lst, dLen_lsk, dLen_str, dIx_tup, dIx_lst, dIx_lsk, dIx_str, dAdd_int, dNeg_int, isN_def, notN_def, isNon_non, isNon_int, isNon_bl, isNon_str, isNon_tup, isNon_lst, isNon_obj, isNon_exc, dEq_int, dNe_int, dEq_str, dNe_str, dEq_bl, atI_zero, atI_one, atI_2, atI_3, atI_4, atI_5, atI_6, atI_7, atI_8, atI_9, atI_10, atI_11, atI_12, atI_m1, ev_gT, setAll_nil, setAll_cons, iOp_int, ev_gN, ev_ret, List.map_cons, List.map_nil, List.length_cons, List.length_nil, rep_zero, rep_succ, List.cons_append, List.nil_append, List.getElem?_cons_zero, List.getElem?_cons_succ, List.set_cons_zero, List.set_cons_succ, Nat.sub_self, Nat.reduceAdd, Nat.reduceSub, Option.map_some, Option.bind_some, if_true, Bool.not_true, Bool.not_false, Bool.false_eq_true, if_false, decide_true, decide_false, Int.reduceBEq, Int.reduceEq, Int.reduceLT, Int.reduceLE, Int.reduceNeg, Int.reduceAdd, Int.reduceSub, Int.reduceMul, Int.reduceToNat, Nat.reduceLT, Nat.reduceLeDiff, beq_self_eq_true, reduceIte, eq_self, Int.reduceNe, Int.reduceBNe, not_true_eq_false, not_false_eq_true, true_and, and_true, true_or, or_true, false_or, or_false, and_false, false_and, decide_eq_true_eq, Bool.true_and, Bool.and_true, Bool.false_and, Bool.and_false, Bool.true_or, Bool.or_true, Bool.false_or, Bool.or_false, mkS_beq, h1, hn]
    · have h1' : (l == []) = false := by simpa using h1
      by_cases h2 : (splC 47 l).length ≤ 8
      · have g3 : ((lvs zs).length : Int) < 9 := by rw [List.length_map]; omega
        have hn : isWish l = (plain (splC 47 l)).all gw := by unfold isWish; rw [h1', decide_eq_true h2]; rfl
        simp only [fnOf, ev_seq, ev_asg, sBnd_def, ev_op, ev_un, bnd_def, ev_call, evs_cons, evs_nil, ev_var, ev_c, ev_if, ev_next, ev_expr, ev_tru, ev_bl, ev_and, ev_or, ev_not, ev_yes, ev_andE, ev_orE, ev_notE, ev_ifE, ev_chain, ofB_some, ofO_some, ofO_none, truD_non, truD_bl, truD_int, truD_str, truD_tup, truD_lst, truD_lsk, ev_tup, ev_lst, ev_nwF, ev_nwM, ev_meth, ev_make, ev_fld, ev_setF, ev_bm1, asQ_tup, asQ_lst, asQ_lsk, asL_lst, asL_lsk, dLen_tup, dLen_lst, dLen_lsk, dLen_str, dIx_tup, dIx_lst, dIx_lsk, dIx_str, dAdd_int, dNeg_int, isN_def, notN_def, isNon_non, isNon_int, isNon_bl, isNon_str, isNon_tup, isNon_lst, isNon_obj, isNon_exc, dEq_int, dNe_int, dEq_str, dNe_str, dEq_bl, atI_zero, atI_one, atI_2, atI_3, atI_4, atI_5, atI_6, atI_7, atI_8, atI_9, atI_10, atI_11, atI_12, atI_m1, ev_gT, setAll_nil, setAll_cons, iOp_int, ev_gN, ev_ret, List.map_cons, List.map_nil, List.length_cons, List.length_nil, rep_zero, rep_succ, List.cons_append, List.nil_append, List.getElem?_cons_zero, List.getElem?_cons_succ, List.set_cons_zero, List.set_cons_succ, Nat.sub_self, Nat.reduceAdd, Nat.reduceSub, Option.map_some, Option.bind_some, if_true, Bool.not_true, Bool.not_false, Bool.false_eq_true, if_false, decide_true, decide_false, Int.reduceBEq, Int.reduceEq, Int.reduceLT, Int.reduceLE, Int.reduceNeg, Int.reduceAdd, Int.reduceSub, Int.reduceMul, Int.reduceToNat, Nat.reduceLT, Nat.reduceLeDiff, beq_self_eq_true, reduceIte, eq_self, Int.reduceNe, Int.reduceBNe, not_true_eq_false, not_false_eq_true, true_and, and_true, true_or, or_true, false_or, or_false, and_false, false_and, decide_eq_true_eq, Bool.true_and, Bool.and_true, Bool.false_and, Bool.and_false, Bool.true_or, Bool.or_true, Bool.false_or, Bool.or_false, mkS_beq, h1', g1, dLt, g3, ev_lc, ev_iSeq, g2, wipeD_nil, wipeD_cons, bndN, e3, dAll_map, hn, hall]
      · have g3 : ¬ ((lvs zs).length : Int) < 9 := by rw [List.length_map]; omega
        have hn : isWish l = false := by unfold isWish; rw [h1', decide_eq_false h2]; rfl
        simp only [fnOf, ev_seq, ev_asg, sBnd_def, ev_op, ev_un, bnd_def, ev_call, evs_cons, evs_nil, ev_var, ev_c, ev_if, ev_next, ev_expr, ev_tru, ev_bl, ev_and, ev_or, ev_not, ev_yes, ev_andE, ev_orE, ev_notE, ev_ifE, ev_chain, ofB_some, ofO_some, ofO_none, truD_non, truD_bl, truD_int, truD_str, truD_tup, truD_lst, truD_lsk, ev_tup, ev_lst, ev_nwF, ev_nwM, ev_meth, ev_make, ev_fld, ev_setF, ev_bm1, asQ_tup, asQ_lst, asQ_lsk, asL_lst, asL_lsk, dLen_tup, dLen_lst, dLen_lsk, dLen_str, dIx_tup, dIx_lst, dIx_lsk, dIx_str, dAdd_int, dNeg_int, isN_def, notN_def, isNon_non, isNon_int, isNon_bl, isNon_str, isNon_tup, isNon_lst, isNon_obj, isNon_exc, dEq_int, dNe_int, dEq_str, dNe_str, dEq_bl, atI_zero, atI_one, atI_2, atI_3, atI_4, atI_5, atI_6, atI_7, atI_8, atI_9, atI_10, atI_11, atI_12, atI_m1, ev_gT, setAll_nil, setAll_cons, iOp_int, ev_gN, ev_ret, List.map_cons, List.map_nil, List.length_cons, List.length_nil, rep_zero, rep_succ, List.cons_append, List.nil_append, List.getElem?_cons_zero, List.getElem?_cons_succ, List.set_cons_zero, List.set_cons_succ, Nat.sub_self, Nat.reduceAdd, Nat.reduceSub, Option.map_some, Option.bind_some, if_true, Bool.not_true, Bool.not_false, Bool.false_eq_true, if_false, decide_true, decide_false, Int.reduceBEq, Int.reduceEq, Int.reduceLT, Int.reduceLE, Int.reduceNeg, Int.reduceAdd, Int.reduceSub, Int.reduceMul, Int.reduceToNat, Nat.reduceLT, Nat.reduceLeDiff, beq_self_eq_true, reduceIte, eq_self, Int.reduceNe, Int.reduceBNe, not_true_eq_false, not_false_eq_true, true_and, and_true, true_or, or_true, false_or, or_false, and_false, false_and, decide_eq_true_eq, Bool.true_and, Bool.and_true, Bool.false_and, Bool.and_false, Bool.true_or, Bool.or_true, Bool.false_or, Bool.or_false, mkS_beq, h1', g1, dLt, g3, hn]
  have allEq : ∀ ps : List (List Nat), (∀ p ∈ ps, p ∈ splC 47 l) → (ps.all fun p => p == [43] || ll p) = ps.all gw := fun ps hps => by
    rw [Bool.eq_iff_iff, List.all_eq_true, List.all_eq_true]
    constructor
    · intro k p hp
      unfold gw
      rw [← ll_gl (splC_free 47 l p (hps p hp))]
      exact k p hp
    · intro k p hp
      have := k p hp
      unfold gw at this
      rw [← ll_gl (splC_free 47 l p (hps p hp))] at this
      exact this
  have o1 : (s ++ [Mo.lst (lvs (splC 47 l))])[s.length]? = some (.lst (lvs (ds ++ [z]))) := by rw [hd]; simp
  have o2 : (s ++ [Mo.lst (lvs (splC 47 l))])[s.length]? = some (.lst (lvs ds ++ [.str (mkS z)])) := by rw [o1]; simp
  have g4 := dIx_obj (i := -1) o2
  have g5 : (lvs ds ++ [Dt.str (mkS z)]).getLast? = some (.str (mkS z)) := by simp
  by_cases hh : z = [35]
  · have hb : (z == [35]) = true := by simpa using hh
    have hp : plain (splC 47 l) = ds := by unfold plain; rw [hz, hh, if_pos rfl, hd]; simp
    have g6 := putAt_last (v := .str (mkS [97])) o2
    refine ⟨.lst (lvs (ds ++ [[97]])), ?_⟩
    have g7 : (s ++ [Mo.lst (lvs (splC 47 l))]).set s.length (.lst (lvs ds ++ [.str (mkS [97])])) = s ++ [Mo.lst (lvs (ds ++ [[97]]))] := by
      rw [List.set_append_right _ _ (Nat.le_refl _), Nat.sub_self]
      simp
    rw [g7] at g6
    have k := key (ds ++ [[97]]) (by rw [hd]; simp) (by
      rw [hp, List.all_append, allEq ds (fun p h => by rw [hd]; exact List.mem_append_left _ h)]
      have : ([[97]].all fun p : List Nat => p == [43] || ll p) = true := by decide
      rw [this, Bool.and_true]) (s ++ [Mo.lst (lvs (ds ++ [[97]]))]) (by simp)
    unfold m_law_is_wish b_law_is_wish
    simp only [ev_ret] at k
    simp only [fnOf, ev_seq, ev_asg, sBnd_def, ev_op, ev_un, bnd_def, ev_call, evs_cons, evs_nil, ev_var, ev_c, ev_if, ev_next, ev_expr, ev_tru, ev_bl, ev_and, ev_or, ev_not, ev_yes, ev_andE, ev_orE, ev_notE, ev_ifE, ev_chain, ofB_some, ofO_some, ofO_none, truD_non, truD_bl, truD_int, truD_str, truD_tup, truD_lst, truD_lsk, ev_tup, ev_lst, ev_nwF, ev_nwM, ev_meth, ev_make, ev_fld, ev_setF, ev_bm1, asQ_tup, asQ_lst, asQ_lsk, asL_lst, asL_lsk, dLen_tup, dLen_lst, dLen_lsk, dLen_str, dIx_tup, dIx_lst, dIx_lsk, dIx_str, dAdd_int, dNeg_int, isN_def, notN_def, isNon_non, isNon_int, isNon_bl, isNon_str, isNon_tup, isNon_lst, isNon_obj, isNon_exc, dEq_int, dNe_int, dEq_str, dNe_str, dEq_bl, atI_zero, atI_one, atI_2, atI_3, atI_4, atI_5, atI_6, atI_7, atI_8, atI_9, atI_10, atI_11, atI_12, atI_m1, ev_gT, setAll_nil, setAll_cons, iOp_int, ev_gN, ev_ret, List.map_cons, List.map_nil, List.length_cons, List.length_nil, rep_zero, rep_succ, List.cons_append, List.nil_append, List.getElem?_cons_zero, List.getElem?_cons_succ, List.set_cons_zero, List.set_cons_succ, Nat.sub_self, Nat.reduceAdd, Nat.reduceSub, Option.map_some, Option.bind_some, if_true, Bool.not_true, Bool.not_false, Bool.false_eq_true, if_false, decide_true, decide_false, Int.reduceBEq, Int.reduceEq, Int.reduceLT, Int.reduceLE, Int.reduceNeg, Int.reduceAdd, Int.reduceSub, Int.reduceMul, Int.reduceToNat, Nat.reduceLT, Nat.reduceLeDiff, beq_self_eq_true, reduceIte, eq_self, Int.reduceNe, Int.reduceBNe, not_true_eq_false, not_false_eq_true, true_and, and_true, true_or, or_true, false_or, or_false, and_false, false_and, decide_eq_true_eq, Bool.true_and, Bool.and_true, Bool.false_and, Bool.and_false, Bool.true_or, Bool.or_true, Bool.false_or, Bool.or_false, t_nil, mkS_beq] at k
    simp only [fnOf, ev_seq, ev_asg, sBnd_def, ev_op, ev_un, bnd_def, ev_call, evs_cons, evs_nil, ev_var, ev_c, ev_if, ev_next, ev_expr, ev_tru, ev_bl, ev_and, ev_or, ev_not, ev_yes, ev_andE, ev_orE, ev_notE, ev_ifE, ev_chain, ofB_some, ofO_some, ofO_none, truD_non, truD_bl, truD_int, truD_str, truD_tup, truD_lst, truD_lsk, ev_tup, ev_lst, ev_nwF, ev_nwM, ev_meth, ev_make, ev_fld, ev_setF, ev_bm1, asQ_tup, asQ_lst, asQ_lsk, asL_lst, asL_lsk, dLen_tup, dLen_lst, dLen_lsk, dLen_str, dIx_tup, dIx_lst, dIx_lsk, dIx_str, dAdd_int, dNeg_int, isN_def, notN_def, isNon_non, isNon_int, isNon_bl, isNon_str, isNon_tup, isNon_lst, isNon_obj, isNon_exc, dEq_int, dNe_int, dEq_str, dNe_str, dEq_bl, atI_zero, atI_one, atI_2, atI_3, atI_4, atI_5, atI_6, atI_7, atI_8, atI_9, atI_10, atI_11, atI_12, atI_m1, ev_gT, setAll_nil, setAll_cons, iOp_int, ev_gN, ev_ret, List.map_cons, List.map_nil, List.length_cons, List.length_nil, rep_zero, rep_succ, List.cons_append, List.nil_append, List.getElem?_cons_zero, List.getElem?_cons_succ, List.set_cons_zero, List.set_cons_succ, Nat.sub_self, Nat.reduceAdd, Nat.reduceSub, Option.map_some, Option.bind_some, if_true, Bool.not_true, Bool.not_false, Bool.false_eq_true, if_false, decide_true, decide_false, Int.reduceBEq, Int.reduceEq, Int.reduceLT, Int.reduceLE, Int.reduceNeg, Int.reduceAdd, Int.reduceSub, Int.reduceMul, Int.reduceToNat, Nat.reduceLT, Nat.reduceLeDiff, beq_self_eq_true, reduceIte, eq_self, Int.reduceNe, Int.reduceBNe, not_true_eq_false, not_false_eq_true, true_and, and_true, true_or, or_true, false_or, or_false, and_false, false_and, decide_eq_true_eq, Bool.true_and, Bool.and_true, Bool.false_and, Bool.and_false, Bool.true_or, Bool.or_true, Bool.false_or, Bool.or_false, t_slash, t_hash, t_plus, t_nil, t_a, isStr_str, dSplit_mk, g4, g5, mkS_beq, hb, ev_setI, g6, k]
  · have hb : (z == [35]) = false := by simpa using hh
    have hp : plain (splC 47 l) = splC 47 l := by unfold plain; rw [hz, if_neg (fun h => hh (Option.some.inj h))]
    refine ⟨.lst (lvs (splC 47 l)), ?_⟩
    have k := key (splC 47 l) rfl (by rw [hp, allEq _ (fun p h => h)]) (s ++ [Mo.lst (lvs (splC 47 l))]) (by simp)
    unfold m_law_is_wish b_law_is_wish
    simp only [ev_ret] at k
    simp only [fnOf, ev_seq, ev_asg, sBnd_def, ev_op, ev_un, bnd_def, ev_call, evs_cons, evs_nil, ev_var, ev_c, ev_if, ev_next, ev_expr, ev_tru, ev_bl, ev_and, ev_or, ev_not, ev_yes, ev_andE, ev_orE, ev_notE, ev_ifE, ev_chain, ofB_some, ofO_some, ofO_none, truD_non, truD_bl, truD_int, truD_str, truD_tup, truD_lst, truD_lsk, ev_tup, ev_lst, ev_nwF, ev_nwM, ev_meth, ev_make, ev_fld, ev_setF, ev_bm1, asQ_tup, asQ_lst, asQ_lsk, asL_lst, asL_lsk, dLen_tup, dLen_lst, dLen_lsk, dLen_str, dIx_tup, dIx_lst, dIx_lsk, dIx_str, dAdd_int, dNeg_int, isN_def, notN_def, isNon_non, isNon_int, isNon_bl, isNon_str, isNon_tup, isNon_lst, isNon_obj, isNon_exc, dEq_int, dNe_int, dEq_str, dNe_str, dEq_bl, atI_zero, atI_one, atI_2, atI_3, atI_4, atI_5, atI_6, atI_7, atI_8, atI_9, atI_10, atI_11, atI_12, atI_m1, ev_gT, setAll_nil, setAll_cons, iOp_int, ev_gN, ev_ret, List.map_cons, List.map_nil, List.length_cons, List.length_nil, rep_zero, rep_succ, List.cons_append, List.nil_append, List.getElem?_cons_zero, List.getElem?_cons_succ, List.set_cons_zero, List.set_cons_succ, Nat.sub_self, Nat.reduceAdd, Nat.reduceSub, Option.map_some, Option.bind_some, if_true, Bool.not_true, Bool.not_false, Bool.false_eq_true, if_false, decide_true, decide_false, Int.reduceBEq, Int.reduceEq, Int.reduceLT, Int.reduceLE, Int.reduceNeg, Int.reduceAdd, Int.reduceSub, Int.reduceMul, Int.reduceToNat, Nat.reduceLT, Nat.reduceLeDiff, beq_self_eq_true, reduceIte, eq_self, Int.reduceNe, Int.reduceBNe, not_true_eq_false, not_false_eq_true, true_and, and_true, true_or, or_true, false_or, or_false, and_false, false_and, decide_eq_true_eq, Bool.true_and, Bool.and_true, Bool.false_and, Bool.and_false, Bool.true_or, Bool.or_true, Bool.false_or, Bool.or_false, t_nil, mkS_beq] at k
    simp only [fnOf, ev_seq, ev_asg, sBnd_def, ev_op, ev_un, bnd_def, ev_call, evs_cons, evs_nil, ev_var, ev_c, ev_if, ev_next, ev_expr, ev_tru, ev_bl, ev_and, ev_or, ev_not, ev_yes, ev_andE, ev_orE, ev_notE, ev_ifE, ev_chain, ofB_some, ofO_some, ofO_none, truD_non, truD_bl, truD_int, truD_str, truD_tup, truD_lst, truD_lsk, ev_tup, ev_lst, ev_nwF, ev_nwM, ev_meth, ev_make, ev_fld, ev_setF, ev_bm1, asQ_tup, asQ_lst, asQ_lsk, asL_lst, asL_lsk, dLen_tup, dLen_lst, dLen_lsk, dLen_str, dIx_tup, dIx_lst, dIx_lsk, dIx_str, dAdd_int, dNeg_int, isN_def, notN_def, isNon_non, isNon_int, isNon_bl, isNon_str, isNon_tup, isNon_lst, isNon_obj, isNon_exc, dEq_int, dNe_int, dEq_str, dNe_str, dEq_bl, atI_zero, atI_one, atI_2, atI_3, atI_4, atI_5, atI_6, atI_7, atI_8, atI_9, atI_10, atI_11, atI_12, atI_m1, ev_gT, setAll_nil, setAll_cons, iOp_int, ev_gN, ev_ret, List.map_cons, List.map_nil, List.length_cons, List.length_nil, rep_zero, rep_succ, List.cons_append, List.nil_append, List.getElem?_cons_zero, List.getElem?_cons_succ, List.set_cons_zero, List.set_cons_succ, Nat.sub_self, Nat.reduceAdd, Nat.reduceSub, Option.map_some, Option.bind_some, if_true, Bool.not_true, Bool.not_false, Bool.false_eq_true, if_false, decide_true, decide_false, Int.reduceBEq, Int.reduceEq, Int.reduceLT, Int.reduceLE, Int.reduceNeg, Int.reduceAdd, Int.reduceSub, Int.reduceMul, Int.reduceToNat, Nat.reduceLT, Nat.reduceLeDiff, beq_self_eq_true, reduceIte, eq_self, Int.reduceNe, Int.reduceBNe, not_true_eq_false, not_false_eq_true, true_and, and_true, true_or, or_true, false_or, or_false, and_false, false_and, decide_eq_true_eq, Bool.true_and, Bool.and_true, Bool.false_and, Bool.and_false, Bool.true_or, Bool.or_true, Bool.false_or, Bool.or_false, t_slash, t_hash, t_plus, t_nil, t_a, isStr_str, dSplit_mk, g4, g5, mkS_beq, hb, k]
end Tx
namespace Tx
open PySem L2 Pd
theorem ev_law_is_name (l : List Nat) (s : Sto) : m_law_is_name [.str (mkS l)] s = .ok (.bl (isName l)) s := by
  have e3 : lcGo (gN 2) Pd.tYes (eCall m_law_is_level [eVar 2]) (fun _ => True) (lvs (splC 47 l)) [some (.str (mkS l)), some (.lst (lvs (splC 47 l))), none] s = .ok ((splC 47 l).map fun p => .bl (ll p)) s := by
    refine lc_map ?_ fun p _ => ⟨[some (.str (mkS l)), some (.lst (lvs (splC 47 l))), some (.str (mkS p))], rfl, rfl, ?_⟩
    · trivial
    · simp only [fnOf, ev_seq, ev_asg, sBnd_def, ev_op, ev_un, bnd_def, ev_call, evs_cons, evs_nil, ev_var, ev_c, ev_if, ev_next, ev_expr, ev_tru, ev_bl, ev_and, ev_or, ev_not, ev_yes, ev_andE, ev_orE, ev_notE, ev_ifE, ev_chain, ofB_some, ofO_some, ofO_none, truD_non, truD_bl, truD_int, truD_str, truD_tup, truD_lst, truD_lsk, ev_tup, ev_lst, ev_nwF, ev_nwM, ev_meth, ev_make, ev_fld, ev_setF, ev_bm1, asQ_tup, asQ_lst, asQ_lsk, asL_lst, asL_lsk, dLen_tup, dLen_lst, dLen_lsk, dLen_str, dIx_tup, dIx_lst, dIx_lsk, dIx_str, dAdd_int, dNeg_int, isN_def, notN_def, isNon_non, isNon_int, isNon_bl, isNon_str, isNon_tup, isNon_lst, isNon_obj, isNon_exc, dEq_int, dNe_int, dEq_str, dNe_str, dEq_bl, atI_zero, atI_one, atI_2, atI_3, atI_4, atI_5, atI_6, atI_7, atI_8, atI_9, atI_10, atI_11, atI_12, atI_m1, ev_gT, setAll_nil, setAll_cons, iOp_int, ev_gN, ev_ret, List.map_cons, List.map_nil, List.length_cons, List.length_nil, rep_zero, rep_succ, List.cons_append, List.nil_append, List.getElem?_cons_zero, List.getElem?_cons_succ, List.set_cons_zero, List.set_cons_succ, Nat.sub_self, Nat.reduceAdd, Nat.reduceSub, Option.map_some, Option.bind_some, if_true, Bool.not_true, Bool.not_false, Bool.false_eq_true, if_false, decide_true, decide_false, Int.reduceBEq, Int.reduceEq, Int.reduceLT, Int.reduceLE, Int.reduceNeg, Int.reduceAdd, Int.reduceSub, Int.reduceMul, Int.reduceToNat, Nat.reduceLT, Nat.reduceLeDiff, beq_self_eq_true, reduceIte, eq_self, Int.reduceNe, Int.reduceBNe, not_true_eq_false, not_false_eq_true, true_and, and_true, true_or, or_true, false_or, or_false, and_false, false_and, decide_eq_true_eq, Bool.true_and, Bool.and_true, Bool.false_and, Bool.and_false, Bool.true_or, Bool.or_true, Bool.false_or, Bool.or_false, ev_law_is_level]
  unfold m_law_is_name b_law_is_name
  by_cases h1 : (l == []) = true
  · have hn : isName l = false := by unfold isName; rw [h1]; rfl
    simp only [fnOf, ev_seq, ev_asg, sBnd_def, ev_op, ev_un, bnd_def, ev_call, evs_cons, evs_nil, ev_var, ev_c, ev_if, ev_next, ev_expr, ev_tru, ev_bl, ev_and, ev_or, ev_not, ev_yes, ev_andE, ev_orE, ev_notE, ev_ifE, ev_chain, ofB_some, ofO_some, ofO_none, truD_non, truD_bl, truD_int, truD_str, truD_tup, truD_lst, truD_lsk, ev_tup, ev_lst, ev_nwF, ev_nwM, ev_meth, ev_make, ev_fld, ev_setF, ev_bm1, asQ_tup, asQ_lst, asQ_lsk, asL_lst, asL_lsk, dLen_tup, dLen_lst, dLen_lsk, dLen_str, dIx_tup, dIx_lst, dIx_lsk, dIx_str, dAdd_int, dNeg_int, isN_def, notN_def, isNon_non, isNon_int, isNon_bl, isNon_str, isNon_tup, isNon_lst, isNon_obj, isNon_exc, dEq_int, dNe_int, dEq_str, dNe_str, dEq_bl, atI_zero, atI_one, atI_2, atI_3, atI_4, atI_5, atI_6, atI_7, atI_8, atI_9, atI_10, atI_11, atI_12, atI_m1, ev_gT, setAll_nil, setAll_cons, iOp_int, ev_gN, ev_ret, List.map_cons, List.map_nil, List.length_cons, List.length_nil, rep_zero, rep_succ, List.cons_append, List.nil_append, List.getElem?_cons_zero, List.getElem?_cons_succ, List.set_cons_zero, List.set_cons_succ, Nat.sub_self, Nat.reduceAdd, Nat.reduceSub, Option.map_some, Option.bind_some, if_true, Bool.not_true, Bool.not_false, Bool.false_eq_true, if_false, decide_true, decide_false, Int.reduceBEq, Int.reduceEq, Int.reduceLT, Int.reduceLE, Int.reduceNeg, Int.reduceAdd, Int.reduceSub, Int.reduceMul, Int.reduceToNat, Nat.reduceLT, Nat.reduceLeDiff, beq_self_eq_true, reduceIte, eq_self, Int.reduceNe, Int.reduceBNe, not_true_eq_false, not_false_eq_true, true_and, and_true, true_or, or_true, false_or, or_false, and_false, false_and, decide_eq_true_eq, Bool.true_and, Bool.and_true, Bool.false_and, Bool.and_false, Bool.true_or, Bool.or_true, Bool.false_or, Bool.or_false, t_slash, t_nil, isStr_str, dSplit_mk, mkS_beq, h1, hn]
  · have h1' : (l == []) = false := by simpa using h1
    by_cases h2 : (splC 47 l).length ≤ 8
    · have g2 : ((splC 47 l).length : Int) < 9 := by omega
      have hn : isName l = (splC 47 l).all gl := by unfold isName; rw [h1', decide_eq_true h2]; rfl
      simp only [fnOf, ev_seq, ev_asg, sBnd_def, ev_op, ev_un, bnd_def, ev_call, evs_cons, evs_nil, ev_var, ev_c, ev_if, ev_next, ev_expr, ev_tru, ev_bl, ev_and, ev_or, ev_not, ev_yes, ev_andE, ev_orE, ev_notE, ev_ifE, ev_chain, ofB_some, ofO_some, ofO_none, truD_non, truD_bl, truD_int, truD_str, truD_tup, truD_lst, truD_lsk, ev_tup, ev_lst, ev_nwF, ev_nwM, ev_meth, ev_make, ev_fld, ev_setF, ev_bm1, asQ_tup, asQ_lst, asQ_lsk, asL_lst, asL_lsk, dLen_tup, dLen_lst, dLen_lsk, dLen_str, dIx_tup, dIx_lst, dIx_lsk, dIx_str, dAdd_int, dNeg_int, isN_def, notN_def, isNon_non, isNon_int, isNon_bl, isNon_str, isNon_tup, isNon_lst, isNon_obj, isNon_exc, dEq_int, dNe_int, dEq_str, dNe_str, dEq_bl, atI_zero, atI_one, atI_2, atI_3, atI_4, atI_5, atI_6, atI_7, atI_8, atI_9, atI_10, atI_11, atI_12, atI_m1, ev_gT, setAll_nil, setAll_cons, iOp_int, ev_gN, ev_ret, List.map_cons, List.map_nil, List.length_cons, List.length_nil, rep_zero, rep_succ, List.cons_append, List.nil_append, List.getElem?_cons_zero, List.getElem?_cons_succ, List.set_cons_zero, List.set_cons_succ, Nat.sub_self, Nat.reduceAdd, Nat.reduceSub, Option.map_some, Option.bind_some, if_true, Bool.not_true, Bool.not_false, Bool.false_eq_true, if_false, decide_true, decide_false, Int.reduceBEq, Int.reduceEq, Int.reduceLT, Int.reduceLE, Int.reduceNeg, Int.reduceAdd, Int.reduceSub, Int.reduceMul, Int.reduceToNat, Nat.reduceLT, Nat.reduceLeDiff, beq_self_eq_true, reduceIte, eq_self, Int.reduceNe, Int.reduceBNe, not_true_eq_false, not_false_eq_true, true_and, and_true, true_or, or_true, false_or, or_false, and_false, false_and, decide_eq_true_eq, Bool.true_and, Bool.and_true, Bool.false_and, Bool.and_false, Bool.true_or, Bool.or_true, Bool.false_or, Bool.or_false, t_slash, t_nil, isStr_str, dSplit_mk, mkS_beq, h1', dLt, List.length_map, g2, ev_lc, ev_iSeq, wipeD_nil, wipeD_cons, bndN, e3, dAll_map, all_ll, hn]
    · have g2 : ¬ ((splC 47 l).length : Int) < 9 := by omega
      have hn : isName l = false := by unfold isName; rw [h1', decide_eq_false h2]; rfl
      simp only [fnOf, ev_seq, ev_asg, sBnd_def, ev_op, ev_un, bnd_def, ev_call, evs_cons, evs_nil, ev_var, ev_c, ev_if, ev_next, ev_expr, ev_tru, ev_bl, ev_and, ev_or, ev_not, ev_yes, ev_andE, ev_orE, ev_notE, ev_ifE, ev_chain, ofB_some, ofO_some, ofO_none, truD_non, truD_bl, truD_int, truD_str, truD_tup, truD_lst, truD_lsk, ev_tup, ev_lst, ev_nwF, ev_nwM, ev_meth, ev_make, ev_fld, ev_setF, ev_bm1, asQ_tup, asQ_lst, asQ_lsk, asL_lst, asL_lsk, dLen_tup, dLen_lst, dLen_lsk, dLen_str, dIx_tup, dIx_lst, dIx_lsk, dIx_str, dAdd_int, dNeg_int, isN_def, notN_def, isNon_non, isNon_int, isNon_bl, isNon_str, isNon_tup, isNon_lst, isNon_obj, isNon_exc, dEq_int, dNe_int, dEq_str, dNe_str, dEq_bl, atI_zero, atI_one, atI_2, atI_3, atI_4, atI_5, atI_6, atI_7, atI_8, atI_9, atI_10, atI_11, atI_12, atI_m1, ev_gT, setAll_nil, setAll_cons, iOp_int, ev_gN, ev_ret, List.map_cons, List.map_nil, List.length_cons, List.length_nil, rep_zero, rep_succ, List.cons_append, List.nil_append, List.getElem?_cons_zero, List.getElem?_cons_succ, List.set_cons_zero, List.set_cons_succ, Nat.sub_self, Nat.reduceAdd, Nat.reduceSub, Option.map_some, Option.bind_some, if_true, Bool.not_true, Bool.not_false, Bool.false_eq_true, if_false, decide_true, decide_false, Int.reduceBEq, Int.reduceEq, Int.reduceLT, Int.reduceLE, Int.reduceNeg, Int.reduceAdd, Int.reduceSub, Int.reduceMul, Int.reduceToNat, Nat.reduceLT, Nat.reduceLeDiff, beq_self_eq_true, reduceIte, eq_self, Int.reduceNe, Int.reduceBNe, not_true_eq_false, not_false_eq_true, true_and, and_true, true_or, or_true, false_or, or_false, and_false, false_and, decide_eq_true_eq, Bool.true_and, Bool.and_true, Bool.false_and, Bool.and_false, Bool.true_or, Bool.or_true, Bool.false_or, Bool.or_false, t_slash, t_nil, isStr_str, dSplit_mk, mkS_beq, h1', dLt, List.length_map, g2, hn]
/-! ### the law's own fitting -/
def gd (ws : List (List Nat)) (k : Nat) : List Nat := (ws[k]?).getD []
def zipA (ws qs : List (List Nat)) : Bool := (List.range ws.length).all fun k => [43] == gd ws k || gd qs k == gd ws k
def zipB : List (List Nat) → List (List Nat) → Bool
  | [], [] => true
  | w :: ws, q :: qs => ([43] == w || q == w) && zipB ws qs
  | _, _ => false
theorem zipA_B : ∀ (ws qs : List (List Nat)), ws.length = qs.length → zipA ws qs = zipB ws qs
  | [], [], _ => rfl
  | w :: ws, q :: qs, h => by
    have ih := zipA_B ws qs (by simpa using h)
    unfold zipA at ih ⊢
    rw [zipB, ← ih, List.length_cons, List.range_succ_eq_map, List.all_cons, List.all_map]
    rfl
  | [], q :: qs, h => by simp at h
  | w :: ws, [], h => by simp at h
theorem fitsL_plain : ∀ (ps qs : List (List Nat)), (∀ p ∈ ps, p ≠ [35]) → fitsL ps qs = (decide (ps.length = qs.length) && zipB ps qs)
  | [], [], _ => rfl
  | [], q :: qs, _ => by simp [fitsL]
  | p :: ps, [], h => by
    rw [fitsL, if_neg (h p List.mem_cons_self)]
    simp
  | p :: ps, q :: qs, h => by
    have ih := fitsL_plain ps qs fun z hz => h z (List.mem_cons_of_mem _ hz)
    rw [fitsL, if_neg (h p List.mem_cons_self), zipB, ih]
    have e : decide ((p :: ps).length = (q :: qs).length) = decide (ps.length = qs.length) := by
      rw [Bool.eq_iff_iff]; simp
    rw [e]
    cases ([43] == p || q == p) <;> cases decide (ps.length = qs.length) <;> rfl
theorem fitsL_hash : ∀ (ps qs : List (List Nat)), (∀ p ∈ ps, p ≠ [35]) → fitsL (ps ++ [[35]]) qs = (decide (ps.length ≤ qs.length) && zipB ps (qs.take ps.length))
  | [], qs, _ => by simp [fitsL, zipB]
  | p :: ps, [], h => by
    rw [List.cons_append, fitsL, if_neg (h p List.mem_cons_self)]
    simp
  | p :: ps, q :: qs, h => by
    have ih := fitsL_hash ps qs fun z hz => h z (List.mem_cons_of_mem _ hz)
    rw [List.cons_append, fitsL, if_neg (h p List.mem_cons_self), List.length_cons, List.take_succ_cons, zipB, ih]
    have e : decide (ps.length + 1 ≤ (q :: qs).length) = decide (ps.length ≤ qs.length) := by
      rw [Bool.eq_iff_iff]; simp
    rw [e]
    cases ([43] == p || q == p) <;> cases decide (ps.length ≤ qs.length) <;> rfl
theorem gw_ne {p : List Nat} (h : gw p = true) : p ≠ [35] := fun e => by
  subst e
  exact absurd h (by decide)
/-- a wish's levels -/
theorem wish_parts {w : List Nat} (h : isWish w = true) : (∀ p ∈ plain (splC 47 w), gw p = true) ∧ (splC 47 w).length ≤ 8 ∧ w ≠ [] := by
  unfold isWish at h
  simp only [Bool.and_eq_true, decide_eq_true_eq] at h
  exact ⟨List.all_eq_true.mp h.2, h.1.2, by simpa using h.1.1⟩
theorem pre_head (l : List Nat) {q : List Nat} {qs : List (List Nat)} (h : splC 47 l = q :: qs) : TL.pre [36] l = (q.take 1 == [36]) := by
  cases l with
  | nil =>
    simp only [splC, List.cons.injEq] at h
    rw [← h.1]; rfl
  | cons c r =>
    by_cases hc : c = 47
    · subst hc
      rw [splC_hit] at h
      simp only [List.cons.injEq] at h
      rw [← h.1]; rfl
    · obtain ⟨p, t, e1, e2⟩ := splC_miss r hc
      rw [e2] at h
      simp only [List.cons.injEq] at h
      rw [← h.1]; rfl
theorem atI_lvs {ws : List (List Nat)} {k : Nat} (h : k < ws.length) : atI (lvs ws) (k : Int) = some (.str (mkS (gd ws k))) := by
  rw [atI_ofNat, List.getElem?_map]
  unfold gd
  rw [List.getElem?_eq_getElem h]
  rfl
noncomputable def fitsTail : Sx := sSeq (sIf (tBl (eOp dNe (eUn dLen (eVar 2)) (eUn dLen (eVar 3)))) (sRet (eC (.bl false))) (sNext)) (sRet (eUn dAll (eLc nwF [4] (iRange (eUn dLen (eVar 2))) (gN 4) (Pd.tYes) (eOp dIn (eOp dIx (eVar 2) (eVar 4)) (eTup [eC (.str (Str.ofString "+")), eOp dIx (eVar 3) (eVar 4)])))))
noncomputable def fitsIf1 : Sx := sIf (tAnd (tBl (eOp dIn (eOp dIx (eVar 2) (eC (.int 0))) (eTup [eC (.str (Str.ofString "+")), eC (.str (Str.ofString "#"))]))) (tBl (eOp dEq (eSl nwF (eOp dIx (eVar 3) (eC (.int 0))) none (some (eC (.int 1)))) (eC (.str (Str.ofString "$")))))) (sRet (eC (.bl false))) (sNext)
noncomputable def fitsIf2 : Sx := sIf (tBl (eOp dEq (eOp dIx (eVar 2) (eUn dNeg (eC (.int 1)))) (eC (.str (Str.ofString "#"))))) (sSeq (sAsg (eSl nwF (eVar 2) none (some (eUn dNeg (eC (.int 1))))) (gN 2)) (sSeq (sIf (tBl (eOp dLt (eUn dLen (eVar 3)) (eUn dLen (eVar 2)))) (sRet (eC (.bl false))) (sNext)) (sAsg (eSl nwF (eVar 3) none (some (eUn dLen (eVar 2)))) (gN 3)))) (sNext)
theorem b_law_fits_eq : b_law_fits = sSeq (sAsg (eBm1 isStr (dSplit nwF) (eVar 0) (eC (.str (Str.ofString "/")))) (gN 2)) (sSeq (sAsg (eBm1 isStr (dSplit nwF) (eVar 1) (eC (.str (Str.ofString "/")))) (gN 3)) (sSeq fitsIf1 (sSeq fitsIf2 fitsTail))) := rfl
theorem ev_fitsTail {w l : Dt} (ws ls : List (List Nat)) (h8 : ws.length ≤ 1000) (s : Sto) : fitsTail [some w, some l, some (.lst (lvs ws)), some (.lst (lvs ls)), none] s = .fl (.rt (.bl (decide (ws.length = ls.length) && zipB ws ls))) s := by
  unfold fitsTail
  by_cases hl : ws.length = ls.length
  · have hb : ((ws.length : Int) == (ls.length : Int)) = true := by rw [hl]; exact beq_self_eq_true _
    have hr : (ws.length : Int) ≤ 16777216 ∧ -(2 ^ 62) ≤ (ws.length : Int) := by omega
    have lc : lcGo (gN 4) Pd.tYes (eOp dIn (eOp dIx (eVar 2) (eVar 4)) (eTup [eC (.str (mkS [43])), eOp dIx (eVar 3) (eVar 4)])) (fun _ => True) ((List.range ws.length).map fun (k : Nat) => .int (k : Int)) [some w, some l, some (.lst (lvs ws)), some (.lst (lvs ls)), none] s = .ok ((List.range ws.length).map fun k => .bl ([43] == gd ws k || gd ls k == gd ws k)) s := by
      refine lc_map ?_ fun k hk => ⟨[some w, some l, some (.lst (lvs ws)), some (.lst (lvs ls)), some (.int (k : Int))], rfl, rfl, ?_⟩
      · trivial
      · have hk2 : k < ws.length := List.mem_range.mp hk
        simp only [fnOf, ev_seq, ev_asg, sBnd_def, ev_op, ev_un, bnd_def, ev_call, evs_cons, evs_nil, ev_var, ev_c, ev_if, ev_next, ev_expr, ev_tru, ev_bl, ev_and, ev_or, ev_not, ev_yes, ev_andE, ev_orE, ev_notE, ev_ifE, ev_chain, ofB_some, ofO_some, ofO_none, truD_non, truD_bl, truD_int, truD_str, truD_tup, truD_lst, truD_lsk, ev_tup, ev_lst, ev_nwF, ev_nwM, ev_meth, ev_make, ev_fld, ev_setF, ev_bm1, asQ_tup, asQ_lst, asQ_lsk, asL_lst, asL_lsk, dLen_tup, dLen_lst, dLen_lsk, dLen_str, dIx_tup, dIx_lst, dIx_lsk, dIx_str, dAdd_int, dNeg_int, isN_def, notN_def, isNon_non, isNon_int, isNon_bl, isNon_str, isNon_tup, isNon_lst, isNon_obj, isNon_exc, dEq_int, dNe_int, dEq_str, dNe_str, dEq_bl, atI_zero, atI_one, atI_2, atI_3, atI_4, atI_5, atI_6, atI_7, atI_8, atI_9, atI_10, atI_11, atI_12, atI_m1, ev_gT, setAll_nil, setAll_cons, iOp_int, ev_gN, ev_ret, List.map_cons, List.map_nil, List.length_cons, List.length_nil, rep_zero, rep_succ, List.cons_append, List.nil_append, List.getElem?_cons_zero, List.getElem?_cons_succ, List.set_cons_zero, List.set_cons_succ, Nat.sub_self, Nat.reduceAdd, Nat.reduceSub, Option.map_some, Option.bind_some, if_true, Bool.not_true, Bool.not_false, Bool.false_eq_true, if_false, decide_true, decide_false, Int.reduceBEq, Int.reduceEq, Int.reduceLT, Int.reduceLE, Int.reduceNeg, Int.reduceAdd, Int.reduceSub, Int.reduceMul, Int.reduceToNat, Nat.reduceLT, Nat.reduceLeDiff, beq_self_eq_true, reduceIte, eq_self, Int.reduceNe, Int.reduceBNe, not_true_eq_false, not_false_eq_true, true_and, and_true, true_or, or_true, false_or, or_false, and_false, false_and, decide_eq_true_eq, Bool.true_and, Bool.and_true, Bool.false_and, Bool.and_false, Bool.true_or, Bool.or_true, Bool.false_or, Bool.or_false, atI_lvs hk2, atI_lvs (show k < ls.length by omega), dIn_two]
    have za : ((List.range ws.length).all fun k => [43] == gd ws k || gd ls k == gd ws k) = zipB ws ls := zipA_B ws ls hl
    simp only [fnOf, ev_seq, ev_asg, sBnd_def, ev_op, ev_un, bnd_def, ev_call, evs_cons, evs_nil, ev_var, ev_c, ev_if, ev_next, ev_expr, ev_tru, ev_bl, ev_and, ev_or, ev_not, ev_yes, ev_andE, ev_orE, ev_notE, ev_ifE, ev_chain, ofB_some, ofO_some, ofO_none, truD_non, truD_bl, truD_int, truD_str, truD_tup, truD_lst, truD_lsk, ev_tup, ev_lst, ev_nwF, ev_nwM, ev_meth, ev_make, ev_fld, ev_setF, ev_bm1, asQ_tup, asQ_lst, asQ_lsk, asL_lst, asL_lsk, dLen_tup, dLen_lst, dLen_lsk, dLen_str, dIx_tup, dIx_lst, dIx_lsk, dIx_str, dAdd_int, dNeg_int, isN_def, notN_def, isNon_non, isNon_int, isNon_bl, isNon_str, isNon_tup, isNon_lst, isNon_obj, isNon_exc, dEq_int, dNe_int, dEq_str, dNe_str, dEq_bl, atI_zero, atI_one, atI_2, atI_3, atI_4, atI_5, atI_6, atI_7, atI_8, atI_9, atI_10, atI_11, atI_12, atI_m1, ev_gT, setAll_nil, setAll_cons, iOp_int, ev_gN, ev_ret, List.map_cons, List.map_nil, List.length_cons, List.length_nil, rep_zero, rep_succ, List.cons_append, List.nil_append, List.getElem?_cons_zero, List.getElem?_cons_succ, List.set_cons_zero, List.set_cons_succ, Nat.sub_self, Nat.reduceAdd, Nat.reduceSub, Option.map_some, Option.bind_some, if_true, Bool.not_true, Bool.not_false, Bool.false_eq_true, if_false, decide_true, decide_false, Int.reduceBEq, Int.reduceEq, Int.reduceLT, Int.reduceLE, Int.reduceNeg, Int.reduceAdd, Int.reduceSub, Int.reduceMul, Int.reduceToNat, Nat.reduceLT, Nat.reduceLeDiff, beq_self_eq_true, reduceIte, eq_self, Int.reduceNe, Int.reduceBNe, not_true_eq_false, not_false_eq_true, true_and, and_true, true_or, or_true, false_or, or_false, and_false, false_and, decide_eq_true_eq, Bool.true_and, Bool.and_true, Bool.false_and, Bool.and_false, Bool.true_or, Bool.or_true, Bool.false_or, Bool.or_false, List.length_map, hb, ev_lc, ev_iRange, hr, Int.toNat_natCast, wipeD_nil, wipeD_cons, bndN, t_plus, lc, dAll_map, za]
    rw [decide_eq_true hl, Bool.true_and]
  · have hb : ((ws.length : Int) == (ls.length : Int)) = false := by rw [beq_eq_false_iff_ne]; omega
    simp only [fnOf, ev_seq, ev_asg, sBnd_def, ev_op, ev_un, bnd_def, ev_call, evs_cons, evs_nil, ev_var, ev_c, ev_if, ev_next, ev_expr, ev_tru, ev_bl, ev_and, ev_or, ev_not, ev_yes, ev_andE, ev_orE, ev_notE, ev_ifE, ev_chain, ofB_some, ofO_some, ofO_none, truD_non, truD_bl, truD_int, truD_str, truD_tup, truD_lst, truD_lsk, ev_tup, ev_lst, ev_nwF, ev_nwM, ev_meth, ev_make, ev_fld, ev_setF, ev_bm1, asQ_tup, asQ_lst, asQ_lsk, asL_lst, asL_lsk, dLen_tup, dLen_lst, dLen_lsk, dLen_str, dIx_tup, dIx_lst, dIx_lsk, dIx_str, dAdd_int, dNeg_int, isN_def, notN_def, isNon_non, isNon_int, isNon_bl, isNon_str, isNon_tup, isNon_lst, isNon_obj, isNon_exc, dEq_int, dNe_int, dEq_str, dNe_str, dEq_bl, atI_zero, atI_one, atI_2, atI_3, atI_4, atI_5, atI_6, atI_7, atI_8, atI_9, atI_10, atI_11, atI_12, atI_m1, ev_gT, setAll_nil, setAll_cons, iOp_int, ev_gN, ev_ret, List.map_cons, List.map_nil, List.length_cons, List.length_nil, rep_zero, rep_succ, List.cons_append, List.nil_append, List.getElem?_cons_zero, List.getElem?_cons_succ, List.set_cons_zero, List.set_cons_succ, Nat.sub_self, Nat.reduceAdd, Nat.reduceSub, Option.map_some, Option.bind_some, if_true, Bool.not_true, Bool.not_false, Bool.false_eq_true, if_false, decide_true, decide_false, Int.reduceBEq, Int.reduceEq, Int.reduceLT, Int.reduceLE, Int.reduceNeg, Int.reduceAdd, Int.reduceSub, Int.reduceMul, Int.reduceToNat, Nat.reduceLT, Nat.reduceLeDiff, beq_self_eq_true, reduceIte, eq_self, Int.reduceNe, Int.reduceBNe, not_true_eq_false, not_false_eq_true, true_and, and_true, true_or, or_true, false_or, or_false, and_false, false_and, decide_eq_true_eq, Bool.true_and, Bool.and_true, Bool.false_and, Bool.and_false, Bool.true_or, Bool.or_true, Bool.false_or, Bool.or_false, List.length_map, hb, hl]
theorem ev_law_fits {w l : List Nat} (hw : isWish w = true) (s : Sto) : m_law_fits [.str (mkS w), .str (mkS l)] s = .ok (.bl (fitsC w l)) s := by
  obtain ⟨hg, h8, _⟩ := wish_parts hw
  obtain ⟨p, ps, e⟩ := splC_cons w
  obtain ⟨q, qs, e2⟩ := splC_cons l
  obtain ⟨z, hz⟩ := splC_last_ne w
  have hz2 : (lvs (splC 47 w)).getLast? = some (.str (mkS z)) := by rw [List.getLast?_map, hz]; rfl
  have w0 : (lvs (splC 47 w))[0]? = some (.str (mkS p)) := by rw [e]; rfl
  have l0 : (lvs (splC 47 l))[0]? = some (.str (mkS q)) := by rw [e2]; rfl
  have hpre := pre_head l e2
  have hwide : wide (splC 47 w) = ([43] == p || [35] == p) := by unfold wide; rw [e]
  have if1 : fitsIf1 [some (.str (mkS w)), some (.str (mkS l)), some (.lst (lvs (splC 47 w))), some (.lst (lvs (splC 47 l))), none] s = if (([43] == p || [35] == p) && (q.take 1 == [36])) = true then .fl (.rt (.bl false)) s else .fl (.nx [some (.str (mkS w)), some (.str (mkS l)), some (.lst (lvs (splC 47 w))), some (.lst (lvs (splC 47 l))), none]) s := by
    unfold fitsIf1
    cases h5 : ([43] == p || [35] == p) with
    | false => simp only [fnOf, ev_seq, ev_asg, sBnd_def, ev_op, ev_un, bnd_def, ev_call, evs_cons, evs_nil, ev_var, ev_c, ev_if, ev_next, ev_expr, ev_tru, ev_bl, ev_and, ev_or, ev_not, ev_yes, ev_andE, ev_orE, ev_notE, ev_ifE, ev_chain, ofB_some, ofO_some, ofO_none, truD_non, truD_bl, truD_int, truD_str, truD_tup, truD_lst, truD_lsk, ev_tup, ev_lst, ev_nwF, ev_nwM, ev_meth, ev_make, ev_fld, ev_setF, ev_bm1, asQ_tup, asQ_lst, asQ_lsk, asL_lst, asL_lsk, dLen_tup, dLen_lst, dLen_lsk, dLen_str, dIx_tup, dIx_lst, dIx_lsk, dIx_str, dAdd_int, dNeg_int, isN_def, notN_def, isNon_non, isNon_int, isNon_bl, isNon_str, isNon_tup, isNon_lst, isNon_obj, isNon_exc, dEq_int, dNe_int, dEq_str, dNe_str, dEq_bl, atI_zero, atI_one, atI_2, atI_3, atI_4, atI_5, atI_6, atI_7, atI_8, atI_9, atI_10, atI_11, atI_12, atI_m1, ev_gT, setAll_nil, setAll_cons, iOp_int, ev_gN, ev_ret, List.map_cons, List.map_nil, List.length_cons, List.length_nil, rep_zero, rep_succ, List.cons_append, List.nil_append, List.getElem?_cons_zero, List.getElem?_cons_succ, List.set_cons_zero, List.set_cons_succ, Nat.sub_self, Nat.reduceAdd, Nat.reduceSub, Option.map_some, Option.bind_some, if_true, Bool.not_true, Bool.not_false, Bool.false_eq_true, if_false, decide_true, decide_false, Int.reduceBEq, Int.reduceEq, Int.reduceLT, Int.reduceLE, Int.reduceNeg, Int.reduceAdd, Int.reduceSub, Int.reduceMul, Int.reduceToNat, Nat.reduceLT, Nat.reduceLeDiff, beq_self_eq_true, reduceIte, eq_self, Int.reduceNe, Int.reduceBNe, not_true_eq_false, not_false_eq_true, true_and, and_true, true_or, or_true, false_or, or_false, and_false, false_and, decide_eq_true_eq, Bool.true_and, Bool.and_true, Bool.false_and, Bool.and_false, Bool.true_or, Bool.or_true, Bool.false_or, Bool.or_false, t_plus, t_hash, t_dollar, w0, l0, dIn_two, h5]
    | true =>
      cases h6 : (q.take 1 == [36]) with
      | false => simp only [fnOf, ev_seq, ev_asg, sBnd_def, ev_op, ev_un, bnd_def, ev_call, evs_cons, evs_nil, ev_var, ev_c, ev_if, ev_next, ev_expr, ev_tru, ev_bl, ev_and, ev_or, ev_not, ev_yes, ev_andE, ev_orE, ev_notE, ev_ifE, ev_chain, ofB_some, ofO_some, ofO_none, truD_non, truD_bl, truD_int, truD_str, truD_tup, truD_lst, truD_lsk, ev_tup, ev_lst, ev_nwF, ev_nwM, ev_meth, ev_make, ev_fld, ev_setF, ev_bm1, asQ_tup, asQ_lst, asQ_lsk, asL_lst, asL_lsk, dLen_tup, dLen_lst, dLen_lsk, dLen_str, dIx_tup, dIx_lst, dIx_lsk, dIx_str, dAdd_int, dNeg_int, isN_def, notN_def, isNon_non, isNon_int, isNon_bl, isNon_str, isNon_tup, isNon_lst, isNon_obj, isNon_exc, dEq_int, dNe_int, dEq_str, dNe_str, dEq_bl, atI_zero, atI_one, atI_2, atI_3, atI_4, atI_5, atI_6, atI_7, atI_8, atI_9, atI_10, atI_11, atI_12, atI_m1, ev_gT, setAll_nil, setAll_cons, iOp_int, ev_gN, ev_ret, List.map_cons, List.map_nil, List.length_cons, List.length_nil, rep_zero, rep_succ, List.cons_append, List.nil_append, List.getElem?_cons_zero, List.getElem?_cons_succ, List.set_cons_zero, List.set_cons_succ, Nat.sub_self, Nat.reduceAdd, Nat.reduceSub, Option.map_some, Option.bind_some, if_true, Bool.not_true, Bool.not_false, Bool.false_eq_true, if_false, decide_true, decide_false, Int.reduceBEq, Int.reduceEq, Int.reduceLT, Int.reduceLE, Int.reduceNeg, Int.reduceAdd, Int.reduceSub, Int.reduceMul, Int.reduceToNat, Nat.reduceLT, Nat.reduceLeDiff, beq_self_eq_true, reduceIte, eq_self, Int.reduceNe, Int.reduceBNe, not_true_eq_false, not_false_eq_true, true_and, and_true, true_or, or_true, false_or, or_false, and_false, false_and, decide_eq_true_eq, Bool.true_and, Bool.and_true, Bool.false_and, Bool.and_false, Bool.true_or, Bool.or_true, Bool.false_or, Bool.or_false, t_plus, t_hash, t_dollar, w0, l0, dIn_two, h5, ev_sl, evp_none, evp_some, dSl_str, cutS_one, mkS_beq, h6]
      | true => simp only [fnOf, ev_seq, ev_asg, sBnd_def, ev_op, ev_un, bnd_def, ev_call, evs_cons, evs_nil, ev_var, ev_c, ev_if, ev_next, ev_expr, ev_tru, ev_bl, ev_and, ev_or, ev_not, ev_yes, ev_andE, ev_orE, ev_notE, ev_ifE, ev_chain, ofB_some, ofO_some, ofO_none, truD_non, truD_bl, truD_int, truD_str, truD_tup, truD_lst, truD_lsk, ev_tup, ev_lst, ev_nwF, ev_nwM, ev_meth, ev_make, ev_fld, ev_setF, ev_bm1, asQ_tup, asQ_lst, asQ_lsk, asL_lst, asL_lsk, dLen_tup, dLen_lst, dLen_lsk, dLen_str, dIx_tup, dIx_lst, dIx_lsk, dIx_str, dAdd_int, dNeg_int, isN_def, notN_def, isNon_non, isNon_int, isNon_bl, isNon_str, isNon_tup, isNon_lst, isNon_obj, isNon_exc, dEq_int, dNe_int, dEq_str, dNe_str, dEq_bl, atI_zero, atI_one, atI_2, atI_3, atI_4, atI_5, atI_6, atI_7, atI_8, atI_9, atI_10, atI_11, atI_12, atI_m1, ev_gT, setAll_nil, setAll_cons, iOp_int, ev_gN, ev_ret, List.map_cons, List.map_nil, List.length_cons, List.length_nil, rep_zero, rep_succ, List.cons_append, List.nil_append, List.getElem?_cons_zero, List.getElem?_cons_succ, List.set_cons_zero, List.set_cons_succ, Nat.sub_self, Nat.reduceAdd, Nat.reduceSub, Option.map_some, Option.bind_some, if_true, Bool.not_true, Bool.not_false, Bool.false_eq_true, if_false, decide_true, decide_false, Int.reduceBEq, Int.reduceEq, Int.reduceLT, Int.reduceLE, Int.reduceNeg, Int.reduceAdd, Int.reduceSub, Int.reduceMul, Int.reduceToNat, Nat.reduceLT, Nat.reduceLeDiff, beq_self_eq_true, reduceIte, eq_self, Int.reduceNe, Int.reduceBNe, not_true_eq_false, not_false_eq_true, true_and, and_true, true_or, or_true, false_or, or_false, and_false, false_and, decide_eq_true_eq, Bool.true_and, Bool.and_true, Bool.false_and, Bool.and_false, Bool.true_or, Bool.or_true, Bool.false_or, Bool.or_false, t_plus, t_hash, t_dollar, w0, l0, dIn_two, h5, ev_sl, evp_none, evp_some, dSl_str, cutS_one, mkS_beq, h6]
  unfold m_law_fits
  rw [b_law_fits_eq]
  cases h56 : (([43] == p || [35] == p) && (q.take 1 == [36])) with
  | true =>
    have hf : fitsC w l = false := by unfold fitsC; rw [hwide, hpre, h56]; rfl
    rw [h56, if_pos rfl] at if1
    simp only [fnOf, ev_seq, ev_asg, sBnd_def, ev_op, ev_un, bnd_def, ev_call, evs_cons, evs_nil, ev_var, ev_c, ev_if, ev_next, ev_expr, ev_tru, ev_bl, ev_and, ev_or, ev_not, ev_yes, ev_andE, ev_orE, ev_notE, ev_ifE, ev_chain, ofB_some, ofO_some, ofO_none, truD_non, truD_bl, truD_int, truD_str, truD_tup, truD_lst, truD_lsk, ev_tup, ev_lst, ev_nwF, ev_nwM, ev_meth, ev_make, ev_fld, ev_setF, ev_bm1, asQ_tup, asQ_lst, asQ_lsk, asL_lst, asL_lsk, dLen_tup, dLen_lst, dLen_lsk, dLen_str, dIx_tup, dIx_lst, dIx_lsk, dIx_str, dAdd_int, dNeg_int, isN_def, notN_def, isNon_non, isNon_int, isNon_bl, isNon_str, isNon_tup, isNon_lst, isNon_obj, isNon_exc, dEq_int, dNe_int, dEq_str, dNe_str, dEq_bl, atI_zero, atI_one, atI_2, atI_3, atI_4, atI_5, atI_6, atI_7, atI_8, atI_9, atI_10, atI_11, atI_12, atI_m1, ev_gT, setAll_nil, setAll_cons, iOp_int, ev_gN, ev_ret, List.map_cons, List.map_nil, List.length_cons, List.length_nil, rep_zero, rep_succ, List.cons_append, List.nil_append, List.getElem?_cons_zero, List.getElem?_cons_succ, List.set_cons_zero, List.set_cons_succ, Nat.sub_self, Nat.reduceAdd, Nat.reduceSub, Option.map_some, Option.bind_some, if_true, Bool.not_true, Bool.not_false, Bool.false_eq_true, if_false, decide_true, decide_false, Int.reduceBEq, Int.reduceEq, Int.reduceLT, Int.reduceLE, Int.reduceNeg, Int.reduceAdd, Int.reduceSub, Int.reduceMul, Int.reduceToNat, Nat.reduceLT, Nat.reduceLeDiff, beq_self_eq_true, reduceIte, eq_self, Int.reduceNe, Int.reduceBNe, not_true_eq_false, not_false_eq_true, true_and, and_true, true_or, or_true, false_or, or_false, and_false, false_and, decide_eq_true_eq, Bool.true_and, Bool.and_true, Bool.false_and, Bool.and_false, Bool.true_or, Bool.or_true, Bool.false_or, Bool.or_false, t_slash, isStr_str, dSplit_mk, if1, hf]
  | false =>
    have hf : fitsC w l = fitsL (splC 47 w) (splC 47 l) := by unfold fitsC; rw [hwide, hpre, h56]; rfl
    rw [hf]
    rw [h56, if_neg Bool.false_ne_true] at if1
    by_cases hh : z = [35]
    · have hb : (z == [35]) = true := by simpa using hh
      obtain ⟨ds, hd⟩ := List.getLast?_eq_some_iff.mp hz
      have hp : plain (splC 47 w) = ds := by unfold plain; rw [hz, hh, if_pos rfl, hd]; simp
      rw [hp] at hg
      have hfl := fitsL_hash ds (splC 47 l) fun p hp => gw_ne (hg p hp)
      have hdl : (lvs (splC 47 w)).dropLast = lvs ds := by rw [hd]; simp
      have hlen : ds.length ≤ 8 := by rw [hd] at h8; simp at h8; omega
      have ht := ev_fitsTail (w := .str (mkS w)) (l := .str (mkS l)) ds ((splC 47 l).take ds.length) (by omega) s
      rw [hh] at hd
      have hfl2 : fitsL (splC 47 w) (splC 47 l) = (decide (ds.length ≤ (splC 47 l).length) && zipB ds ((splC 47 l).take ds.length)) := by rw [hd]; exact hfl
      rw [hfl2]
      by_cases hle : ds.length ≤ (splC 47 l).length
      · have h7 : ¬ ((splC 47 l).length : Int) < ds.length := by omega
        have hc : cutD (lvs (splC 47 l)) none (some (ds.length : Int)) = lvs ((splC 47 l).take ds.length) := by rw [cut_take]; exact (List.map_take ..).symm
        have hle2 : decide (ds.length ≤ (splC 47 l).length) = true := decide_eq_true hle
        have h9 : decide (ds.length = ((splC 47 l).take ds.length).length) = true := decide_eq_true (by rw [List.length_take]; omega)
        rw [h9, Bool.true_and] at ht
        rw [hle2, Bool.true_and]
        have if2 : fitsIf2 [some (.str (mkS w)), some (.str (mkS l)), some (.lst (lvs (splC 47 w))), some (.lst (lvs (splC 47 l))), none] s = .fl (.nx [some (.str (mkS w)), some (.str (mkS l)), some (.lst (lvs ds)), some (.lst (lvs ((splC 47 l).take ds.length))), none]) s := by
          unfold fitsIf2
          simp only [fnOf, ev_seq, ev_asg, sBnd_def, ev_op, ev_un, bnd_def, ev_call, evs_cons, evs_nil, ev_var, ev_c, ev_if, ev_next, ev_expr, ev_tru, ev_bl, ev_and, ev_or, ev_not, ev_yes, ev_andE, ev_orE, ev_notE, ev_ifE, ev_chain, ofB_some, ofO_some, ofO_none, truD_non, truD_bl, truD_int, truD_str, truD_tup, truD_lst, truD_lsk, ev_tup, ev_lst, ev_nwF, ev_nwM, ev_meth, ev_make, ev_fld, ev_setF, ev_bm1, asQ_tup, asQ_lst, asQ_lsk, asL_lst, asL_lsk, dLen_tup, dLen_lst, dLen_lsk, dLen_str, dIx_tup, dIx_lst, dIx_lsk, dIx_str, dAdd_int, dNeg_int, isN_def, notN_def, isNon_non, isNon_int, isNon_bl, isNon_str, isNon_tup, isNon_lst, isNon_obj, isNon_exc, dEq_int, dNe_int, dEq_str, dNe_str, dEq_bl, atI_zero, atI_one, atI_2, atI_3, atI_4, atI_5, atI_6, atI_7, atI_8, atI_9, atI_10, atI_11, atI_12, atI_m1, ev_gT, setAll_nil, setAll_cons, iOp_int, ev_gN, ev_ret, List.map_cons, List.map_nil, List.length_cons, List.length_nil, rep_zero, rep_succ, List.cons_append, List.nil_append, List.getElem?_cons_zero, List.getElem?_cons_succ, List.set_cons_zero, List.set_cons_succ, Nat.sub_self, Nat.reduceAdd, Nat.reduceSub, Option.map_some, Option.bind_some, if_true, Bool.not_true, Bool.not_false, Bool.false_eq_true, if_false, decide_true, decide_false, Int.reduceBEq, Int.reduceEq, Int.reduceLT, Int.reduceLE, Int.reduceNeg, Int.reduceAdd, Int.reduceSub, Int.reduceMul, Int.reduceToNat, Nat.reduceLT, Nat.reduceLeDiff, beq_self_eq_true, reduceIte, eq_self, Int.reduceNe, Int.reduceBNe, not_true_eq_false, not_false_eq_true, true_and, and_true, true_or, or_true, false_or, or_false, and_false, false_and, decide_eq_true_eq, Bool.true_and, Bool.and_true, Bool.false_and, Bool.and_false, Bool.true_or, Bool.or_true, Bool.false_or, Bool.or_false, t_hash, hz2, mkS_beq, hb, ev_sl, evp_none, evp_some, dSl_lst, cut_init, hdl, List.length_map, dLt, h7, hc]
        simp only [fnOf, ev_seq, ev_asg, sBnd_def, ev_op, ev_un, bnd_def, ev_call, evs_cons, evs_nil, ev_var, ev_c, ev_if, ev_next, ev_expr, ev_tru, ev_bl, ev_and, ev_or, ev_not, ev_yes, ev_andE, ev_orE, ev_notE, ev_ifE, ev_chain, ofB_some, ofO_some, ofO_none, truD_non, truD_bl, truD_int, truD_str, truD_tup, truD_lst, truD_lsk, ev_tup, ev_lst, ev_nwF, ev_nwM, ev_meth, ev_make, ev_fld, ev_setF, ev_bm1, asQ_tup, asQ_lst, asQ_lsk, asL_lst, asL_lsk, dLen_tup, dLen_lst, dLen_lsk, dLen_str, dIx_tup, dIx_lst, dIx_lsk, dIx_str, dAdd_int, dNeg_int, isN_def, notN_def, isNon_non, isNon_int, isNon_bl, isNon_str, isNon_tup, isNon_lst, isNon_obj, isNon_exc, dEq_int, dNe_int, dEq_str, dNe_str, dEq_bl, atI_zero, atI_one, atI_2, atI_3, atI_4, atI_5, atI_6, atI_7, atI_8, atI_9, atI_10, atI_11, atI_12, atI_m1, ev_gT, setAll_nil, setAll_cons, iOp_int, ev_gN, ev_ret, List.map_cons, List.map_nil, List.length_cons, List.length_nil, rep_zero, rep_succ, List.cons_append, List.nil_append, List.getElem?_cons_zero, List.getElem?_cons_succ, List.set_cons_zero, List.set_cons_succ, Nat.sub_self, Nat.reduceAdd, Nat.reduceSub, Option.map_some, Option.bind_some, if_true, Bool.not_true, Bool.not_false, Bool.false_eq_true, if_false, decide_true, decide_false, Int.reduceBEq, Int.reduceEq, Int.reduceLT, Int.reduceLE, Int.reduceNeg, Int.reduceAdd, Int.reduceSub, Int.reduceMul, Int.reduceToNat, Nat.reduceLT, Nat.reduceLeDiff, beq_self_eq_true, reduceIte, eq_self, Int.reduceNe, Int.reduceBNe, not_true_eq_false, not_false_eq_true, true_and, and_true, true_or, or_true, false_or, or_false, and_false, false_and, decide_eq_true_eq, Bool.true_and, Bool.and_true, Bool.false_and, Bool.and_false, Bool.true_or, Bool.or_true, Bool.false_or, Bool.or_false, t_slash, isStr_str, dSplit_mk, if1, if2, ht]
      · have h7 : ((splC 47 l).length : Int) < ds.length := by omega
        have hle2 : decide (ds.length ≤ (splC 47 l).length) = false := decide_eq_false hle
        rw [hle2, Bool.false_and]
        have if2 : fitsIf2 [some (.str (mkS w)), some (.str (mkS l)), some (.lst (lvs (splC 47 w))), some (.lst (lvs (splC 47 l))), none] s = .fl (.rt (.bl false)) s := by
          unfold fitsIf2
          simp only [fnOf, ev_seq, ev_asg, sBnd_def, ev_op, ev_un, bnd_def, ev_call, evs_cons, evs_nil, ev_var, ev_c, ev_if, ev_next, ev_expr, ev_tru, ev_bl, ev_and, ev_or, ev_not, ev_yes, ev_andE, ev_orE, ev_notE, ev_ifE, ev_chain, ofB_some, ofO_some, ofO_none, truD_non, truD_bl, truD_int, truD_str, truD_tup, truD_lst, truD_lsk, ev_tup, ev_lst, ev_nwF, ev_nwM, ev_meth, ev_make, ev_fld, ev_setF, ev_bm1, asQ_tup, asQ_lst, asQ_lsk, asL_lst, asL_lsk, dLen_tup, dLen_lst, dLen_lsk, dLen_str, dIx_tup, dIx_lst, dIx_lsk, dIx_str, dAdd_int, dNeg_int, isN_def, notN_def, isNon_non, isNon_int, isNon_bl, isNon_str, isNon_tup, isNon_lst, isNon_obj, isNon_exc, dEq_int, dNe_int, dEq_str, dNe_str, dEq_bl, atI_zero, atI_one, atI_2, atI_3, atI_4, atI_5, atI_6, atI_7, atI_8, atI_9, atI_10, atI_11, atI_12, atI_m1, ev_gT, setAll_nil, setAll_cons, iOp_int, ev_gN, ev_ret, List.map_cons, List.map_nil, List.length_cons, List.length_nil, rep_zero, rep_succ, List.cons_append, List.nil_append, List.getElem?_cons_zero, List.getElem?_cons_succ, List.set_cons_zero, List.set_cons_succ, Nat.sub_self, Nat.reduceAdd, Nat.reduceSub, Option.map_some, Option.bind_some, if_true, Bool.not_true, Bool.not_false, Bool.false_eq_true, if_false, decide_true, decide_false, Int.reduceBEq, Int.reduceEq, Int.reduceLT, Int.reduceLE, Int.reduceNeg, Int.reduceAdd, Int.reduceSub, Int.reduceMul, Int.reduceToNat, Nat.reduceLT, Nat.reduceLeDiff, beq_self_eq_true, reduceIte, eq_self, Int.reduceNe, Int.reduceBNe, not_true_eq_false, not_false_eq_true, true_and, and_true, true_or, or_true, false_or, or_false, and_false, false_and, decide_eq_true_eq, Bool.true_and, Bool.and_true, Bool.false_and, Bool.and_false, Bool.true_or, Bool.or_true, Bool.false_or, Bool.or_false, t_hash, hz2, mkS_beq, hb, ev_sl, evp_none, evp_some, dSl_lst, cut_init, hdl, List.length_map, dLt, h7]
        simp only [fnOf, ev_seq, ev_asg, sBnd_def, ev_op, ev_un, bnd_def, ev_call, evs_cons, evs_nil, ev_var, ev_c, ev_if, ev_next, ev_expr, ev_tru, ev_bl, ev_and, ev_or, ev_not, ev_yes, ev_andE, ev_orE, ev_notE, ev_ifE, ev_chain, ofB_some, ofO_some, ofO_none, truD_non, truD_bl, truD_int, truD_str, truD_tup, truD_lst, truD_lsk, ev_tup, ev_lst, ev_nwF, ev_nwM, ev_meth, ev_make, ev_fld, ev_setF, ev_bm1, asQ_tup, asQ_lst, asQ_lsk, asL_lst, asL_lsk, dLen_tup, dLen_lst, dLen_lsk, dLen_str, dIx_tup, dIx_lst, dIx_lsk, dIx_str, dAdd_int, dNeg_int, isN_def, notN_def, isNon_non, isNon_int, isNon_bl, isNon_str, isNon_tup, isNon_lst, isNon_obj, isNon_exc, dEq_int, dNe_int, dEq_str, dNe_str, dEq_bl, atI_zero, atI_one, atI_2, atI_3, atI_4, atI_5, atI_6, atI_7, atI_8, atI_9, atI_10, atI_11, atI_12, atI_m1, ev_gT, setAll_nil, setAll_cons, iOp_int, ev_gN, ev_ret, List.map_cons, List.map_nil, List.length_cons, List.length_nil, rep_zero, rep_succ, List.cons_append, List.nil_append, List.getElem?_cons_zero, List.getElem?_cons_succ, List.set_cons_zero, List.set_cons_succ, Nat.sub_self, Nat.reduceAdd, Nat.reduceSub, Option.map_some, Option.bind_some, if_true, Bool.not_true, Bool.not_false, Bool.false_eq_true, if_false, decide_true, decide_false, Int.reduceBEq, Int.reduceEq, Int.reduceLT, Int.reduceLE, Int.reduceNeg, Int.reduceAdd, Int.reduceSub, Int.reduceMul, Int.reduceToNat, Nat.reduceLT, Nat.reduceLeDiff, beq_self_eq_true, reduceIte, eq_self, Int.reduceNe, Int.reduceBNe, not_true_eq_false, not_false_eq_true, true_and, and_true, true_or, or_true, false_or, or_false, and_false, false_and, decide_eq_true_eq, Bool.true_and, Bool.and_true, Bool.false_and, Bool.and_false, Bool.true_or, Bool.or_true, Bool.false_or, Bool.or_false, t_slash, isStr_str, dSplit_mk, if1, if2]
    · have hb : (z == [35]) = false := by simpa using hh
      have hp : plain (splC 47 w) = splC 47 w := by unfold plain; rw [hz, if_neg (fun h => hh (Option.some.inj h))]
      rw [hp] at hg
      have if2 : fitsIf2 [some (.str (mkS w)), some (.str (mkS l)), some (.lst (lvs (splC 47 w))), some (.lst (lvs (splC 47 l))), none] s = .fl (.nx [some (.str (mkS w)), some (.str (mkS l)), some (.lst (lvs (splC 47 w))), some (.lst (lvs (splC 47 l))), none]) s := by
        unfold fitsIf2
        simp only [fnOf, ev_seq, ev_asg, sBnd_def, ev_op, ev_un, bnd_def, ev_call, evs_cons, evs_nil, ev_var, ev_c, ev_if, ev_next, ev_expr, ev_tru, ev_bl, ev_and, ev_or, ev_not, ev_yes, ev_andE, ev_orE, ev_notE, ev_ifE, ev_chain, ofB_some, ofO_some, ofO_none, truD_non, truD_bl, truD_int, truD_str, truD_tup, truD_lst, truD_lsk, ev_tup, ev_lst, ev_nwF, ev_nwM, ev_meth, ev_make, ev_fld, ev_setF, ev_bm1, asQ_tup, asQ_lst, asQ_lsk, asL_lst, asL_lsk, dLen_tup, dLen_lst, dLen_lsk, dLen_str, dIx_tup, dIx_lst, dIx_lsk, dIx_str, dAdd_int, dNeg_int, isN_def, notN_def, isNon_non, isNon_int, isNon_bl, isNon_str, isNon_tup, isNon_lst, isNon_obj, isNon_exc, dEq_int, dNe_int, dEq_str, dNe_str, dEq_bl, atI_zero, atI_one, atI_2, atI_3, atI_4, atI_5, atI_6, atI_7, atI_8, atI_9, atI_10, atI_11, atI_12, atI_m1, ev_gT, setAll_nil, setAll_cons, iOp_int, ev_gN, ev_ret, List.map_cons, List.map_nil, List.length_cons, List.length_nil, rep_zero, rep_succ, List.cons_append, List.nil_append, List.getElem?_cons_zero, List.getElem?_cons_succ, List.set_cons_zero, List.set_cons_succ, Nat.sub_self, Nat.reduceAdd, Nat.reduceSub, Option.map_some, Option.bind_some, if_true, Bool.not_true, Bool.not_false, Bool.false_eq_true, if_false, decide_true, decide_false, Int.reduceBEq, Int.reduceEq, Int.reduceLT, Int.reduceLE, Int.reduceNeg, Int.reduceAdd, Int.reduceSub, Int.reduceMul, Int.reduceToNat, Nat.reduceLT, Nat.reduceLeDiff, beq_self_eq_true, reduceIte, eq_self, Int.reduceNe, Int.reduceBNe, not_true_eq_false, not_false_eq_true, true_and, and_true, true_or, or_true, false_or, or_false, and_false, false_and, decide_eq_true_eq, Bool.true_and, Bool.and_true, Bool.false_and, Bool.and_false, Bool.true_or, Bool.or_true, Bool.false_or, Bool.or_false, t_hash, hz2, mkS_beq, hb]
      have ht := ev_fitsTail (w := .str (mkS w)) (l := .str (mkS l)) (splC 47 w) (splC 47 l) (by omega) s
      rw [fitsL_plain _ _ fun p hp => gw_ne (hg p hp)]
      simp only [fnOf, ev_seq, ev_asg, sBnd_def, ev_op, ev_un, bnd_def, ev_call, evs_cons, evs_nil, ev_var, ev_c, ev_if, ev_next, ev_expr, ev_tru, ev_bl, ev_and, ev_or, ev_not, ev_yes, ev_andE, ev_orE, ev_notE, ev_ifE, ev_chain, ofB_some, ofO_some, ofO_none, truD_non, truD_bl, truD_int, truD_str, truD_tup, truD_lst, truD_lsk, ev_tup, ev_lst, ev_nwF, ev_nwM, ev_meth, ev_make, ev_fld, ev_setF, ev_bm1, asQ_tup, asQ_lst, asQ_lsk, asL_lst, asL_lsk, dLen_tup, dLen_lst, dLen_lsk, dLen_str, dIx_tup, dIx_lst, dIx_lsk, dIx_str, dAdd_int, dNeg_int, isN_def, notN_def, isNon_non, isNon_int, isNon_bl, isNon_str, isNon_tup, isNon_lst, isNon_obj, isNon_exc, dEq_int, dNe_int, dEq_str, dNe_str, dEq_bl, atI_zero, atI_one, atI_2, atI_3, atI_4, atI_5, atI_6, atI_7, atI_8, atI_9, atI_10, atI_11, atI_12, atI_m1, ev_gT, setAll_nil, setAll_cons, iOp_int, ev_gN, ev_ret, List.map_cons, List.map_nil, List.length_cons, List.length_nil, rep_zero, rep_succ, List.cons_append, List.nil_append, List.getElem?_cons_zero, List.getElem?_cons_succ, List.set_cons_zero, List.set_cons_succ, Nat.sub_self, Nat.reduceAdd, Nat.reduceSub, Option.map_some, Option.bind_some, if_true, Bool.not_true, Bool.not_false, Bool.false_eq_true, if_false, decide_true, decide_false, Int.reduceBEq, Int.reduceEq, Int.reduceLT, Int.reduceLE, Int.reduceNeg, Int.reduceAdd, Int.reduceSub, Int.reduceMul, Int.reduceToNat, Nat.reduceLT, Nat.reduceLeDiff, beq_self_eq_true, reduceIte, eq_self, Int.reduceNe, Int.reduceBNe, not_true_eq_false, not_false_eq_true, true_and, and_true, true_or, or_true, false_or, or_false, and_false, false_and, decide_eq_true_eq, Bool.true_and, Bool.and_true, Bool.false_and, Bool.and_false, Bool.true_or, Bool.or_true, Bool.false_or, Bool.or_false, t_slash, isStr_str, dSplit_mk, if1, if2, ht]
/-! ### errors that are told -/
theorem ev_refusal (s : Sto) : m_law_refusal [.exc 1] s = .ok (.tup [.str (Str.ofString "refused"), .str (Str.ofString "name")]) s := by
  unfold m_law_refusal b_law_refusal
  simp only [fnOf, ev_seq, ev_asg, sBnd_def, ev_op, ev_un, bnd_def, ev_call, evs_cons, evs_nil, ev_var, ev_c, ev_if, ev_next, ev_expr, ev_tru, ev_bl, ev_and, ev_or, ev_not, ev_yes, ev_andE, ev_orE, ev_notE, ev_ifE, ev_chain, ofB_some, ofO_some, ofO_none, truD_non, truD_bl, truD_int, truD_str, truD_tup, truD_lst, truD_lsk, ev_tup, ev_lst, ev_nwF, ev_nwM, ev_meth, ev_make, ev_fld, ev_setF, ev_bm1, asQ_tup, asQ_lst, asQ_lsk, asL_lst, asL_lsk, dLen_tup, dLen_lst, dLen_lsk, dLen_str, dIx_tup, dIx_lst, dIx_lsk, dIx_str, dAdd_int, dNeg_int, isN_def, notN_def, isNon_non, isNon_int, isNon_bl, isNon_str, isNon_tup, isNon_lst, isNon_obj, isNon_exc, dEq_int, dNe_int, dEq_str, dNe_str, dEq_bl, atI_zero, atI_one, atI_2, atI_3, atI_4, atI_5, atI_6, atI_7, atI_8, atI_9, atI_10, atI_11, atI_12, atI_m1, ev_gT, setAll_nil, setAll_cons, iOp_int, ev_gN, ev_ret, List.map_cons, List.map_nil, List.length_cons, List.length_nil, rep_zero, rep_succ, List.cons_append, List.nil_append, List.getElem?_cons_zero, List.getElem?_cons_succ, List.set_cons_zero, List.set_cons_succ, Nat.sub_self, Nat.reduceAdd, Nat.reduceSub, Option.map_some, Option.bind_some, if_true, Bool.not_true, Bool.not_false, Bool.false_eq_true, if_false, decide_true, decide_false, Int.reduceBEq, Int.reduceEq, Int.reduceLT, Int.reduceLE, Int.reduceNeg, Int.reduceAdd, Int.reduceSub, Int.reduceMul, Int.reduceToNat, Nat.reduceLT, Nat.reduceLeDiff, beq_self_eq_true, reduceIte, eq_self, Int.reduceNe, Int.reduceBNe, not_true_eq_false, not_false_eq_true, true_and, and_true, true_or, or_true, false_or, or_false, and_false, false_and, decide_eq_true_eq, Bool.true_and, Bool.and_true, Bool.false_and, Bool.and_false, Bool.true_or, Bool.or_true, Bool.false_or, Bool.or_false, dIsx_exc, List.lookup, isLst_lst]
  rfl
end Tx
namespace Tx
open PySem L2 Pd
/-! ### lists of texts, compared -/
theorem toPys_lvs : ∀ ps : List (List Nat), toPys (lvs ps) = some (ps.map fun p => .str (mkS p))
  | [] => rfl
  | p :: ps => by
    have ih := toPys_lvs ps
    simp only [lvs] at ih
    simp only [lvs, List.map_cons, toPys, toPy, ih]
theorem depth_lvs : ∀ ps : List (List Nat), PyData.depthAll (ps.map fun p => .str (mkS p)) = 0
  | [] => rfl
  | p :: ps => by simp only [List.map_cons, PyData.depthAll, PyData.depth, depth_lvs ps]; rfl
theorem eqvAll_lvs : ∀ a b : List (List Nat), PyData.eqvAll (a.map fun p => .str (mkS p)) (b.map fun p => .str (mkS p)) = (a == b)
  | [], [] => rfl
  | [], q :: b => rfl
  | p :: a, [] => rfl
  | p :: a, q :: b => by
    simp only [List.map_cons, PyData.eqvAll, PyData.eqv, eqvAll_lvs a b, mkS_beq]
    rfl
theorem dEqB_lvs (a b : List (List Nat)) (s : Sto) : dEqB s (.lst (lvs a)) (.lst (lvs b)) = some (a == b) := by
  simp only [dEqB, toPyS, toPy, toPys_lvs, Option.map_some, PyData.depth, depth_lvs, PyData.eqv, eqvAll_lvs]
  rfl
theorem dEq_lvs (a b : List (List Nat)) (s : Sto) : dEq (.lst (lvs a)) (.lst (lvs b)) s = .ok (.bl (a == b)) s := by simp only [dEq, dEqB_lvs, Option.map_some, ofO_some]
theorem dNe_lvs (a b : List (List Nat)) (s : Sto) : dNe (.lst (lvs a)) (.lst (lvs b)) s = .ok (.bl (!(a == b))) s := by simp only [dNe, dEqB_lvs, Option.map_some, ofO_some]
theorem dEq_non_lvs (b : List (List Nat)) (s : Sto) : dEq .non (.lst (lvs b)) s = .ok (.bl false) s := by
  have : dEqB s .non (.lst (lvs b)) = some false := by
    simp only [dEqB, toPyS, toPy, toPys_lvs, Option.map_some, PyData.depth, depth_lvs, PyData.eqv]
    rfl
  simp only [dEq, this, Option.map_some, ofO_some]
theorem dIn_lvs2 (x a b : List (List Nat)) (s : Sto) : dIn (.lst (lvs x)) (.tup [.lst (lvs a), .lst (lvs b)]) s = .ok (.bl (a == x || b == x)) s := by
  have : inB s (.lst (lvs x)) (.tup [.lst (lvs a), .lst (lvs b)]) = some (a == x || b == x) := by
    simp only [inB, asQ_tup, flatD, Bool.false_and, Bool.false_eq_true, if_false, toPyS, toPy, toPys, toPys_lvs, Option.map_some, PyData.depth, PyData.depthAll, depth_lvs, List.any_cons, List.any_nil, PyData.eqv, eqvAll_lvs, Bool.or_false]
    rfl
  simp only [dIn, this, Option.map_some, ofO_some]
/-! ### covers -/
def coversL : List (List Nat) → List (List Nat) → Bool
  | [], os => os.isEmpty
  | p :: ps, os => if p = [35] then true else match os with
    | [] => false
    | o :: os => if o = [35] then false else ([43] == p || o == p) && coversL ps os
def adj (os : List (List Nat)) : List (List Nat) := if ([[35]] == os || [[], [35]] == os) = true then os.dropLast ++ [[43], [35]] else os
def coversC (w o : List Nat) : Bool := !(wide (splC 47 w) && TL.pre [36] o) && coversL (splC 47 w) (adj (splC 47 o))
theorem ev_covers_levels (s : Sto) : ∀ (n : Nat) (ps qs : List (List Nat)), ps.length < n → r_covers_levels n [.lst (lvs ps), .lst (lvs qs)] s = .ok (.bl (coversL ps qs)) s
  | 0, ps, qs, h => absurd h (Nat.not_lt_zero _)
  | n + 1, [], qs, h => by
    unfold r_covers_levels b_covers_levels
    have c : cutD (lvs []) none (some 1) = [] := rfl
    have hq : (lvs qs).isEmpty = qs.isEmpty := by cases qs <;> rfl
    simp only [fnOf, ev_seq, ev_asg, sBnd_def, ev_op, ev_un, bnd_def, ev_call, evs_cons, evs_nil, ev_var, ev_c, ev_if, ev_next, ev_expr, ev_tru, ev_bl, ev_and, ev_or, ev_not, ev_yes, ev_andE, ev_orE, ev_notE, ev_ifE, ev_chain, ofB_some, ofO_some, ofO_none, truD_non, truD_bl, truD_int, truD_str, truD_tup, truD_lst, truD_lsk, ev_tup, ev_lst, ev_nwF, ev_nwM, ev_meth, ev_make, ev_fld, ev_setF, ev_bm1, asQ_tup, asQ_lst, asQ_lsk, asL_lst, asL_lsk, dLen_tup, dLen_lst, dLen_lsk, dLen_str, dIx_tup, dIx_lst, dIx_lsk, dIx_str, dAdd_int, dNeg_int, isN_def, notN_def, isNon_non, isNon_int, isNon_bl, isNon_str, isNon_tup, isNon_lst, isNon_obj, isNon_exc, dEq_int, dNe_int, dEq_str, dNe_str, dEq_bl, atI_zero, atI_one, atI_2, atI_3, atI_4, atI_5, atI_6, atI_7, atI_8, atI_9, atI_10, atI_11, atI_12, atI_m1, ev_gT, setAll_nil, setAll_cons, iOp_int, ev_gN, ev_ret, List.map_cons, List.map_nil, List.length_cons, List.length_nil, rep_zero, rep_succ, List.cons_append, List.nil_append, List.getElem?_cons_zero, List.getElem?_cons_succ, List.set_cons_zero, List.set_cons_succ, Nat.sub_self, Nat.reduceAdd, Nat.reduceSub, Option.map_some, Option.bind_some, if_true, Bool.not_true, Bool.not_false, Bool.false_eq_true, if_false, decide_true, decide_false, Int.reduceBEq, Int.reduceEq, Int.reduceLT, Int.reduceLE, Int.reduceNeg, Int.reduceAdd, Int.reduceSub, Int.reduceMul, Int.reduceToNat, Nat.reduceLT, Nat.reduceLeDiff, beq_self_eq_true, reduceIte, eq_self, Int.reduceNe, Int.reduceBNe, not_true_eq_false, not_false_eq_true, true_and, and_true, true_or, or_true, false_or, or_false, and_false, false_and, decide_eq_true_eq, Bool.true_and, Bool.and_true, Bool.false_and, Bool.and_false, Bool.true_or, Bool.or_true, Bool.false_or, Bool.or_false, t_hash, ev_sl, evp_none, evp_some, dSl_lst, c, dEq_nil1, hq]
    cases qs <;> rfl
  | n + 1, p :: ps, qs, h => by
    have ih := ev_covers_levels s n ps
    have hn : ps.length < n := by simpa using h
    have c : cutD (Dt.str (mkS p) :: lvs ps) none (some 1) = [Dt.str (mkS p)] := by rw [cut_one]; rfl
    have c2 : cutD (Dt.str (mkS p) :: lvs ps) (some 1) none = lvs ps := cut_tail _ _
    unfold r_covers_levels b_covers_levels
    by_cases hp : p = [35]
    · have hb : (p == [35]) = true := by simpa using hp
      have hf : coversL (p :: ps) qs = true := by unfold coversL; rw [if_pos hp]
      simp only [fnOf, ev_seq, ev_asg, sBnd_def, ev_op, ev_un, bnd_def, ev_call, evs_cons, evs_nil, ev_var, ev_c, ev_if, ev_next, ev_expr, ev_tru, ev_bl, ev_and, ev_or, ev_not, ev_yes, ev_andE, ev_orE, ev_notE, ev_ifE, ev_chain, ofB_some, ofO_some, ofO_none, truD_non, truD_bl, truD_int, truD_str, truD_tup, truD_lst, truD_lsk, ev_tup, ev_lst, ev_nwF, ev_nwM, ev_meth, ev_make, ev_fld, ev_setF, ev_bm1, asQ_tup, asQ_lst, asQ_lsk, asL_lst, asL_lsk, dLen_tup, dLen_lst, dLen_lsk, dLen_str, dIx_tup, dIx_lst, dIx_lsk, dIx_str, dAdd_int, dNeg_int, isN_def, notN_def, isNon_non, isNon_int, isNon_bl, isNon_str, isNon_tup, isNon_lst, isNon_obj, isNon_exc, dEq_int, dNe_int, dEq_str, dNe_str, dEq_bl, atI_zero, atI_one, atI_2, atI_3, atI_4, atI_5, atI_6, atI_7, atI_8, atI_9, atI_10, atI_11, atI_12, atI_m1, ev_gT, setAll_nil, setAll_cons, iOp_int, ev_gN, ev_ret, List.map_cons, List.map_nil, List.length_cons, List.length_nil, rep_zero, rep_succ, List.cons_append, List.nil_append, List.getElem?_cons_zero, List.getElem?_cons_succ, List.set_cons_zero, List.set_cons_succ, Nat.sub_self, Nat.reduceAdd, Nat.reduceSub, Option.map_some, Option.bind_some, if_true, Bool.not_true, Bool.not_false, Bool.false_eq_true, if_false, decide_true, decide_false, Int.reduceBEq, Int.reduceEq, Int.reduceLT, Int.reduceLE, Int.reduceNeg, Int.reduceAdd, Int.reduceSub, Int.reduceMul, Int.reduceToNat, Nat.reduceLT, Nat.reduceLeDiff, beq_self_eq_true, reduceIte, eq_self, Int.reduceNe, Int.reduceBNe, not_true_eq_false, not_false_eq_true, true_and, and_true, true_or, or_true, false_or, or_false, and_false, false_and, decide_eq_true_eq, Bool.true_and, Bool.and_true, Bool.false_and, Bool.and_false, Bool.true_or, Bool.or_true, Bool.false_or, Bool.or_false, t_hash, ev_sl, evp_none, evp_some, dSl_lst, c, dEq_lst1, hb, hf]
    · have hb : (p == [35]) = false := by simpa using hp
      cases qs with
      | nil =>
        have hf : coversL (p :: ps) [] = false := by unfold coversL; rw [if_neg hp]
        simp only [fnOf, ev_seq, ev_asg, sBnd_def, ev_op, ev_un, bnd_def, ev_call, evs_cons, evs_nil, ev_var, ev_c, ev_if, ev_next, ev_expr, ev_tru, ev_bl, ev_and, ev_or, ev_not, ev_yes, ev_andE, ev_orE, ev_notE, ev_ifE, ev_chain, ofB_some, ofO_some, ofO_none, truD_non, truD_bl, truD_int, truD_str, truD_tup, truD_lst, truD_lsk, ev_tup, ev_lst, ev_nwF, ev_nwM, ev_meth, ev_make, ev_fld, ev_setF, ev_bm1, asQ_tup, asQ_lst, asQ_lsk, asL_lst, asL_lsk, dLen_tup, dLen_lst, dLen_lsk, dLen_str, dIx_tup, dIx_lst, dIx_lsk, dIx_str, dAdd_int, dNeg_int, isN_def, notN_def, isNon_non, isNon_int, isNon_bl, isNon_str, isNon_tup, isNon_lst, isNon_obj, isNon_exc, dEq_int, dNe_int, dEq_str, dNe_str, dEq_bl, atI_zero, atI_one, atI_2, atI_3, atI_4, atI_5, atI_6, atI_7, atI_8, atI_9, atI_10, atI_11, atI_12, atI_m1, ev_gT, setAll_nil, setAll_cons, iOp_int, ev_gN, ev_ret, List.map_cons, List.map_nil, List.length_cons, List.length_nil, rep_zero, rep_succ, List.cons_append, List.nil_append, List.getElem?_cons_zero, List.getElem?_cons_succ, List.set_cons_zero, List.set_cons_succ, Nat.sub_self, Nat.reduceAdd, Nat.reduceSub, Option.map_some, Option.bind_some, if_true, Bool.not_true, Bool.not_false, Bool.false_eq_true, if_false, decide_true, decide_false, Int.reduceBEq, Int.reduceEq, Int.reduceLT, Int.reduceLE, Int.reduceNeg, Int.reduceAdd, Int.reduceSub, Int.reduceMul, Int.reduceToNat, Nat.reduceLT, Nat.reduceLeDiff, beq_self_eq_true, reduceIte, eq_self, Int.reduceNe, Int.reduceBNe, not_true_eq_false, not_false_eq_true, true_and, and_true, true_or, or_true, false_or, or_false, and_false, false_and, decide_eq_true_eq, Bool.true_and, Bool.and_true, Bool.false_and, Bool.and_false, Bool.true_or, Bool.or_true, Bool.false_or, Bool.or_false, t_hash, ev_sl, evp_none, evp_some, dSl_lst, c, dEq_lst1, hb, hf, List.isEmpty_nil, List.isEmpty_cons]
      | cons q qs =>
        have c3 : cutD (Dt.str (mkS q) :: lvs qs) (some 1) none = lvs qs := cut_tail _ _
        have ih2 := ih qs hn
        by_cases hq : q = [35]
        · have hqb : (q == [35]) = true := by simpa using hq
          have hf : coversL (p :: ps) (q :: qs) = false := by rw [coversL, if_neg hp]; simp only [if_pos hq]
          simp only [fnOf, ev_seq, ev_asg, sBnd_def, ev_op, ev_un, bnd_def, ev_call, evs_cons, evs_nil, ev_var, ev_c, ev_if, ev_next, ev_expr, ev_tru, ev_bl, ev_and, ev_or, ev_not, ev_yes, ev_andE, ev_orE, ev_notE, ev_ifE, ev_chain, ofB_some, ofO_some, ofO_none, truD_non, truD_bl, truD_int, truD_str, truD_tup, truD_lst, truD_lsk, ev_tup, ev_lst, ev_nwF, ev_nwM, ev_meth, ev_make, ev_fld, ev_setF, ev_bm1, asQ_tup, asQ_lst, asQ_lsk, asL_lst, asL_lsk, dLen_tup, dLen_lst, dLen_lsk, dLen_str, dIx_tup, dIx_lst, dIx_lsk, dIx_str, dAdd_int, dNeg_int, isN_def, notN_def, isNon_non, isNon_int, isNon_bl, isNon_str, isNon_tup, isNon_lst, isNon_obj, isNon_exc, dEq_int, dNe_int, dEq_str, dNe_str, dEq_bl, atI_zero, atI_one, atI_2, atI_3, atI_4, atI_5, atI_6, atI_7, atI_8, atI_9, atI_10, atI_11, atI_12, atI_m1, ev_gT, setAll_nil, setAll_cons, iOp_int, ev_gN, ev_ret, List.map_cons, List.map_nil, List.length_cons, List.length_nil, rep_zero, rep_succ, List.cons_append, List.nil_append, List.getElem?_cons_zero, List.getElem?_cons_succ, List.set_cons_zero, List.set_cons_succ, Nat.sub_self, Nat.reduceAdd, Nat.reduceSub, Option.map_some, Option.bind_some, if_true, Bool.not_true, Bool.not_false, Bool.false_eq_true, if_false, decide_true, decide_false, Int.reduceBEq, Int.reduceEq, Int.reduceLT, Int.reduceLE, Int.reduceNeg, Int.reduceAdd, Int.reduceSub, Int.reduceMul, Int.reduceToNat, Nat.reduceLT, Nat.reduceLeDiff, beq_self_eq_true, reduceIte, eq_self, Int.reduceNe, Int.reduceBNe, not_true_eq_false, not_false_eq_true, true_and, and_true, true_or, or_true, false_or, or_false, and_false, false_and, decide_eq_true_eq, Bool.true_and, Bool.and_true, Bool.false_and, Bool.and_false, Bool.true_or, Bool.or_true, Bool.false_or, Bool.or_false, t_hash, ev_sl, evp_none, evp_some, dSl_lst, c, dEq_lst1, hb, hf, mkS_beq, hqb, List.isEmpty_nil, List.isEmpty_cons]
        · have hqb : (q == [35]) = false := by simpa using hq
          have hf : coversL (p :: ps) (q :: qs) = (([43] == p || q == p) && coversL ps qs) := by rw [coversL, if_neg hp]; simp only [if_neg hq]
          cases hh : ([43] == p || q == p) with
          | true => simp only [fnOf, ev_seq, ev_asg, sBnd_def, ev_op, ev_un, bnd_def, ev_call, evs_cons, evs_nil, ev_var, ev_c, ev_if, ev_next, ev_expr, ev_tru, ev_bl, ev_and, ev_or, ev_not, ev_yes, ev_andE, ev_orE, ev_notE, ev_ifE, ev_chain, ofB_some, ofO_some, ofO_none, truD_non, truD_bl, truD_int, truD_str, truD_tup, truD_lst, truD_lsk, ev_tup, ev_lst, ev_nwF, ev_nwM, ev_meth, ev_make, ev_fld, ev_setF, ev_bm1, asQ_tup, asQ_lst, asQ_lsk, asL_lst, asL_lsk, dLen_tup, dLen_lst, dLen_lsk, dLen_str, dIx_tup, dIx_lst, dIx_lsk, dIx_str, dAdd_int, dNeg_int, isN_def, notN_def, isNon_non, isNon_int, isNon_bl, isNon_str, isNon_tup, isNon_lst, isNon_obj, isNon_exc, dEq_int, dNe_int, dEq_str, dNe_str, dEq_bl, atI_zero, atI_one, atI_2, atI_3, atI_4, atI_5, atI_6, atI_7, atI_8, atI_9, atI_10, atI_11, atI_12, atI_m1, ev_gT, setAll_nil, setAll_cons, iOp_int, ev_gN, ev_ret, List.map_cons, List.map_nil, List.length_cons, List.length_nil, rep_zero, rep_succ, List.cons_append, List.nil_append, List.getElem?_cons_zero, List.getElem?_cons_succ, List.set_cons_zero, List.set_cons_succ, Nat.sub_self, Nat.reduceAdd, Nat.reduceSub, Option.map_some, Option.bind_some, if_true, Bool.not_true, Bool.not_false, Bool.false_eq_true, if_false, decide_true, decide_false, Int.reduceBEq, Int.reduceEq, Int.reduceLT, Int.reduceLE, Int.reduceNeg, Int.reduceAdd, Int.reduceSub, Int.reduceMul, Int.reduceToNat, Nat.reduceLT, Nat.reduceLeDiff, beq_self_eq_true, reduceIte, eq_self, Int.reduceNe, Int.reduceBNe, not_true_eq_false, not_false_eq_true, true_and, and_true, true_or, or_true, false_or, or_false, and_false, false_and, decide_eq_true_eq, Bool.true_and, Bool.and_true, Bool.false_and, Bool.and_false, Bool.true_or, Bool.or_true, Bool.false_or, Bool.or_false, t_hash, t_plus, ev_sl, evp_none, evp_some, dSl_lst, c, c2, c3, dEq_lst1, hb, mkS_beq, hqb, dIn_two, hh, ih2, hf, List.isEmpty_cons]
          | false => simp only [fnOf, ev_seq, ev_asg, sBnd_def, ev_op, ev_un, bnd_def, ev_call, evs_cons, evs_nil, ev_var, ev_c, ev_if, ev_next, ev_expr, ev_tru, ev_bl, ev_and, ev_or, ev_not, ev_yes, ev_andE, ev_orE, ev_notE, ev_ifE, ev_chain, ofB_some, ofO_some, ofO_none, truD_non, truD_bl, truD_int, truD_str, truD_tup, truD_lst, truD_lsk, ev_tup, ev_lst, ev_nwF, ev_nwM, ev_meth, ev_make, ev_fld, ev_setF, ev_bm1, asQ_tup, asQ_lst, asQ_lsk, asL_lst, asL_lsk, dLen_tup, dLen_lst, dLen_lsk, dLen_str, dIx_tup, dIx_lst, dIx_lsk, dIx_str, dAdd_int, dNeg_int, isN_def, notN_def, isNon_non, isNon_int, isNon_bl, isNon_str, isNon_tup, isNon_lst, isNon_obj, isNon_exc, dEq_int, dNe_int, dEq_str, dNe_str, dEq_bl, atI_zero, atI_one, atI_2, atI_3, atI_4, atI_5, atI_6, atI_7, atI_8, atI_9, atI_10, atI_11, atI_12, atI_m1, ev_gT, setAll_nil, setAll_cons, iOp_int, ev_gN, ev_ret, List.map_cons, List.map_nil, List.length_cons, List.length_nil, rep_zero, rep_succ, List.cons_append, List.nil_append, List.getElem?_cons_zero, List.getElem?_cons_succ, List.set_cons_zero, List.set_cons_succ, Nat.sub_self, Nat.reduceAdd, Nat.reduceSub, Option.map_some, Option.bind_some, if_true, Bool.not_true, Bool.not_false, Bool.false_eq_true, if_false, decide_true, decide_false, Int.reduceBEq, Int.reduceEq, Int.reduceLT, Int.reduceLE, Int.reduceNeg, Int.reduceAdd, Int.reduceSub, Int.reduceMul, Int.reduceToNat, Nat.reduceLT, Nat.reduceLeDiff, beq_self_eq_true, reduceIte, eq_self, Int.reduceNe, Int.reduceBNe, not_true_eq_false, not_false_eq_true, true_and, and_true, true_or, or_true, false_or, or_false, and_false, false_and, decide_eq_true_eq, Bool.true_and, Bool.and_true, Bool.false_and, Bool.and_false, Bool.true_or, Bool.or_true, Bool.false_or, Bool.or_false, t_hash, t_plus, ev_sl, evp_none, evp_some, dSl_lst, c, c2, c3, dEq_lst1, hb, mkS_beq, hqb, dIn_two, hh, ih2, hf, List.isEmpty_cons]
theorem len_of_wish {w : List Nat} (h : isWish w = true) : (splC 47 w).length ≤ 8 := by
  unfold isWish at h
  simp only [Bool.and_eq_true, decide_eq_true_eq] at h
  exact h.1.2
theorem seq_exc {f g : Sx} {env e : En} {s s' : Sto} {c : Nat} (h : f env s = .exc c e s') : sSeq f g env s = .exc c e s' := by rw [ev_seq, h]
theorem seq_nx1 {f g : Sx} {env e : En} {s s' : Sto} (h : f env s = .fl (.nx e) s') : sSeq f g env s = g e s' := by rw [ev_seq, h]
theorem seq_rt1 {f g : Sx} {env : En} {s s' : Sto} {d : Dt} (h : f env s = .fl (.rt d) s') : sSeq f g env s = .fl (.rt d) s' := by rw [ev_seq, h]
theorem adj_len (os : List (List Nat)) : (adj os).length ≤ os.length + 2 := by
  unfold adj
  split
  · simp
  · omega
theorem dAdd_lst' {nw : List Dt → Sto → Out Dt} {l m : List Dt} {s : Sto} (h : l.length + m.length ≤ 1000000) : dAdd nw (.lst l) (.lst m) s = nw (l ++ m) s := by
  simp only [dAdd, trkL]
  rw [if_pos (by rw [sizeLine_eq]; omega)]
theorem ev_covers (w o : List Nat) (s : Sto) : m_covers [.str (mkS w), .str (mkS o)] s = if isWish w = true then (if isWish o = true then .ok (.bl (coversC w o)) s else .exc 1 s) else .exc 1 s := by
  have h1 := ev_look_wish w s
  have h2 := ev_look_wish o s
  unfold m_covers b_covers
  simp only [fnOf, List.map_cons, List.map_nil, List.length_cons, List.length_nil, Nat.reduceAdd, Nat.reduceSub, rep_succ, rep_zero, List.cons_append, List.nil_append]
  cases hw : isWish w with
  | false =>
    rw [hw, if_neg Bool.false_ne_true] at h1
    have e1 : u_covers_1 [some (.str (mkS w)), some (.str (mkS o)), none, none] s = .exc 1 [some (.str (mkS w)), some (.str (mkS o)), none, none] s := by unfold u_covers_1; simp only [fnOf, ev_seq, ev_asg, sBnd_def, ev_op, ev_un, bnd_def, ev_call, evs_cons, evs_nil, ev_var, ev_c, ev_if, ev_next, ev_expr, ev_tru, ev_bl, ev_and, ev_or, ev_not, ev_yes, ev_andE, ev_orE, ev_notE, ev_ifE, ev_chain, ofB_some, ofO_some, ofO_none, truD_non, truD_bl, truD_int, truD_str, truD_tup, truD_lst, truD_lsk, ev_tup, ev_lst, ev_nwF, ev_nwM, ev_meth, ev_make, ev_fld, ev_setF, ev_bm1, asQ_tup, asQ_lst, asQ_lsk, asL_lst, asL_lsk, dLen_tup, dLen_lst, dLen_lsk, dLen_str, dIx_tup, dIx_lst, dIx_lsk, dIx_str, dAdd_int, dNeg_int, isN_def, notN_def, isNon_non, isNon_int, isNon_bl, isNon_str, isNon_tup, isNon_lst, isNon_obj, isNon_exc, dEq_int, dNe_int, dEq_str, dNe_str, dEq_bl, atI_zero, atI_one, atI_2, atI_3, atI_4, atI_5, atI_6, atI_7, atI_8, atI_9, atI_10, atI_11, atI_12, atI_m1, ev_gT, setAll_nil, setAll_cons, iOp_int, ev_gN, ev_ret, List.map_cons, List.map_nil, List.length_cons, List.length_nil, rep_zero, rep_succ, List.cons_append, List.nil_append, List.getElem?_cons_zero, List.getElem?_cons_succ, List.set_cons_zero, List.set_cons_succ, Nat.sub_self, Nat.reduceAdd, Nat.reduceSub, Option.map_some, Option.bind_some, if_true, Bool.not_true, Bool.not_false, Bool.false_eq_true, if_false, decide_true, decide_false, Int.reduceBEq, Int.reduceEq, Int.reduceLT, Int.reduceLE, Int.reduceNeg, Int.reduceAdd, Int.reduceSub, Int.reduceMul, Int.reduceToNat, Nat.reduceLT, Nat.reduceLeDiff, beq_self_eq_true, reduceIte, eq_self, Int.reduceNe, Int.reduceBNe, not_true_eq_false, not_false_eq_true, true_and, and_true, true_or, or_true, false_or, or_false, and_false, false_and, decide_eq_true_eq, Bool.true_and, Bool.and_true, Bool.false_and, Bool.and_false, Bool.true_or, Bool.or_true, Bool.false_or, Bool.or_false, h1]
    rw [seq_exc e1]
    rfl
  | true =>
    rw [hw, if_pos rfl] at h1
    have e1 : u_covers_1 [some (.str (mkS w)), some (.str (mkS o)), none, none] s = .fl (.nx [some (.str (mkS w)), some (.str (mkS o)), none, none]) s := by unfold u_covers_1; simp only [fnOf, ev_seq, ev_asg, sBnd_def, ev_op, ev_un, bnd_def, ev_call, evs_cons, evs_nil, ev_var, ev_c, ev_if, ev_next, ev_expr, ev_tru, ev_bl, ev_and, ev_or, ev_not, ev_yes, ev_andE, ev_orE, ev_notE, ev_ifE, ev_chain, ofB_some, ofO_some, ofO_none, truD_non, truD_bl, truD_int, truD_str, truD_tup, truD_lst, truD_lsk, ev_tup, ev_lst, ev_nwF, ev_nwM, ev_meth, ev_make, ev_fld, ev_setF, ev_bm1, asQ_tup, asQ_lst, asQ_lsk, asL_lst, asL_lsk, dLen_tup, dLen_lst, dLen_lsk, dLen_str, dIx_tup, dIx_lst, dIx_lsk, dIx_str, dAdd_int, dNeg_int, isN_def, notN_def, isNon_non, isNon_int, isNon_bl, isNon_str, isNon_tup, isNon_lst, isNon_obj, isNon_exc, dEq_int, dNe_int, dEq_str, dNe_str, dEq_bl, atI_zero, atI_one, atI_2, atI_3, atI_4, atI_5, atI_6, atI_7, atI_8, atI_9, atI_10, atI_11, atI_12, atI_m1, ev_gT, setAll_nil, setAll_cons, iOp_int, ev_gN, ev_ret, List.map_cons, List.map_nil, List.length_cons, List.length_nil, rep_zero, rep_succ, List.cons_append, List.nil_append, List.getElem?_cons_zero, List.getElem?_cons_succ, List.set_cons_zero, List.set_cons_succ, Nat.sub_self, Nat.reduceAdd, Nat.reduceSub, Option.map_some, Option.bind_some, if_true, Bool.not_true, Bool.not_false, Bool.false_eq_true, if_false, decide_true, decide_false, Int.reduceBEq, Int.reduceEq, Int.reduceLT, Int.reduceLE, Int.reduceNeg, Int.reduceAdd, Int.reduceSub, Int.reduceMul, Int.reduceToNat, Nat.reduceLT, Nat.reduceLeDiff, beq_self_eq_true, reduceIte, eq_self, Int.reduceNe, Int.reduceBNe, not_true_eq_false, not_false_eq_true, true_and, and_true, true_or, or_true, false_or, or_false, and_false, false_and, decide_eq_true_eq, Bool.true_and, Bool.and_true, Bool.false_and, Bool.and_false, Bool.true_or, Bool.or_true, Bool.false_or, Bool.or_false, h1]
    rw [seq_nx1 e1]
    cases ho : isWish o with
    | false =>
      rw [ho, if_neg Bool.false_ne_true] at h2
      have e2 : u_covers_2 [some (.str (mkS w)), some (.str (mkS o)), none, none] s = .exc 1 [some (.str (mkS w)), some (.str (mkS o)), none, none] s := by unfold u_covers_2; simp only [fnOf, ev_seq, ev_asg, sBnd_def, ev_op, ev_un, bnd_def, ev_call, evs_cons, evs_nil, ev_var, ev_c, ev_if, ev_next, ev_expr, ev_tru, ev_bl, ev_and, ev_or, ev_not, ev_yes, ev_andE, ev_orE, ev_notE, ev_ifE, ev_chain, ofB_some, ofO_some, ofO_none, truD_non, truD_bl, truD_int, truD_str, truD_tup, truD_lst, truD_lsk, ev_tup, ev_lst, ev_nwF, ev_nwM, ev_meth, ev_make, ev_fld, ev_setF, ev_bm1, asQ_tup, asQ_lst, asQ_lsk, asL_lst, asL_lsk, dLen_tup, dLen_lst, dLen_lsk, dLen_str, dIx_tup, dIx_lst, dIx_lsk, dIx_str, dAdd_int, dNeg_int, isN_def, notN_def, isNon_non, isNon_int, isNon_bl, isNon_str, isNon_tup, isNon_lst, isNon_obj, isNon_exc, dEq_int, dNe_int, dEq_str, dNe_str, dEq_bl, atI_zero, atI_one, atI_2, atI_3, atI_4, atI_5, atI_6, atI_7, atI_8, atI_9, atI_10, atI_11, atI_12, atI_m1, ev_gT, setAll_nil, setAll_cons, iOp_int, ev_gN, ev_ret, List.map_cons, List.map_nil, List.length_cons, List.length_nil, rep_zero, rep_succ, List.cons_append, List.nil_append, List.getElem?_cons_zero, List.getElem?_cons_succ, List.set_cons_zero, List.set_cons_succ, Nat.sub_self, Nat.reduceAdd, Nat.reduceSub, Option.map_some, Option.bind_some, if_true, Bool.not_true, Bool.not_false, Bool.false_eq_true, if_false, decide_true, decide_false, Int.reduceBEq, Int.reduceEq, Int.reduceLT, Int.reduceLE, Int.reduceNeg, Int.reduceAdd, Int.reduceSub, Int.reduceMul, Int.reduceToNat, Nat.reduceLT, Nat.reduceLeDiff, beq_self_eq_true, reduceIte, eq_self, Int.reduceNe, Int.reduceBNe, not_true_eq_false, not_false_eq_true, true_and, and_true, true_or, or_true, false_or, or_false, and_false, false_and, decide_eq_true_eq, Bool.true_and, Bool.and_true, Bool.false_and, Bool.and_false, Bool.true_or, Bool.or_true, Bool.false_or, Bool.or_false, h2]
      rw [seq_exc e2]
      rfl
    | true =>
      rw [ho, if_pos rfl] at h2
      have e2 : u_covers_2 [some (.str (mkS w)), some (.str (mkS o)), none, none] s = .fl (.nx [some (.str (mkS w)), some (.str (mkS o)), none, none]) s := by unfold u_covers_2; simp only [fnOf, ev_seq, ev_asg, sBnd_def, ev_op, ev_un, bnd_def, ev_call, evs_cons, evs_nil, ev_var, ev_c, ev_if, ev_next, ev_expr, ev_tru, ev_bl, ev_and, ev_or, ev_not, ev_yes, ev_andE, ev_orE, ev_notE, ev_ifE, ev_chain, ofB_some, ofO_some, ofO_none, truD_non, truD_bl, truD_int, truD_str, truD_tup, truD_lst, truD_lsk, ev_tup, ev_lst, ev_nwF, ev_nwM, ev_meth, ev_make, ev_fld, ev_setF, ev_bm1, asQ_tup, asQ_lst, asQ_lsk, asL_lst, asL_lsk, dLen_tup, dLen_lst, dLen_lsk, dLen_str, dIx_tup, dIx_lst, dIx_lsk, dIx_str, dAdd_int, dNeg_int, isN_def, notN_def, isNon_non, isNon_int, isNon_bl, isNon_str, isNon_tup, isNon_lst, isNon_obj, isNon_exc, dEq_int, dNe_int, dEq_str, dNe_str, dEq_bl, atI_zero, atI_one, atI_2, atI_3, atI_4, atI_5, atI_6, atI_7, atI_8, atI_9, atI_10, atI_11, atI_12, atI_m1, ev_gT, setAll_nil, setAll_cons, iOp_int, ev_gN, ev_ret, List.map_cons, List.map_nil, List.length_cons, List.length_nil, rep_zero, rep_succ, List.cons_append, List.nil_append, List.getElem?_cons_zero, List.getElem?_cons_succ, List.set_cons_zero, List.set_cons_succ, Nat.sub_self, Nat.reduceAdd, Nat.reduceSub, Option.map_some, Option.bind_some, if_true, Bool.not_true, Bool.not_false, Bool.false_eq_true, if_false, decide_true, decide_false, Int.reduceBEq, Int.reduceEq, Int.reduceLT, Int.reduceLE, Int.reduceNeg, Int.reduceAdd, Int.reduceSub, Int.reduceMul, Int.reduceToNat, Nat.reduceLT, Nat.reduceLeDiff, beq_self_eq_true, reduceIte, eq_self, Int.reduceNe, Int.reduceBNe, not_true_eq_false, not_false_eq_true, true_and, and_true, true_or, or_true, false_or, or_false, and_false, false_and, decide_eq_true_eq, Bool.true_and, Bool.and_true, Bool.false_and, Bool.and_false, Bool.true_or, Bool.or_true, Bool.false_or, Bool.or_false, h2]
      rw [seq_nx1 e2]
      have e3 : u_covers_3 [some (.str (mkS w)), some (.str (mkS o)), none, none] s = .fl (.nx [some (.str (mkS w)), some (.str (mkS o)), some (.lst (lvs (splC 47 w))), none]) s := by unfold u_covers_3; simp only [fnOf, ev_seq, ev_asg, sBnd_def, ev_op, ev_un, bnd_def, ev_call, evs_cons, evs_nil, ev_var, ev_c, ev_if, ev_next, ev_expr, ev_tru, ev_bl, ev_and, ev_or, ev_not, ev_yes, ev_andE, ev_orE, ev_notE, ev_ifE, ev_chain, ofB_some, ofO_some, ofO_none, truD_non, truD_bl, truD_int, truD_str, truD_tup, truD_lst, truD_lsk, ev_tup, ev_lst, ev_nwF, ev_nwM, ev_meth, ev_make, ev_fld, ev_setF, ev_bm1, asQ_tup, asQ_lst, asQ_lsk, asL_lst, asL_lsk, dLen_tup, dLen_lst, dLen_lsk, dLen_str, dIx_tup, dIx_lst, dIx_lsk, dIx_str, dAdd_int, dNeg_int, isN_def, notN_def, isNon_non, isNon_int, isNon_bl, isNon_str, isNon_tup, isNon_lst, isNon_obj, isNon_exc, dEq_int, dNe_int, dEq_str, dNe_str, dEq_bl, atI_zero, atI_one, atI_2, atI_3, atI_4, atI_5, atI_6, atI_7, atI_8, atI_9, atI_10, atI_11, atI_12, atI_m1, ev_gT, setAll_nil, setAll_cons, iOp_int, ev_gN, ev_ret, List.map_cons, List.map_nil, List.length_cons, List.length_nil, rep_zero, rep_succ, List.cons_append, List.nil_append, List.getElem?_cons_zero, List.getElem?_cons_succ, List.set_cons_zero, List.set_cons_succ, Nat.sub_self, Nat.reduceAdd, Nat.reduceSub, Option.map_some, Option.bind_some, if_true, Bool.not_true, Bool.not_false, Bool.false_eq_true, if_false, decide_true, decide_false, Int.reduceBEq, Int.reduceEq, Int.reduceLT, Int.reduceLE, Int.reduceNeg, Int.reduceAdd, Int.reduceSub, Int.reduceMul, Int.reduceToNat, Nat.reduceLT, Nat.reduceLeDiff, beq_self_eq_true, reduceIte, eq_self, Int.reduceNe, Int.reduceBNe, not_true_eq_false, not_false_eq_true, true_and, and_true, true_or, or_true, false_or, or_false, and_false, false_and, decide_eq_true_eq, Bool.true_and, Bool.and_true, Bool.false_and, Bool.and_false, Bool.true_or, Bool.or_true, Bool.false_or, Bool.or_false, t_slash, isStr_str, dSplit_mk]
      rw [seq_nx1 e3]
      have e4 : u_covers_4 [some (.str (mkS w)), some (.str (mkS o)), some (.lst (lvs (splC 47 w))), none] s = .fl (.nx [some (.str (mkS w)), some (.str (mkS o)), some (.lst (lvs (splC 47 w))), some (.lst (lvs (splC 47 o)))]) s := by unfold u_covers_4; simp only [fnOf, ev_seq, ev_asg, sBnd_def, ev_op, ev_un, bnd_def, ev_call, evs_cons, evs_nil, ev_var, ev_c, ev_if, ev_next, ev_expr, ev_tru, ev_bl, ev_and, ev_or, ev_not, ev_yes, ev_andE, ev_orE, ev_notE, ev_ifE, ev_chain, ofB_some, ofO_some, ofO_none, truD_non, truD_bl, truD_int, truD_str, truD_tup, truD_lst, truD_lsk, ev_tup, ev_lst, ev_nwF, ev_nwM, ev_meth, ev_make, ev_fld, ev_setF, ev_bm1, asQ_tup, asQ_lst, asQ_lsk, asL_lst, asL_lsk, dLen_tup, dLen_lst, dLen_lsk, dLen_str, dIx_tup, dIx_lst, dIx_lsk, dIx_str, dAdd_int, dNeg_int, isN_def, notN_def, isNon_non, isNon_int, isNon_bl, isNon_str, isNon_tup, isNon_lst, isNon_obj, isNon_exc, dEq_int, dNe_int, dEq_str, dNe_str, dEq_bl, atI_zero, atI_one, atI_2, atI_3, atI_4, atI_5, atI_6, atI_7, atI_8, atI_9, atI_10, atI_11, atI_12, atI_m1, ev_gT, setAll_nil, setAll_cons, iOp_int, ev_gN, ev_ret, List.map_cons, List.map_nil, List.length_cons, List.length_nil, rep_zero, rep_succ, List.cons_append, List.nil_append, List.getElem?_cons_zero, List.getElem?_cons_succ, List.set_cons_zero, List.set_cons_succ, Nat.sub_self, Nat.reduceAdd, Nat.reduceSub, Option.map_some, Option.bind_some, if_true, Bool.not_true, Bool.not_false, Bool.false_eq_true, if_false, decide_true, decide_false, Int.reduceBEq, Int.reduceEq, Int.reduceLT, Int.reduceLE, Int.reduceNeg, Int.reduceAdd, Int.reduceSub, Int.reduceMul, Int.reduceToNat, Nat.reduceLT, Nat.reduceLeDiff, beq_self_eq_true, reduceIte, eq_self, Int.reduceNe, Int.reduceBNe, not_true_eq_false, not_false_eq_true, true_and, and_true, true_or, or_true, false_or, or_false, and_false, false_and, decide_eq_true_eq, Bool.true_and, Bool.and_true, Bool.false_and, Bool.and_false, Bool.true_or, Bool.or_true, Bool.false_or, Bool.or_false, t_slash, isStr_str, dSplit_mk]
      rw [seq_nx1 e4]
      have e5 : u_covers_5 [some (.str (mkS w)), some (.str (mkS o)), some (.lst (lvs (splC 47 w))), some (.lst (lvs (splC 47 o)))] s = .fl (.nx [some (.str (mkS w)), some (.str (mkS o)), some (.lst (lvs (splC 47 w))), some (.lst (lvs (adj (splC 47 o))))]) s := by
        have hd : dIn (.lst (lvs (splC 47 o))) (.tup [.lst [.str (mkS [35])], .lst [.str (mkS []), .str (mkS [35])]]) s = .ok (.bl ([[35]] == splC 47 o || [[], [35]] == splC 47 o)) s := dIn_lvs2 (splC 47 o) [[35]] [[], [35]] s
        unfold u_covers_5
        cases hb : ([[35]] == splC 47 o || [[], [35]] == splC 47 o) with
        | false =>
          have ha : adj (splC 47 o) = splC 47 o := by unfold adj; rw [hb, if_neg Bool.false_ne_true]
          simp only [fnOf, ev_seq, ev_asg, sBnd_def, ev_op, ev_un, bnd_def, ev_call, evs_cons, evs_nil, ev_var, ev_c, ev_if, ev_next, ev_expr, ev_tru, ev_bl, ev_and, ev_or, ev_not, ev_yes, ev_andE, ev_orE, ev_notE, ev_ifE, ev_chain, ofB_some, ofO_some, ofO_none, truD_non, truD_bl, truD_int, truD_str, truD_tup, truD_lst, truD_lsk, ev_tup, ev_lst, ev_nwF, ev_nwM, ev_meth, ev_make, ev_fld, ev_setF, ev_bm1, asQ_tup, asQ_lst, asQ_lsk, asL_lst, asL_lsk, dLen_tup, dLen_lst, dLen_lsk, dLen_str, dIx_tup, dIx_lst, dIx_lsk, dIx_str, dAdd_int, dNeg_int, isN_def, notN_def, isNon_non, isNon_int, isNon_bl, isNon_str, isNon_tup, isNon_lst, isNon_obj, isNon_exc, dEq_int, dNe_int, dEq_str, dNe_str, dEq_bl, atI_zero, atI_one, atI_2, atI_3, atI_4, atI_5, atI_6, atI_7, atI_8, atI_9, atI_10, atI_11, atI_12, atI_m1, ev_gT, setAll_nil, setAll_cons, iOp_int, ev_gN, ev_ret, List.map_cons, List.map_nil, List.length_cons, List.length_nil, rep_zero, rep_succ, List.cons_append, List.nil_append, List.getElem?_cons_zero, List.getElem?_cons_succ, List.set_cons_zero, List.set_cons_succ, Nat.sub_self, Nat.reduceAdd, Nat.reduceSub, Option.map_some, Option.bind_some, if_true, Bool.not_true, Bool.not_false, Bool.false_eq_true, if_false, decide_true, decide_false, Int.reduceBEq, Int.reduceEq, Int.reduceLT, Int.reduceLE, Int.reduceNeg, Int.reduceAdd, Int.reduceSub, Int.reduceMul, Int.reduceToNat, Nat.reduceLT, Nat.reduceLeDiff, beq_self_eq_true, reduceIte, eq_self, Int.reduceNe, Int.reduceBNe, not_true_eq_false, not_false_eq_true, true_and, and_true, true_or, or_true, false_or, or_false, and_false, false_and, decide_eq_true_eq, Bool.true_and, Bool.and_true, Bool.false_and, Bool.and_false, Bool.true_or, Bool.or_true, Bool.false_or, Bool.or_false, t_hash, t_nil, t_plus, hd, hb, ha]
        | true =>
          have ha : adj (splC 47 o) = (splC 47 o).dropLast ++ [[43], [35]] := by unfold adj; rw [hb, if_pos rfl]
          have ad : dAdd nwF (.lst (lvs (splC 47 o).dropLast)) (.lst [.str (mkS [43]), .str (mkS [35])]) s = .ok (.lst (lvs ((splC 47 o).dropLast ++ [[43], [35]]))) s := by
            rw [dAdd_lst' (by have := len_of_wish ho; simp; omega)]
            simp [lvs]
          have cu : cutD (lvs (splC 47 o)) none (some (-1)) = lvs (splC 47 o).dropLast := by rw [cut_init]; simp [lvs]
          simp only [fnOf, ev_seq, ev_asg, sBnd_def, ev_op, ev_un, bnd_def, ev_call, evs_cons, evs_nil, ev_var, ev_c, ev_if, ev_next, ev_expr, ev_tru, ev_bl, ev_and, ev_or, ev_not, ev_yes, ev_andE, ev_orE, ev_notE, ev_ifE, ev_chain, ofB_some, ofO_some, ofO_none, truD_non, truD_bl, truD_int, truD_str, truD_tup, truD_lst, truD_lsk, ev_tup, ev_lst, ev_nwF, ev_nwM, ev_meth, ev_make, ev_fld, ev_setF, ev_bm1, asQ_tup, asQ_lst, asQ_lsk, asL_lst, asL_lsk, dLen_tup, dLen_lst, dLen_lsk, dLen_str, dIx_tup, dIx_lst, dIx_lsk, dIx_str, dAdd_int, dNeg_int, isN_def, notN_def, isNon_non, isNon_int, isNon_bl, isNon_str, isNon_tup, isNon_lst, isNon_obj, isNon_exc, dEq_int, dNe_int, dEq_str, dNe_str, dEq_bl, atI_zero, atI_one, atI_2, atI_3, atI_4, atI_5, atI_6, atI_7, atI_8, atI_9, atI_10, atI_11, atI_12, atI_m1, ev_gT, setAll_nil, setAll_cons, iOp_int, ev_gN, ev_ret, List.map_cons, List.map_nil, List.length_cons, List.length_nil, rep_zero, rep_succ, List.cons_append, List.nil_append, List.getElem?_cons_zero, List.getElem?_cons_succ, List.set_cons_zero, List.set_cons_succ, Nat.sub_self, Nat.reduceAdd, Nat.reduceSub, Option.map_some, Option.bind_some, if_true, Bool.not_true, Bool.not_false, Bool.false_eq_true, if_false, decide_true, decide_false, Int.reduceBEq, Int.reduceEq, Int.reduceLT, Int.reduceLE, Int.reduceNeg, Int.reduceAdd, Int.reduceSub, Int.reduceMul, Int.reduceToNat, Nat.reduceLT, Nat.reduceLeDiff, beq_self_eq_true, reduceIte, eq_self, Int.reduceNe, Int.reduceBNe, not_true_eq_false, not_false_eq_true, true_and, and_true, true_or, or_true, false_or, or_false, and_false, false_and, decide_eq_true_eq, Bool.true_and, Bool.and_true, Bool.false_and, Bool.and_false, Bool.true_or, Bool.or_true, Bool.false_or, Bool.or_false, t_hash, t_nil, t_plus, hd, hb, ev_sl, evp_none, evp_some, dSl_lst, cu, ad, ha]
      rw [seq_nx1 e5]
      obtain ⟨p, ps, e⟩ := splC_cons w
      have h3 : m_covers_levels [.lst (lvs (splC 47 w)), .lst (lvs (adj (splC 47 o)))] s = .ok (.bl (coversL (splC 47 w) (adj (splC 47 o)))) s := ev_covers_levels s 12 _ _ (by have := len_of_wish hw; omega)
      have w0 : (lvs (splC 47 w))[0]? = some (.str (mkS p)) := by rw [e]; rfl
      have hd : dStarts (.str (mkS o)) (.str (mkS [36])) s = .ok (.bl (TL.pre [36] o)) s := rfl
      have hwide : wide (splC 47 w) = ([43] == p || [35] == p) := by unfold wide; rw [e]
      have hf : coversC w o = (!(([43] == p || [35] == p) && TL.pre [36] o) && coversL (splC 47 w) (adj (splC 47 o))) := by unfold coversC; rw [hwide]
      unfold u_covers_6
      cases h5 : ([43] == p || [35] == p) with
      | false => simp only [fnOf, ev_seq, ev_asg, sBnd_def, ev_op, ev_un, bnd_def, ev_call, evs_cons, evs_nil, ev_var, ev_c, ev_if, ev_next, ev_expr, ev_tru, ev_bl, ev_and, ev_or, ev_not, ev_yes, ev_andE, ev_orE, ev_notE, ev_ifE, ev_chain, ofB_some, ofO_some, ofO_none, truD_non, truD_bl, truD_int, truD_str, truD_tup, truD_lst, truD_lsk, ev_tup, ev_lst, ev_nwF, ev_nwM, ev_meth, ev_make, ev_fld, ev_setF, ev_bm1, asQ_tup, asQ_lst, asQ_lsk, asL_lst, asL_lsk, dLen_tup, dLen_lst, dLen_lsk, dLen_str, dIx_tup, dIx_lst, dIx_lsk, dIx_str, dAdd_int, dNeg_int, isN_def, notN_def, isNon_non, isNon_int, isNon_bl, isNon_str, isNon_tup, isNon_lst, isNon_obj, isNon_exc, dEq_int, dNe_int, dEq_str, dNe_str, dEq_bl, atI_zero, atI_one, atI_2, atI_3, atI_4, atI_5, atI_6, atI_7, atI_8, atI_9, atI_10, atI_11, atI_12, atI_m1, ev_gT, setAll_nil, setAll_cons, iOp_int, ev_gN, ev_ret, List.map_cons, List.map_nil, List.length_cons, List.length_nil, rep_zero, rep_succ, List.cons_append, List.nil_append, List.getElem?_cons_zero, List.getElem?_cons_succ, List.set_cons_zero, List.set_cons_succ, Nat.sub_self, Nat.reduceAdd, Nat.reduceSub, Option.map_some, Option.bind_some, if_true, Bool.not_true, Bool.not_false, Bool.false_eq_true, if_false, decide_true, decide_false, Int.reduceBEq, Int.reduceEq, Int.reduceLT, Int.reduceLE, Int.reduceNeg, Int.reduceAdd, Int.reduceSub, Int.reduceMul, Int.reduceToNat, Nat.reduceLT, Nat.reduceLeDiff, beq_self_eq_true, reduceIte, eq_self, Int.reduceNe, Int.reduceBNe, not_true_eq_false, not_false_eq_true, true_and, and_true, true_or, or_true, false_or, or_false, and_false, false_and, decide_eq_true_eq, Bool.true_and, Bool.and_true, Bool.false_and, Bool.and_false, Bool.true_or, Bool.or_true, Bool.false_or, Bool.or_false, t_dollar, isStr_str, w0, ev_is_wide, h5, hd, h3, hf]
      | true =>
        cases h6 : TL.pre [36] o with
        | false => simp only [fnOf, ev_seq, ev_asg, sBnd_def, ev_op, ev_un, bnd_def, ev_call, evs_cons, evs_nil, ev_var, ev_c, ev_if, ev_next, ev_expr, ev_tru, ev_bl, ev_and, ev_or, ev_not, ev_yes, ev_andE, ev_orE, ev_notE, ev_ifE, ev_chain, ofB_some, ofO_some, ofO_none, truD_non, truD_bl, truD_int, truD_str, truD_tup, truD_lst, truD_lsk, ev_tup, ev_lst, ev_nwF, ev_nwM, ev_meth, ev_make, ev_fld, ev_setF, ev_bm1, asQ_tup, asQ_lst, asQ_lsk, asL_lst, asL_lsk, dLen_tup, dLen_lst, dLen_lsk, dLen_str, dIx_tup, dIx_lst, dIx_lsk, dIx_str, dAdd_int, dNeg_int, isN_def, notN_def, isNon_non, isNon_int, isNon_bl, isNon_str, isNon_tup, isNon_lst, isNon_obj, isNon_exc, dEq_int, dNe_int, dEq_str, dNe_str, dEq_bl, atI_zero, atI_one, atI_2, atI_3, atI_4, atI_5, atI_6, atI_7, atI_8, atI_9, atI_10, atI_11, atI_12, atI_m1, ev_gT, setAll_nil, setAll_cons, iOp_int, ev_gN, ev_ret, List.map_cons, List.map_nil, List.length_cons, List.length_nil, rep_zero, rep_succ, List.cons_append, List.nil_append, List.getElem?_cons_zero, List.getElem?_cons_succ, List.set_cons_zero, List.set_cons_succ, Nat.sub_self, Nat.reduceAdd, Nat.reduceSub, Option.map_some, Option.bind_some, if_true, Bool.not_true, Bool.not_false, Bool.false_eq_true, if_false, decide_true, decide_false, Int.reduceBEq, Int.reduceEq, Int.reduceLT, Int.reduceLE, Int.reduceNeg, Int.reduceAdd, Int.reduceSub, Int.reduceMul, Int.reduceToNat, Nat.reduceLT, Nat.reduceLeDiff, beq_self_eq_true, reduceIte, eq_self, Int.reduceNe, Int.reduceBNe, not_true_eq_false, not_false_eq_true, true_and, and_true, true_or, or_true, false_or, or_false, and_false, false_and, decide_eq_true_eq, Bool.true_and, Bool.and_true, Bool.false_and, Bool.and_false, Bool.true_or, Bool.or_true, Bool.false_or, Bool.or_false, t_dollar, isStr_str, w0, ev_is_wide, h5, hd, h6, h3, hf]
        | true => simp only [fnOf, ev_seq, ev_asg, sBnd_def, ev_op, ev_un, bnd_def, ev_call, evs_cons, evs_nil, ev_var, ev_c, ev_if, ev_next, ev_expr, ev_tru, ev_bl, ev_and, ev_or, ev_not, ev_yes, ev_andE, ev_orE, ev_notE, ev_ifE, ev_chain, ofB_some, ofO_some, ofO_none, truD_non, truD_bl, truD_int, truD_str, truD_tup, truD_lst, truD_lsk, ev_tup, ev_lst, ev_nwF, ev_nwM, ev_meth, ev_make, ev_fld, ev_setF, ev_bm1, asQ_tup, asQ_lst, asQ_lsk, asL_lst, asL_lsk, dLen_tup, dLen_lst, dLen_lsk, dLen_str, dIx_tup, dIx_lst, dIx_lsk, dIx_str, dAdd_int, dNeg_int, isN_def, notN_def, isNon_non, isNon_int, isNon_bl, isNon_str, isNon_tup, isNon_lst, isNon_obj, isNon_exc, dEq_int, dNe_int, dEq_str, dNe_str, dEq_bl, atI_zero, atI_one, atI_2, atI_3, atI_4, atI_5, atI_6, atI_7, atI_8, atI_9, atI_10, atI_11, atI_12, atI_m1, ev_gT, setAll_nil, setAll_cons, iOp_int, ev_gN, ev_ret, List.map_cons, List.map_nil, List.length_cons, List.length_nil, rep_zero, rep_succ, List.cons_append, List.nil_append, List.getElem?_cons_zero, List.getElem?_cons_succ, List.set_cons_zero, List.set_cons_succ, Nat.sub_self, Nat.reduceAdd, Nat.reduceSub, Option.map_some, Option.bind_some, if_true, Bool.not_true, Bool.not_false, Bool.false_eq_true, if_false, decide_true, decide_false, Int.reduceBEq, Int.reduceEq, Int.reduceLT, Int.reduceLE, Int.reduceNeg, Int.reduceAdd, Int.reduceSub, Int.reduceMul, Int.reduceToNat, Nat.reduceLT, Nat.reduceLeDiff, beq_self_eq_true, reduceIte, eq_self, Int.reduceNe, Int.reduceBNe, not_true_eq_false, not_false_eq_true, true_and, and_true, true_or, or_true, false_or, or_false, and_false, false_and, decide_eq_true_eq, Bool.true_and, Bool.and_true, Bool.false_and, Bool.and_false, Bool.true_or, Bool.or_true, Bool.false_or, Bool.or_false, t_dollar, isStr_str, w0, ev_is_wide, h5, hd, h6, h3, hf]
end Tx
namespace Tx
open PySem L2 Pd
/-! ### meeting -/
def pl1 (p : List Nat) : List Nat := if p = [43] then [97] else p
def plainL (ps : List (List Nat)) : List (List Nat) := (ps.filter fun p => !(p == [35])).map pl1
theorem ev_plain_levels (ps : List (List Nat)) (s : Sto) : m_plain_levels [.lst (lvs ps)] s = .ok (.lst (lvs (plainL ps))) s := by
  have lc : lcGo (gN 1) (tBl (eOp dNe (eVar 1) (eC (.str (mkS [35]))))) (eIf (tBl (eOp dEq (eVar 1) (eC (.str (mkS [43]))))) (eC (.str (mkS [97]))) (eVar 1)) (fun _ => True) (lvs ps) [some (.lst (lvs ps)), none] s = .ok ((ps.filter fun p => !(p == [35])).map fun p => .str (mkS (pl1 p))) s := by
    refine lc_filter ?_ fun p _ => ⟨[some (.lst (lvs ps)), some (.str (mkS p))], rfl, ?_, fun _ => ?_⟩
    · trivial
    · simp only [fnOf, ev_seq, ev_asg, sBnd_def, ev_op, ev_un, bnd_def, ev_call, evs_cons, evs_nil, ev_var, ev_c, ev_if, ev_next, ev_expr, ev_tru, ev_bl, ev_and, ev_or, ev_not, ev_yes, ev_andE, ev_orE, ev_notE, ev_ifE, ev_chain, ofB_some, ofO_some, ofO_none, truD_non, truD_bl, truD_int, truD_str, truD_tup, truD_lst, truD_lsk, ev_tup, ev_lst, ev_nwF, ev_nwM, ev_meth, ev_make, ev_fld, ev_setF, ev_bm1, asQ_tup, asQ_lst, asQ_lsk, asL_lst, asL_lsk, dLen_tup, dLen_lst, dLen_lsk, dLen_str, dIx_tup, dIx_lst, dIx_lsk, dIx_str, dAdd_int, dNeg_int, isN_def, notN_def, isNon_non, isNon_int, isNon_bl, isNon_str, isNon_tup, isNon_lst, isNon_obj, isNon_exc, dEq_int, dNe_int, dEq_str, dNe_str, dEq_bl, atI_zero, atI_one, atI_2, atI_3, atI_4, atI_5, atI_6, atI_7, atI_8, atI_9, atI_10, atI_11, atI_12, atI_m1, ev_gT, setAll_nil, setAll_cons, iOp_int, ev_gN, ev_ret, List.map_cons, List.map_nil, List.length_cons, List.length_nil, rep_zero, rep_succ, List.cons_append, List.nil_append, List.getElem?_cons_zero, List.getElem?_cons_succ, List.set_cons_zero, List.set_cons_succ, Nat.sub_self, Nat.reduceAdd, Nat.reduceSub, Option.map_some, Option.bind_some, if_true, Bool.not_true, Bool.not_false, Bool.false_eq_true, if_false, decide_true, decide_false, Int.reduceBEq, Int.reduceEq, Int.reduceLT, Int.reduceLE, Int.reduceNeg, Int.reduceAdd, Int.reduceSub, Int.reduceMul, Int.reduceToNat, Nat.reduceLT, Nat.reduceLeDiff, beq_self_eq_true, reduceIte, eq_self, Int.reduceNe, Int.reduceBNe, not_true_eq_false, not_false_eq_true, true_and, and_true, true_or, or_true, false_or, or_false, and_false, false_and, decide_eq_true_eq, Bool.true_and, Bool.and_true, Bool.false_and, Bool.and_false, Bool.true_or, Bool.or_true, Bool.false_or, Bool.or_false, mkS_beq]
    · by_cases hp : p = [43]
      · have hb : (p == [43]) = true := by simpa using hp
        have h1 : pl1 p = [97] := if_pos hp
        simp only [fnOf, ev_seq, ev_asg, sBnd_def, ev_op, ev_un, bnd_def, ev_call, evs_cons, evs_nil, ev_var, ev_c, ev_if, ev_next, ev_expr, ev_tru, ev_bl, ev_and, ev_or, ev_not, ev_yes, ev_andE, ev_orE, ev_notE, ev_ifE, ev_chain, ofB_some, ofO_some, ofO_none, truD_non, truD_bl, truD_int, truD_str, truD_tup, truD_lst, truD_lsk, ev_tup, ev_lst, ev_nwF, ev_nwM, ev_meth, ev_make, ev_fld, ev_setF, ev_bm1, asQ_tup, asQ_lst, asQ_lsk, asL_lst, asL_lsk, dLen_tup, dLen_lst, dLen_lsk, dLen_str, dIx_tup, dIx_lst, dIx_lsk, dIx_str, dAdd_int, dNeg_int, isN_def, notN_def, isNon_non, isNon_int, isNon_bl, isNon_str, isNon_tup, isNon_lst, isNon_obj, isNon_exc, dEq_int, dNe_int, dEq_str, dNe_str, dEq_bl, atI_zero, atI_one, atI_2, atI_3, atI_4, atI_5, atI_6, atI_7, atI_8, atI_9, atI_10, atI_11, atI_12, atI_m1, ev_gT, setAll_nil, setAll_cons, iOp_int, ev_gN, ev_ret, List.map_cons, List.map_nil, List.length_cons, List.length_nil, rep_zero, rep_succ, List.cons_append, List.nil_append, List.getElem?_cons_zero, List.getElem?_cons_succ, List.set_cons_zero, List.set_cons_succ, Nat.sub_self, Nat.reduceAdd, Nat.reduceSub, Option.map_some, Option.bind_some, if_true, Bool.not_true, Bool.not_false, Bool.false_eq_true, if_false, decide_true, decide_false, Int.reduceBEq, Int.reduceEq, Int.reduceLT, Int.reduceLE, Int.reduceNeg, Int.reduceAdd, Int.reduceSub, Int.reduceMul, Int.reduceToNat, Nat.reduceLT, Nat.reduceLeDiff, beq_self_eq_true, reduceIte, eq_self, Int.reduceNe, Int.reduceBNe, not_true_eq_false, not_false_eq_true, true_and, and_true, true_or, or_true, false_or, or_false, and_false, false_and, decide_eq_true_eq, Bool.true_and, Bool.and_true, Bool.false_and, Bool.and_false, Bool.true_or, Bool.or_true, Bool.false_or, Bool.or_false, mkS_beq, hb, h1]
      · have hb : (p == [43]) = false := by simpa using hp
        have h1 : pl1 p = p := if_neg hp
        simp only [fnOf, ev_seq, ev_asg, sBnd_def, ev_op, ev_un, bnd_def, ev_call, evs_cons, evs_nil, ev_var, ev_c, ev_if, ev_next, ev_expr, ev_tru, ev_bl, ev_and, ev_or, ev_not, ev_yes, ev_andE, ev_orE, ev_notE, ev_ifE, ev_chain, ofB_some, ofO_some, ofO_none, truD_non, truD_bl, truD_int, truD_str, truD_tup, truD_lst, truD_lsk, ev_tup, ev_lst, ev_nwF, ev_nwM, ev_meth, ev_make, ev_fld, ev_setF, ev_bm1, asQ_tup, asQ_lst, asQ_lsk, asL_lst, asL_lsk, dLen_tup, dLen_lst, dLen_lsk, dLen_str, dIx_tup, dIx_lst, dIx_lsk, dIx_str, dAdd_int, dNeg_int, isN_def, notN_def, isNon_non, isNon_int, isNon_bl, isNon_str, isNon_tup, isNon_lst, isNon_obj, isNon_exc, dEq_int, dNe_int, dEq_str, dNe_str, dEq_bl, atI_zero, atI_one, atI_2, atI_3, atI_4, atI_5, atI_6, atI_7, atI_8, atI_9, atI_10, atI_11, atI_12, atI_m1, ev_gT, setAll_nil, setAll_cons, iOp_int, ev_gN, ev_ret, List.map_cons, List.map_nil, List.length_cons, List.length_nil, rep_zero, rep_succ, List.cons_append, List.nil_append, List.getElem?_cons_zero, List.getElem?_cons_succ, List.set_cons_zero, List.set_cons_succ, Nat.sub_self, Nat.reduceAdd, Nat.reduceSub, Option.map_some, Option.bind_some, if_true, Bool.not_true, Bool.not_false, Bool.false_eq_true, if_false, decide_true, decide_false, Int.reduceBEq, Int.reduceEq, Int.reduceLT, Int.reduceLE, Int.reduceNeg, Int.reduceAdd, Int.reduceSub, Int.reduceMul, Int.reduceToNat, Nat.reduceLT, Nat.reduceLeDiff, beq_self_eq_true, reduceIte, eq_self, Int.reduceNe, Int.reduceBNe, not_true_eq_false, not_false_eq_true, true_and, and_true, true_or, or_true, false_or, or_false, and_false, false_and, decide_eq_true_eq, Bool.true_and, Bool.and_true, Bool.false_and, Bool.and_false, Bool.true_or, Bool.or_true, Bool.false_or, Bool.or_false, mkS_beq, hb, h1]
  have e : lvs (plainL ps) = (ps.filter fun p => !(p == [35])).map fun p => .str (mkS (pl1 p)) := by
    unfold plainL lvs
    rw [List.map_map]
    rfl
  unfold m_plain_levels b_plain_levels
  simp only [fnOf, ev_seq, ev_asg, sBnd_def, ev_op, ev_un, bnd_def, ev_call, evs_cons, evs_nil, ev_var, ev_c, ev_if, ev_next, ev_expr, ev_tru, ev_bl, ev_and, ev_or, ev_not, ev_yes, ev_andE, ev_orE, ev_notE, ev_ifE, ev_chain, ofB_some, ofO_some, ofO_none, truD_non, truD_bl, truD_int, truD_str, truD_tup, truD_lst, truD_lsk, ev_tup, ev_lst, ev_nwF, ev_nwM, ev_meth, ev_make, ev_fld, ev_setF, ev_bm1, asQ_tup, asQ_lst, asQ_lsk, asL_lst, asL_lsk, dLen_tup, dLen_lst, dLen_lsk, dLen_str, dIx_tup, dIx_lst, dIx_lsk, dIx_str, dAdd_int, dNeg_int, isN_def, notN_def, isNon_non, isNon_int, isNon_bl, isNon_str, isNon_tup, isNon_lst, isNon_obj, isNon_exc, dEq_int, dNe_int, dEq_str, dNe_str, dEq_bl, atI_zero, atI_one, atI_2, atI_3, atI_4, atI_5, atI_6, atI_7, atI_8, atI_9, atI_10, atI_11, atI_12, atI_m1, ev_gT, setAll_nil, setAll_cons, iOp_int, ev_gN, ev_ret, List.map_cons, List.map_nil, List.length_cons, List.length_nil, rep_zero, rep_succ, List.cons_append, List.nil_append, List.getElem?_cons_zero, List.getElem?_cons_succ, List.set_cons_zero, List.set_cons_succ, Nat.sub_self, Nat.reduceAdd, Nat.reduceSub, Option.map_some, Option.bind_some, if_true, Bool.not_true, Bool.not_false, Bool.false_eq_true, if_false, decide_true, decide_false, Int.reduceBEq, Int.reduceEq, Int.reduceLT, Int.reduceLE, Int.reduceNeg, Int.reduceAdd, Int.reduceSub, Int.reduceMul, Int.reduceToNat, Nat.reduceLT, Nat.reduceLeDiff, beq_self_eq_true, reduceIte, eq_self, Int.reduceNe, Int.reduceBNe, not_true_eq_false, not_false_eq_true, true_and, and_true, true_or, or_true, false_or, or_false, and_false, false_and, decide_eq_true_eq, Bool.true_and, Bool.and_true, Bool.false_and, Bool.and_false, Bool.true_or, Bool.or_true, Bool.false_or, Bool.or_false, t_hash, t_plus, t_a, ev_lc, ev_iSeq, wipeD_nil, wipeD_cons, bndN, lc, e]
def bothL : List (List Nat) → List (List Nat) → Option (List (List Nat))
  | [], [] => some []
  | [], o :: _ => if o = [35] then some [] else none
  | p :: ps, [] => if p = [35] then some (plainL []) else none
  | p :: ps, o :: os => if p = [35] then some (plainL (o :: os)) else if o = [35] then some (plainL (p :: ps)) else if p ≠ o ∧ p ≠ [43] ∧ o ≠ [43] then none else (bothL ps os).map fun r => pl1 (if p = [43] then o else p) :: r
theorem bothL_hash {p : List Nat} (hp : p = [35]) (ps qs : List (List Nat)) : bothL (p :: ps) qs = some (plainL qs) := by
  cases qs with
  | nil => rw [bothL, if_pos hp]
  | cons q qs => rw [bothL, if_pos hp]
def optL : Option (List (List Nat)) → Dt
  | none => .non
  | some l => .lst (lvs l)
theorem plainL_len (ps : List (List Nat)) : (plainL ps).length ≤ ps.length := by
  unfold plainL
  rw [List.length_map]
  exact List.length_filter_le _ _
theorem both_len : ∀ {ps os f : List (List Nat)}, bothL ps os = some f → f.length ≤ ps.length + os.length
  | [], [], f, h => by simp only [bothL, Option.some.injEq] at h; subst h; simp
  | [], o :: os, f, h => by
    simp only [bothL] at h
    split at h
    · cases h; simp
    · cases h
  | p :: ps, [], f, h => by
    rw [bothL] at h
    split at h
    · cases h
      have := plainL_len []
      omega
    · cases h
  | p :: ps, o :: os, f, h => by
    rw [bothL] at h
    split at h
    · cases h
      have := plainL_len (o :: os)
      omega
    · split at h
      · cases h
        have := plainL_len (p :: ps)
        omega
      · split at h
        · cases h
        · obtain ⟨r, h1, h2⟩ := Option.map_eq_some_iff.mp h
          have := both_len h1
          rw [← h2]
          simp
          omega
theorem truD_lvs (ps : List (List Nat)) (s : Sto) : truD s (.lst (lvs ps)) = some (!ps.isEmpty) := by cases ps <;> rfl
theorem ev_both_levels (s : Sto) : ∀ (n : Nat) (ps qs : List (List Nat)), ps.length < n → ps.length + qs.length ≤ 1000 → r_both_levels n [.lst (lvs ps), .lst (lvs qs)] s = .ok (optL (bothL ps qs)) s
  | 0, ps, qs, h, _ => absurd h (Nat.not_lt_zero _)
  | n + 1, [], qs, h, hb => by
    unfold r_both_levels b_both_levels
    have c : cutD ([] : List Dt) none (some 1) = [] := rfl
    have pe : m_plain_levels [.lst []] s = .ok (.lst []) s := ev_plain_levels [] s
    cases qs with
    | nil =>
      simp only [fnOf, ev_seq, ev_asg, sBnd_def, ev_op, ev_un, bnd_def, ev_call, evs_cons, evs_nil, ev_var, ev_c, ev_if, ev_next, ev_expr, ev_tru, ev_bl, ev_and, ev_or, ev_not, ev_yes, ev_andE, ev_orE, ev_notE, ev_ifE, ev_chain, ofB_some, ofO_some, ofO_none, truD_non, truD_bl, truD_int, truD_str, truD_tup, truD_lst, truD_lsk, ev_tup, ev_lst, ev_nwF, ev_nwM, ev_meth, ev_make, ev_fld, ev_setF, ev_bm1, asQ_tup, asQ_lst, asQ_lsk, asL_lst, asL_lsk, dLen_tup, dLen_lst, dLen_lsk, dLen_str, dIx_tup, dIx_lst, dIx_lsk, dIx_str, dAdd_int, dNeg_int, isN_def, notN_def, isNon_non, isNon_int, isNon_bl, isNon_str, isNon_tup, isNon_lst, isNon_obj, isNon_exc, dEq_int, dNe_int, dEq_str, dNe_str, dEq_bl, atI_zero, atI_one, atI_2, atI_3, atI_4, atI_5, atI_6, atI_7, atI_8, atI_9, atI_10, atI_11, atI_12, atI_m1, ev_gT, setAll_nil, setAll_cons, iOp_int, ev_gN, ev_ret, List.map_cons, List.map_nil, List.length_cons, List.length_nil, rep_zero, rep_succ, List.cons_append, List.nil_append, List.getElem?_cons_zero, List.getElem?_cons_succ, List.set_cons_zero, List.set_cons_succ, Nat.sub_self, Nat.reduceAdd, Nat.reduceSub, Option.map_some, Option.bind_some, if_true, Bool.not_true, Bool.not_false, Bool.false_eq_true, if_false, decide_true, decide_false, Int.reduceBEq, Int.reduceEq, Int.reduceLT, Int.reduceLE, Int.reduceNeg, Int.reduceAdd, Int.reduceSub, Int.reduceMul, Int.reduceToNat, Nat.reduceLT, Nat.reduceLeDiff, beq_self_eq_true, reduceIte, eq_self, Int.reduceNe, Int.reduceBNe, not_true_eq_false, not_false_eq_true, true_and, and_true, true_or, or_true, false_or, or_false, and_false, false_and, decide_eq_true_eq, Bool.true_and, Bool.and_true, Bool.false_and, Bool.and_false, Bool.true_or, Bool.or_true, Bool.false_or, Bool.or_false, t_hash, u_both_levels_1, u_both_levels_2, u_both_levels_3, ev_sl, evp_none, evp_some, dSl_lst, c, dEq_nil1, List.isEmpty_nil]
      rfl
    | cons q qs =>
      have c1 : cutD (Dt.str (mkS q) :: lvs qs) none (some 1) = [Dt.str (mkS q)] := by rw [cut_one]; rfl
      by_cases hq : q = [35]
      · have hqb : (q == [35]) = true := by simpa using hq
        have hf : bothL [] (q :: qs) = some [] := by simp only [bothL, if_pos hq]
        simp only [fnOf, ev_seq, ev_asg, sBnd_def, ev_op, ev_un, bnd_def, ev_call, evs_cons, evs_nil, ev_var, ev_c, ev_if, ev_next, ev_expr, ev_tru, ev_bl, ev_and, ev_or, ev_not, ev_yes, ev_andE, ev_orE, ev_notE, ev_ifE, ev_chain, ofB_some, ofO_some, ofO_none, truD_non, truD_bl, truD_int, truD_str, truD_tup, truD_lst, truD_lsk, ev_tup, ev_lst, ev_nwF, ev_nwM, ev_meth, ev_make, ev_fld, ev_setF, ev_bm1, asQ_tup, asQ_lst, asQ_lsk, asL_lst, asL_lsk, dLen_tup, dLen_lst, dLen_lsk, dLen_str, dIx_tup, dIx_lst, dIx_lsk, dIx_str, dAdd_int, dNeg_int, isN_def, notN_def, isNon_non, isNon_int, isNon_bl, isNon_str, isNon_tup, isNon_lst, isNon_obj, isNon_exc, dEq_int, dNe_int, dEq_str, dNe_str, dEq_bl, atI_zero, atI_one, atI_2, atI_3, atI_4, atI_5, atI_6, atI_7, atI_8, atI_9, atI_10, atI_11, atI_12, atI_m1, ev_gT, setAll_nil, setAll_cons, iOp_int, ev_gN, ev_ret, List.map_cons, List.map_nil, List.length_cons, List.length_nil, rep_zero, rep_succ, List.cons_append, List.nil_append, List.getElem?_cons_zero, List.getElem?_cons_succ, List.set_cons_zero, List.set_cons_succ, Nat.sub_self, Nat.reduceAdd, Nat.reduceSub, Option.map_some, Option.bind_some, if_true, Bool.not_true, Bool.not_false, Bool.false_eq_true, if_false, decide_true, decide_false, Int.reduceBEq, Int.reduceEq, Int.reduceLT, Int.reduceLE, Int.reduceNeg, Int.reduceAdd, Int.reduceSub, Int.reduceMul, Int.reduceToNat, Nat.reduceLT, Nat.reduceLeDiff, beq_self_eq_true, reduceIte, eq_self, Int.reduceNe, Int.reduceBNe, not_true_eq_false, not_false_eq_true, true_and, and_true, true_or, or_true, false_or, or_false, and_false, false_and, decide_eq_true_eq, Bool.true_and, Bool.and_true, Bool.false_and, Bool.and_false, Bool.true_or, Bool.or_true, Bool.false_or, Bool.or_false, t_hash, u_both_levels_1, u_both_levels_2, u_both_levels_3, ev_sl, evp_none, evp_some, dSl_lst, c, c1, dEq_nil1, dEq_lst1, hqb, pe, hf, optL]
      · have hqb : (q == [35]) = false := by simpa using hq
        have hf : bothL [] (q :: qs) = none := by simp only [bothL, if_neg hq]
        simp only [fnOf, ev_seq, ev_asg, sBnd_def, ev_op, ev_un, bnd_def, ev_call, evs_cons, evs_nil, ev_var, ev_c, ev_if, ev_next, ev_expr, ev_tru, ev_bl, ev_and, ev_or, ev_not, ev_yes, ev_andE, ev_orE, ev_notE, ev_ifE, ev_chain, ofB_some, ofO_some, ofO_none, truD_non, truD_bl, truD_int, truD_str, truD_tup, truD_lst, truD_lsk, ev_tup, ev_lst, ev_nwF, ev_nwM, ev_meth, ev_make, ev_fld, ev_setF, ev_bm1, asQ_tup, asQ_lst, asQ_lsk, asL_lst, asL_lsk, dLen_tup, dLen_lst, dLen_lsk, dLen_str, dIx_tup, dIx_lst, dIx_lsk, dIx_str, dAdd_int, dNeg_int, isN_def, notN_def, isNon_non, isNon_int, isNon_bl, isNon_str, isNon_tup, isNon_lst, isNon_obj, isNon_exc, dEq_int, dNe_int, dEq_str, dNe_str, dEq_bl, atI_zero, atI_one, atI_2, atI_3, atI_4, atI_5, atI_6, atI_7, atI_8, atI_9, atI_10, atI_11, atI_12, atI_m1, ev_gT, setAll_nil, setAll_cons, iOp_int, ev_gN, ev_ret, List.map_cons, List.map_nil, List.length_cons, List.length_nil, rep_zero, rep_succ, List.cons_append, List.nil_append, List.getElem?_cons_zero, List.getElem?_cons_succ, List.set_cons_zero, List.set_cons_succ, Nat.sub_self, Nat.reduceAdd, Nat.reduceSub, Option.map_some, Option.bind_some, if_true, Bool.not_true, Bool.not_false, Bool.false_eq_true, if_false, decide_true, decide_false, Int.reduceBEq, Int.reduceEq, Int.reduceLT, Int.reduceLE, Int.reduceNeg, Int.reduceAdd, Int.reduceSub, Int.reduceMul, Int.reduceToNat, Nat.reduceLT, Nat.reduceLeDiff, beq_self_eq_true, reduceIte, eq_self, Int.reduceNe, Int.reduceBNe, not_true_eq_false, not_false_eq_true, true_and, and_true, true_or, or_true, false_or, or_false, and_false, false_and, decide_eq_true_eq, Bool.true_and, Bool.and_true, Bool.false_and, Bool.and_false, Bool.true_or, Bool.or_true, Bool.false_or, Bool.or_false, t_hash, u_both_levels_1, u_both_levels_2, u_both_levels_3, ev_sl, evp_none, evp_some, dSl_lst, c, c1, dEq_nil1, dEq_lst1, hqb, hf, optL, List.isEmpty_nil, List.isEmpty_cons]
  | n + 1, p :: ps, qs, h, hb => by
    have hn : ps.length < n := by simpa using h
    have c : cutD (Dt.str (mkS p) :: lvs ps) none (some 1) = [Dt.str (mkS p)] := by rw [cut_one]; rfl
    have c2 : cutD (Dt.str (mkS p) :: lvs ps) (some 1) none = lvs ps := cut_tail _ _
    unfold r_both_levels b_both_levels
    by_cases hp : p = [35]
    · have hpb : (p == [35]) = true := by simpa using hp
      have hf : bothL (p :: ps) qs = some (plainL qs) := bothL_hash hp ps qs
      have pe := ev_plain_levels qs s
      simp only [fnOf, ev_seq, ev_asg, sBnd_def, ev_op, ev_un, bnd_def, ev_call, evs_cons, evs_nil, ev_var, ev_c, ev_if, ev_next, ev_expr, ev_tru, ev_bl, ev_and, ev_or, ev_not, ev_yes, ev_andE, ev_orE, ev_notE, ev_ifE, ev_chain, ofB_some, ofO_some, ofO_none, truD_non, truD_bl, truD_int, truD_str, truD_tup, truD_lst, truD_lsk, ev_tup, ev_lst, ev_nwF, ev_nwM, ev_meth, ev_make, ev_fld, ev_setF, ev_bm1, asQ_tup, asQ_lst, asQ_lsk, asL_lst, asL_lsk, dLen_tup, dLen_lst, dLen_lsk, dLen_str, dIx_tup, dIx_lst, dIx_lsk, dIx_str, dAdd_int, dNeg_int, isN_def, notN_def, isNon_non, isNon_int, isNon_bl, isNon_str, isNon_tup, isNon_lst, isNon_obj, isNon_exc, dEq_int, dNe_int, dEq_str, dNe_str, dEq_bl, atI_zero, atI_one, atI_2, atI_3, atI_4, atI_5, atI_6, atI_7, atI_8, atI_9, atI_10, atI_11, atI_12, atI_m1, ev_gT, setAll_nil, setAll_cons, iOp_int, ev_gN, ev_ret, List.map_cons, List.map_nil, List.length_cons, List.length_nil, rep_zero, rep_succ, List.cons_append, List.nil_append, List.getElem?_cons_zero, List.getElem?_cons_succ, List.set_cons_zero, List.set_cons_succ, Nat.sub_self, Nat.reduceAdd, Nat.reduceSub, Option.map_some, Option.bind_some, if_true, Bool.not_true, Bool.not_false, Bool.false_eq_true, if_false, decide_true, decide_false, Int.reduceBEq, Int.reduceEq, Int.reduceLT, Int.reduceLE, Int.reduceNeg, Int.reduceAdd, Int.reduceSub, Int.reduceMul, Int.reduceToNat, Nat.reduceLT, Nat.reduceLeDiff, beq_self_eq_true, reduceIte, eq_self, Int.reduceNe, Int.reduceBNe, not_true_eq_false, not_false_eq_true, true_and, and_true, true_or, or_true, false_or, or_false, and_false, false_and, decide_eq_true_eq, Bool.true_and, Bool.and_true, Bool.false_and, Bool.and_false, Bool.true_or, Bool.or_true, Bool.false_or, Bool.or_false, t_hash, u_both_levels_1, ev_sl, evp_none, evp_some, dSl_lst, c, dEq_lst1, hpb, pe, hf, optL]
    · have hpb : (p == [35]) = false := by simpa using hp
      cases qs with
      | nil =>
        have hf : bothL (p :: ps) [] = none := by rw [bothL, if_neg hp]
        have c0 : cutD ([] : List Dt) none (some 1) = [] := rfl
        simp only [fnOf, ev_seq, ev_asg, sBnd_def, ev_op, ev_un, bnd_def, ev_call, evs_cons, evs_nil, ev_var, ev_c, ev_if, ev_next, ev_expr, ev_tru, ev_bl, ev_and, ev_or, ev_not, ev_yes, ev_andE, ev_orE, ev_notE, ev_ifE, ev_chain, ofB_some, ofO_some, ofO_none, truD_non, truD_bl, truD_int, truD_str, truD_tup, truD_lst, truD_lsk, ev_tup, ev_lst, ev_nwF, ev_nwM, ev_meth, ev_make, ev_fld, ev_setF, ev_bm1, asQ_tup, asQ_lst, asQ_lsk, asL_lst, asL_lsk, dLen_tup, dLen_lst, dLen_lsk, dLen_str, dIx_tup, dIx_lst, dIx_lsk, dIx_str, dAdd_int, dNeg_int, isN_def, notN_def, isNon_non, isNon_int, isNon_bl, isNon_str, isNon_tup, isNon_lst, isNon_obj, isNon_exc, dEq_int, dNe_int, dEq_str, dNe_str, dEq_bl, atI_zero, atI_one, atI_2, atI_3, atI_4, atI_5, atI_6, atI_7, atI_8, atI_9, atI_10, atI_11, atI_12, atI_m1, ev_gT, setAll_nil, setAll_cons, iOp_int, ev_gN, ev_ret, List.map_cons, List.map_nil, List.length_cons, List.length_nil, rep_zero, rep_succ, List.cons_append, List.nil_append, List.getElem?_cons_zero, List.getElem?_cons_succ, List.set_cons_zero, List.set_cons_succ, Nat.sub_self, Nat.reduceAdd, Nat.reduceSub, Option.map_some, Option.bind_some, if_true, Bool.not_true, Bool.not_false, Bool.false_eq_true, if_false, decide_true, decide_false, Int.reduceBEq, Int.reduceEq, Int.reduceLT, Int.reduceLE, Int.reduceNeg, Int.reduceAdd, Int.reduceSub, Int.reduceMul, Int.reduceToNat, Nat.reduceLT, Nat.reduceLeDiff, beq_self_eq_true, reduceIte, eq_self, Int.reduceNe, Int.reduceBNe, not_true_eq_false, not_false_eq_true, true_and, and_true, true_or, or_true, false_or, or_false, and_false, false_and, decide_eq_true_eq, Bool.true_and, Bool.and_true, Bool.false_and, Bool.and_false, Bool.true_or, Bool.or_true, Bool.false_or, Bool.or_false, t_hash, u_both_levels_1, u_both_levels_2, u_both_levels_3, ev_sl, evp_none, evp_some, dSl_lst, c, c0, dEq_nil1, dEq_lst1, hpb, hf, optL, List.isEmpty_nil, List.isEmpty_cons]
      | cons q qs =>
        have c1 : cutD (Dt.str (mkS q) :: lvs qs) none (some 1) = [Dt.str (mkS q)] := by rw [cut_one]; rfl
        have c3 : cutD (Dt.str (mkS q) :: lvs qs) (some 1) none = lvs qs := cut_tail _ _
        by_cases hq : q = [35]
        · have hqb : (q == [35]) = true := by simpa using hq
          have hf : bothL (p :: ps) (q :: qs) = some (plainL (p :: ps)) := by rw [bothL, if_neg hp, if_pos hq]
          have pe := ev_plain_levels (p :: ps) s
          simp only [lvs, List.map_cons] at pe
          simp only [fnOf, ev_seq, ev_asg, sBnd_def, ev_op, ev_un, bnd_def, ev_call, evs_cons, evs_nil, ev_var, ev_c, ev_if, ev_next, ev_expr, ev_tru, ev_bl, ev_and, ev_or, ev_not, ev_yes, ev_andE, ev_orE, ev_notE, ev_ifE, ev_chain, ofB_some, ofO_some, ofO_none, truD_non, truD_bl, truD_int, truD_str, truD_tup, truD_lst, truD_lsk, ev_tup, ev_lst, ev_nwF, ev_nwM, ev_meth, ev_make, ev_fld, ev_setF, ev_bm1, asQ_tup, asQ_lst, asQ_lsk, asL_lst, asL_lsk, dLen_tup, dLen_lst, dLen_lsk, dLen_str, dIx_tup, dIx_lst, dIx_lsk, dIx_str, dAdd_int, dNeg_int, isN_def, notN_def, isNon_non, isNon_int, isNon_bl, isNon_str, isNon_tup, isNon_lst, isNon_obj, isNon_exc, dEq_int, dNe_int, dEq_str, dNe_str, dEq_bl, atI_zero, atI_one, atI_2, atI_3, atI_4, atI_5, atI_6, atI_7, atI_8, atI_9, atI_10, atI_11, atI_12, atI_m1, ev_gT, setAll_nil, setAll_cons, iOp_int, ev_gN, ev_ret, List.map_cons, List.map_nil, List.length_cons, List.length_nil, rep_zero, rep_succ, List.cons_append, List.nil_append, List.getElem?_cons_zero, List.getElem?_cons_succ, List.set_cons_zero, List.set_cons_succ, Nat.sub_self, Nat.reduceAdd, Nat.reduceSub, Option.map_some, Option.bind_some, if_true, Bool.not_true, Bool.not_false, Bool.false_eq_true, if_false, decide_true, decide_false, Int.reduceBEq, Int.reduceEq, Int.reduceLT, Int.reduceLE, Int.reduceNeg, Int.reduceAdd, Int.reduceSub, Int.reduceMul, Int.reduceToNat, Nat.reduceLT, Nat.reduceLeDiff, beq_self_eq_true, reduceIte, eq_self, Int.reduceNe, Int.reduceBNe, not_true_eq_false, not_false_eq_true, true_and, and_true, true_or, or_true, false_or, or_false, and_false, false_and, decide_eq_true_eq, Bool.true_and, Bool.and_true, Bool.false_and, Bool.and_false, Bool.true_or, Bool.or_true, Bool.false_or, Bool.or_false, t_hash, u_both_levels_1, u_both_levels_2, ev_sl, evp_none, evp_some, dSl_lst, c, c1, dEq_lst1, hpb, hqb, pe, hf, optL]
        · have hqb : (q == [35]) = false := by simpa using hq
          by_cases hh : p ≠ q ∧ p ≠ [43] ∧ q ≠ [43]
          · have hf : bothL (p :: ps) (q :: qs) = none := by rw [bothL, if_neg hp, if_neg hq, if_pos hh]
            have b1 : (p == q) = false := by simpa using hh.1
            have b2 : (p == [43] || q == [43]) = false := by simp [hh.2.1, hh.2.2]
            simp only [fnOf, ev_seq, ev_asg, sBnd_def, ev_op, ev_un, bnd_def, ev_call, evs_cons, evs_nil, ev_var, ev_c, ev_if, ev_next, ev_expr, ev_tru, ev_bl, ev_and, ev_or, ev_not, ev_yes, ev_andE, ev_orE, ev_notE, ev_ifE, ev_chain, ofB_some, ofO_some, ofO_none, truD_non, truD_bl, truD_int, truD_str, truD_tup, truD_lst, truD_lsk, ev_tup, ev_lst, ev_nwF, ev_nwM, ev_meth, ev_make, ev_fld, ev_setF, ev_bm1, asQ_tup, asQ_lst, asQ_lsk, asL_lst, asL_lsk, dLen_tup, dLen_lst, dLen_lsk, dLen_str, dIx_tup, dIx_lst, dIx_lsk, dIx_str, dAdd_int, dNeg_int, isN_def, notN_def, isNon_non, isNon_int, isNon_bl, isNon_str, isNon_tup, isNon_lst, isNon_obj, isNon_exc, dEq_int, dNe_int, dEq_str, dNe_str, dEq_bl, atI_zero, atI_one, atI_2, atI_3, atI_4, atI_5, atI_6, atI_7, atI_8, atI_9, atI_10, atI_11, atI_12, atI_m1, ev_gT, setAll_nil, setAll_cons, iOp_int, ev_gN, ev_ret, List.map_cons, List.map_nil, List.length_cons, List.length_nil, rep_zero, rep_succ, List.cons_append, List.nil_append, List.getElem?_cons_zero, List.getElem?_cons_succ, List.set_cons_zero, List.set_cons_succ, Nat.sub_self, Nat.reduceAdd, Nat.reduceSub, Option.map_some, Option.bind_some, if_true, Bool.not_true, Bool.not_false, Bool.false_eq_true, if_false, decide_true, decide_false, Int.reduceBEq, Int.reduceEq, Int.reduceLT, Int.reduceLE, Int.reduceNeg, Int.reduceAdd, Int.reduceSub, Int.reduceMul, Int.reduceToNat, Nat.reduceLT, Nat.reduceLeDiff, beq_self_eq_true, reduceIte, eq_self, Int.reduceNe, Int.reduceBNe, not_true_eq_false, not_false_eq_true, true_and, and_true, true_or, or_true, false_or, or_false, and_false, false_and, decide_eq_true_eq, Bool.true_and, Bool.and_true, Bool.false_and, Bool.and_false, Bool.true_or, Bool.or_true, Bool.false_or, Bool.or_false, t_hash, t_plus, u_both_levels_1, u_both_levels_2, u_both_levels_3, u_both_levels_4, ev_sl, evp_none, evp_some, dSl_lst, c, c1, dEq_lst1, hpb, hqb, List.isEmpty_cons, mkS_beq, b1, dNotIn_two, b2, hf, optL]
          · have ih := ev_both_levels s n ps qs hn (by simp at hb; omega)
            have e4 : u_both_levels_4 (r_both_levels n) [some (.lst (Dt.str (mkS p) :: lvs ps)), some (.lst (Dt.str (mkS q) :: lvs qs)), none, none] s = .fl (.nx [some (.lst (Dt.str (mkS p) :: lvs ps)), some (.lst (Dt.str (mkS q) :: lvs qs)), none, none]) s := by
              unfold u_both_levels_4
              by_cases h1 : p = q
              · have b1 : (p == q) = true := by simpa using h1
                simp only [fnOf, ev_seq, ev_asg, sBnd_def, ev_op, ev_un, bnd_def, ev_call, evs_cons, evs_nil, ev_var, ev_c, ev_if, ev_next, ev_expr, ev_tru, ev_bl, ev_and, ev_or, ev_not, ev_yes, ev_andE, ev_orE, ev_notE, ev_ifE, ev_chain, ofB_some, ofO_some, ofO_none, truD_non, truD_bl, truD_int, truD_str, truD_tup, truD_lst, truD_lsk, ev_tup, ev_lst, ev_nwF, ev_nwM, ev_meth, ev_make, ev_fld, ev_setF, ev_bm1, asQ_tup, asQ_lst, asQ_lsk, asL_lst, asL_lsk, dLen_tup, dLen_lst, dLen_lsk, dLen_str, dIx_tup, dIx_lst, dIx_lsk, dIx_str, dAdd_int, dNeg_int, isN_def, notN_def, isNon_non, isNon_int, isNon_bl, isNon_str, isNon_tup, isNon_lst, isNon_obj, isNon_exc, dEq_int, dNe_int, dEq_str, dNe_str, dEq_bl, atI_zero, atI_one, atI_2, atI_3, atI_4, atI_5, atI_6, atI_7, atI_8, atI_9, atI_10, atI_11, atI_12, atI_m1, ev_gT, setAll_nil, setAll_cons, iOp_int, ev_gN, ev_ret, List.map_cons, List.map_nil, List.length_cons, List.length_nil, rep_zero, rep_succ, List.cons_append, List.nil_append, List.getElem?_cons_zero, List.getElem?_cons_succ, List.set_cons_zero, List.set_cons_succ, Nat.sub_self, Nat.reduceAdd, Nat.reduceSub, Option.map_some, Option.bind_some, if_true, Bool.not_true, Bool.not_false, Bool.false_eq_true, if_false, decide_true, decide_false, Int.reduceBEq, Int.reduceEq, Int.reduceLT, Int.reduceLE, Int.reduceNeg, Int.reduceAdd, Int.reduceSub, Int.reduceMul, Int.reduceToNat, Nat.reduceLT, Nat.reduceLeDiff, beq_self_eq_true, reduceIte, eq_self, Int.reduceNe, Int.reduceBNe, not_true_eq_false, not_false_eq_true, true_and, and_true, true_or, or_true, false_or, or_false, and_false, false_and, decide_eq_true_eq, Bool.true_and, Bool.and_true, Bool.false_and, Bool.and_false, Bool.true_or, Bool.or_true, Bool.false_or, Bool.or_false, mkS_beq, b1]
              · have b1 : (p == q) = false := by simpa using h1
                have b2 : (p == [43] || q == [43]) = true := by
                  by_cases h2 : p = [43]
                  · simp [h2]
                  · by_cases h3 : q = [43]
                    · simp [h3]
                    · exact absurd ⟨h1, h2, h3⟩ hh
                simp only [fnOf, ev_seq, ev_asg, sBnd_def, ev_op, ev_un, bnd_def, ev_call, evs_cons, evs_nil, ev_var, ev_c, ev_if, ev_next, ev_expr, ev_tru, ev_bl, ev_and, ev_or, ev_not, ev_yes, ev_andE, ev_orE, ev_notE, ev_ifE, ev_chain, ofB_some, ofO_some, ofO_none, truD_non, truD_bl, truD_int, truD_str, truD_tup, truD_lst, truD_lsk, ev_tup, ev_lst, ev_nwF, ev_nwM, ev_meth, ev_make, ev_fld, ev_setF, ev_bm1, asQ_tup, asQ_lst, asQ_lsk, asL_lst, asL_lsk, dLen_tup, dLen_lst, dLen_lsk, dLen_str, dIx_tup, dIx_lst, dIx_lsk, dIx_str, dAdd_int, dNeg_int, isN_def, notN_def, isNon_non, isNon_int, isNon_bl, isNon_str, isNon_tup, isNon_lst, isNon_obj, isNon_exc, dEq_int, dNe_int, dEq_str, dNe_str, dEq_bl, atI_zero, atI_one, atI_2, atI_3, atI_4, atI_5, atI_6, atI_7, atI_8, atI_9, atI_10, atI_11, atI_12, atI_m1, ev_gT, setAll_nil, setAll_cons, iOp_int, ev_gN, ev_ret, List.map_cons, List.map_nil, List.length_cons, List.length_nil, rep_zero, rep_succ, List.cons_append, List.nil_append, List.getElem?_cons_zero, List.getElem?_cons_succ, List.set_cons_zero, List.set_cons_succ, Nat.sub_self, Nat.reduceAdd, Nat.reduceSub, Option.map_some, Option.bind_some, if_true, Bool.not_true, Bool.not_false, Bool.false_eq_true, if_false, decide_true, decide_false, Int.reduceBEq, Int.reduceEq, Int.reduceLT, Int.reduceLE, Int.reduceNeg, Int.reduceAdd, Int.reduceSub, Int.reduceMul, Int.reduceToNat, Nat.reduceLT, Nat.reduceLeDiff, beq_self_eq_true, reduceIte, eq_self, Int.reduceNe, Int.reduceBNe, not_true_eq_false, not_false_eq_true, true_and, and_true, true_or, or_true, false_or, or_false, and_false, false_and, decide_eq_true_eq, Bool.true_and, Bool.and_true, Bool.false_and, Bool.and_false, Bool.true_or, Bool.or_true, Bool.false_or, Bool.or_false, t_plus, mkS_beq, b1, dNotIn_two, b2]
            generalize hlev : (if p = [43] then q else p) = lev
            have e5 : u_both_levels_5 (r_both_levels n) [some (.lst (Dt.str (mkS p) :: lvs ps)), some (.lst (Dt.str (mkS q) :: lvs qs)), none, none] s = .fl (.nx [some (.lst (Dt.str (mkS p) :: lvs ps)), some (.lst (Dt.str (mkS q) :: lvs qs)), some (.str (mkS lev)), none]) s := by
              unfold u_both_levels_5
              by_cases h1 : p = [43]
              · have b1 : (p == [43]) = true := by simpa using h1
                rw [if_pos h1] at hlev
                rw [← hlev]
                simp only [fnOf, ev_seq, ev_asg, sBnd_def, ev_op, ev_un, bnd_def, ev_call, evs_cons, evs_nil, ev_var, ev_c, ev_if, ev_next, ev_expr, ev_tru, ev_bl, ev_and, ev_or, ev_not, ev_yes, ev_andE, ev_orE, ev_notE, ev_ifE, ev_chain, ofB_some, ofO_some, ofO_none, truD_non, truD_bl, truD_int, truD_str, truD_tup, truD_lst, truD_lsk, ev_tup, ev_lst, ev_nwF, ev_nwM, ev_meth, ev_make, ev_fld, ev_setF, ev_bm1, asQ_tup, asQ_lst, asQ_lsk, asL_lst, asL_lsk, dLen_tup, dLen_lst, dLen_lsk, dLen_str, dIx_tup, dIx_lst, dIx_lsk, dIx_str, dAdd_int, dNeg_int, isN_def, notN_def, isNon_non, isNon_int, isNon_bl, isNon_str, isNon_tup, isNon_lst, isNon_obj, isNon_exc, dEq_int, dNe_int, dEq_str, dNe_str, dEq_bl, atI_zero, atI_one, atI_2, atI_3, atI_4, atI_5, atI_6, atI_7, atI_8, atI_9, atI_10, atI_11, atI_12, atI_m1, ev_gT, setAll_nil, setAll_cons, iOp_int, ev_gN, ev_ret, List.map_cons, List.map_nil, List.length_cons, List.length_nil, rep_zero, rep_succ, List.cons_append, List.nil_append, List.getElem?_cons_zero, List.getElem?_cons_succ, List.set_cons_zero, List.set_cons_succ, Nat.sub_self, Nat.reduceAdd, Nat.reduceSub, Option.map_some, Option.bind_some, if_true, Bool.not_true, Bool.not_false, Bool.false_eq_true, if_false, decide_true, decide_false, Int.reduceBEq, Int.reduceEq, Int.reduceLT, Int.reduceLE, Int.reduceNeg, Int.reduceAdd, Int.reduceSub, Int.reduceMul, Int.reduceToNat, Nat.reduceLT, Nat.reduceLeDiff, beq_self_eq_true, reduceIte, eq_self, Int.reduceNe, Int.reduceBNe, not_true_eq_false, not_false_eq_true, true_and, and_true, true_or, or_true, false_or, or_false, and_false, false_and, decide_eq_true_eq, Bool.true_and, Bool.and_true, Bool.false_and, Bool.and_false, Bool.true_or, Bool.or_true, Bool.false_or, Bool.or_false, t_plus, mkS_beq, b1]
              · have b1 : (p == [43]) = false := by simpa using h1
                rw [if_neg h1] at hlev
                rw [← hlev]
                simp only [fnOf, ev_seq, ev_asg, sBnd_def, ev_op, ev_un, bnd_def, ev_call, evs_cons, evs_nil, ev_var, ev_c, ev_if, ev_next, ev_expr, ev_tru, ev_bl, ev_and, ev_or, ev_not, ev_yes, ev_andE, ev_orE, ev_notE, ev_ifE, ev_chain, ofB_some, ofO_some, ofO_none, truD_non, truD_bl, truD_int, truD_str, truD_tup, truD_lst, truD_lsk, ev_tup, ev_lst, ev_nwF, ev_nwM, ev_meth, ev_make, ev_fld, ev_setF, ev_bm1, asQ_tup, asQ_lst, asQ_lsk, asL_lst, asL_lsk, dLen_tup, dLen_lst, dLen_lsk, dLen_str, dIx_tup, dIx_lst, dIx_lsk, dIx_str, dAdd_int, dNeg_int, isN_def, notN_def, isNon_non, isNon_int, isNon_bl, isNon_str, isNon_tup, isNon_lst, isNon_obj, isNon_exc, dEq_int, dNe_int, dEq_str, dNe_str, dEq_bl, atI_zero, atI_one, atI_2, atI_3, atI_4, atI_5, atI_6, atI_7, atI_8, atI_9, atI_10, atI_11, atI_12, atI_m1, ev_gT, setAll_nil, setAll_cons, iOp_int, ev_gN, ev_ret, List.map_cons, List.map_nil, List.length_cons, List.length_nil, rep_zero, rep_succ, List.cons_append, List.nil_append, List.getElem?_cons_zero, List.getElem?_cons_succ, List.set_cons_zero, List.set_cons_succ, Nat.sub_self, Nat.reduceAdd, Nat.reduceSub, Option.map_some, Option.bind_some, if_true, Bool.not_true, Bool.not_false, Bool.false_eq_true, if_false, decide_true, decide_false, Int.reduceBEq, Int.reduceEq, Int.reduceLT, Int.reduceLE, Int.reduceNeg, Int.reduceAdd, Int.reduceSub, Int.reduceMul, Int.reduceToNat, Nat.reduceLT, Nat.reduceLeDiff, beq_self_eq_true, reduceIte, eq_self, Int.reduceNe, Int.reduceBNe, not_true_eq_false, not_false_eq_true, true_and, and_true, true_or, or_true, false_or, or_false, and_false, false_and, decide_eq_true_eq, Bool.true_and, Bool.and_true, Bool.false_and, Bool.and_false, Bool.true_or, Bool.or_true, Bool.false_or, Bool.or_false, t_plus, mkS_beq, b1]
            have e6 : u_both_levels_6 (r_both_levels n) [some (.lst (Dt.str (mkS p) :: lvs ps)), some (.lst (Dt.str (mkS q) :: lvs qs)), some (.str (mkS lev)), none] s = .fl (.nx [some (.lst (Dt.str (mkS p) :: lvs ps)), some (.lst (Dt.str (mkS q) :: lvs qs)), some (.str (mkS lev)), some (optL (bothL ps qs))]) s := by
              unfold u_both_levels_6
              simp only [fnOf, ev_seq, ev_asg, sBnd_def, ev_op, ev_un, bnd_def, ev_call, evs_cons, evs_nil, ev_var, ev_c, ev_if, ev_next, ev_expr, ev_tru, ev_bl, ev_and, ev_or, ev_not, ev_yes, ev_andE, ev_orE, ev_notE, ev_ifE, ev_chain, ofB_some, ofO_some, ofO_none, truD_non, truD_bl, truD_int, truD_str, truD_tup, truD_lst, truD_lsk, ev_tup, ev_lst, ev_nwF, ev_nwM, ev_meth, ev_make, ev_fld, ev_setF, ev_bm1, asQ_tup, asQ_lst, asQ_lsk, asL_lst, asL_lsk, dLen_tup, dLen_lst, dLen_lsk, dLen_str, dIx_tup, dIx_lst, dIx_lsk, dIx_str, dAdd_int, dNeg_int, isN_def, notN_def, isNon_non, isNon_int, isNon_bl, isNon_str, isNon_tup, isNon_lst, isNon_obj, isNon_exc, dEq_int, dNe_int, dEq_str, dNe_str, dEq_bl, atI_zero, atI_one, atI_2, atI_3, atI_4, atI_5, atI_6, atI_7, atI_8, atI_9, atI_10, atI_11, atI_12, atI_m1, ev_gT, setAll_nil, setAll_cons, iOp_int, ev_gN, ev_ret, List.map_cons, List.map_nil, List.length_cons, List.length_nil, rep_zero, rep_succ, List.cons_append, List.nil_append, List.getElem?_cons_zero, List.getElem?_cons_succ, List.set_cons_zero, List.set_cons_succ, Nat.sub_self, Nat.reduceAdd, Nat.reduceSub, Option.map_some, Option.bind_some, if_true, Bool.not_true, Bool.not_false, Bool.false_eq_true, if_false, decide_true, decide_false, Int.reduceBEq, Int.reduceEq, Int.reduceLT, Int.reduceLE, Int.reduceNeg, Int.reduceAdd, Int.reduceSub, Int.reduceMul, Int.reduceToNat, Nat.reduceLT, Nat.reduceLeDiff, beq_self_eq_true, reduceIte, eq_self, Int.reduceNe, Int.reduceBNe, not_true_eq_false, not_false_eq_true, true_and, and_true, true_or, or_true, false_or, or_false, and_false, false_and, decide_eq_true_eq, Bool.true_and, Bool.and_true, Bool.false_and, Bool.and_false, Bool.true_or, Bool.or_true, Bool.false_or, Bool.or_false, ev_sl, evp_none, evp_some, dSl_lst, c2, c3, ih]
            have hlh : lev ≠ [35] := by
              rw [← hlev]
              split
              · exact hq
              · exact hp
            have pe := ev_plain_levels [lev] s
            have pe2 : plainL [lev] = [pl1 lev] := by
              unfold plainL
              have : (!(lev == [35])) = true := by simpa using hlh
              simp [this]
            rw [pe2] at pe
            simp only [lvs, List.map_cons, List.map_nil] at pe
            have hf : bothL (p :: ps) (q :: qs) = (bothL ps qs).map fun r => pl1 lev :: r := by
              rw [bothL, if_neg hp, if_neg hq, if_neg hh, hlev]
            have e7 : u_both_levels_7 (r_both_levels n) [some (.lst (Dt.str (mkS p) :: lvs ps)), some (.lst (Dt.str (mkS q) :: lvs qs)), some (.str (mkS lev)), some (optL (bothL ps qs))] s = .fl (.rt (optL (bothL (p :: ps) (q :: qs)))) s := by
              unfold u_both_levels_7
              rw [hf]
              cases hr : bothL ps qs with
              | none => simp only [fnOf, ev_seq, ev_asg, sBnd_def, ev_op, ev_un, bnd_def, ev_call, evs_cons, evs_nil, ev_var, ev_c, ev_if, ev_next, ev_expr, ev_tru, ev_bl, ev_and, ev_or, ev_not, ev_yes, ev_andE, ev_orE, ev_notE, ev_ifE, ev_chain, ofB_some, ofO_some, ofO_none, truD_non, truD_bl, truD_int, truD_str, truD_tup, truD_lst, truD_lsk, ev_tup, ev_lst, ev_nwF, ev_nwM, ev_meth, ev_make, ev_fld, ev_setF, ev_bm1, asQ_tup, asQ_lst, asQ_lsk, asL_lst, asL_lsk, dLen_tup, dLen_lst, dLen_lsk, dLen_str, dIx_tup, dIx_lst, dIx_lsk, dIx_str, dAdd_int, dNeg_int, isN_def, notN_def, isNon_non, isNon_int, isNon_bl, isNon_str, isNon_tup, isNon_lst, isNon_obj, isNon_exc, dEq_int, dNe_int, dEq_str, dNe_str, dEq_bl, atI_zero, atI_one, atI_2, atI_3, atI_4, atI_5, atI_6, atI_7, atI_8, atI_9, atI_10, atI_11, atI_12, atI_m1, ev_gT, setAll_nil, setAll_cons, iOp_int, ev_gN, ev_ret, List.map_cons, List.map_nil, List.length_cons, List.length_nil, rep_zero, rep_succ, List.cons_append, List.nil_append, List.getElem?_cons_zero, List.getElem?_cons_succ, List.set_cons_zero, List.set_cons_succ, Nat.sub_self, Nat.reduceAdd, Nat.reduceSub, Option.map_some, Option.bind_some, if_true, Bool.not_true, Bool.not_false, Bool.false_eq_true, if_false, decide_true, decide_false, Int.reduceBEq, Int.reduceEq, Int.reduceLT, Int.reduceLE, Int.reduceNeg, Int.reduceAdd, Int.reduceSub, Int.reduceMul, Int.reduceToNat, Nat.reduceLT, Nat.reduceLeDiff, beq_self_eq_true, reduceIte, eq_self, Int.reduceNe, Int.reduceBNe, not_true_eq_false, not_false_eq_true, true_and, and_true, true_or, or_true, false_or, or_false, and_false, false_and, decide_eq_true_eq, Bool.true_and, Bool.and_true, Bool.false_and, Bool.and_false, Bool.true_or, Bool.or_true, Bool.false_or, Bool.or_false, optL, Option.map_none]
              | some r =>
                have hrl := both_len hr
                have ad : dAdd nwF (.lst [.str (mkS (pl1 lev))]) (.lst (lvs r)) s = .ok (.lst (.str (mkS (pl1 lev)) :: lvs r)) s := by
                  rw [dAdd_lst' (by simp at hb; simp; omega)]
                  rfl
                simp only [fnOf, ev_seq, ev_asg, sBnd_def, ev_op, ev_un, bnd_def, ev_call, evs_cons, evs_nil, ev_var, ev_c, ev_if, ev_next, ev_expr, ev_tru, ev_bl, ev_and, ev_or, ev_not, ev_yes, ev_andE, ev_orE, ev_notE, ev_ifE, ev_chain, ofB_some, ofO_some, ofO_none, truD_non, truD_bl, truD_int, truD_str, truD_tup, truD_lst, truD_lsk, ev_tup, ev_lst, ev_nwF, ev_nwM, ev_meth, ev_make, ev_fld, ev_setF, ev_bm1, asQ_tup, asQ_lst, asQ_lsk, asL_lst, asL_lsk, dLen_tup, dLen_lst, dLen_lsk, dLen_str, dIx_tup, dIx_lst, dIx_lsk, dIx_str, dAdd_int, dNeg_int, isN_def, notN_def, isNon_non, isNon_int, isNon_bl, isNon_str, isNon_tup, isNon_lst, isNon_obj, isNon_exc, dEq_int, dNe_int, dEq_str, dNe_str, dEq_bl, atI_zero, atI_one, atI_2, atI_3, atI_4, atI_5, atI_6, atI_7, atI_8, atI_9, atI_10, atI_11, atI_12, atI_m1, ev_gT, setAll_nil, setAll_cons, iOp_int, ev_gN, ev_ret, List.map_cons, List.map_nil, List.length_cons, List.length_nil, rep_zero, rep_succ, List.cons_append, List.nil_append, List.getElem?_cons_zero, List.getElem?_cons_succ, List.set_cons_zero, List.set_cons_succ, Nat.sub_self, Nat.reduceAdd, Nat.reduceSub, Option.map_some, Option.bind_some, if_true, Bool.not_true, Bool.not_false, Bool.false_eq_true, if_false, decide_true, decide_false, Int.reduceBEq, Int.reduceEq, Int.reduceLT, Int.reduceLE, Int.reduceNeg, Int.reduceAdd, Int.reduceSub, Int.reduceMul, Int.reduceToNat, Nat.reduceLT, Nat.reduceLeDiff, beq_self_eq_true, reduceIte, eq_self, Int.reduceNe, Int.reduceBNe, not_true_eq_false, not_false_eq_true, true_and, and_true, true_or, or_true, false_or, or_false, and_false, false_and, decide_eq_true_eq, Bool.true_and, Bool.and_true, Bool.false_and, Bool.and_false, Bool.true_or, Bool.or_true, Bool.false_or, Bool.or_false, optL, pe, ad]
            simp only [fnOf, ev_seq, ev_asg, sBnd_def, ev_op, ev_un, bnd_def, ev_call, evs_cons, evs_nil, ev_var, ev_c, ev_if, ev_next, ev_expr, ev_tru, ev_bl, ev_and, ev_or, ev_not, ev_yes, ev_andE, ev_orE, ev_notE, ev_ifE, ev_chain, ofB_some, ofO_some, ofO_none, truD_non, truD_bl, truD_int, truD_str, truD_tup, truD_lst, truD_lsk, ev_tup, ev_lst, ev_nwF, ev_nwM, ev_meth, ev_make, ev_fld, ev_setF, ev_bm1, asQ_tup, asQ_lst, asQ_lsk, asL_lst, asL_lsk, dLen_tup, dLen_lst, dLen_lsk, dLen_str, dIx_tup, dIx_lst, dIx_lsk, dIx_str, dAdd_int, dNeg_int, isN_def, notN_def, isNon_non, isNon_int, isNon_bl, isNon_str, isNon_tup, isNon_lst, isNon_obj, isNon_exc, dEq_int, dNe_int, dEq_str, dNe_str, dEq_bl, atI_zero, atI_one, atI_2, atI_3, atI_4, atI_5, atI_6, atI_7, atI_8, atI_9, atI_10, atI_11, atI_12, atI_m1, ev_gT, setAll_nil, setAll_cons, iOp_int, ev_gN, ev_ret, List.map_cons, List.map_nil, List.length_cons, List.length_nil, rep_zero, rep_succ, List.cons_append, List.nil_append, List.getElem?_cons_zero, List.getElem?_cons_succ, List.set_cons_zero, List.set_cons_succ, Nat.sub_self, Nat.reduceAdd, Nat.reduceSub, Option.map_some, Option.bind_some, if_true, Bool.not_true, Bool.not_false, Bool.false_eq_true, if_false, decide_true, decide_false, Int.reduceBEq, Int.reduceEq, Int.reduceLT, Int.reduceLE, Int.reduceNeg, Int.reduceAdd, Int.reduceSub, Int.reduceMul, Int.reduceToNat, Nat.reduceLT, Nat.reduceLeDiff, beq_self_eq_true, reduceIte, eq_self, Int.reduceNe, Int.reduceBNe, not_true_eq_false, not_false_eq_true, true_and, and_true, true_or, or_true, false_or, or_false, and_false, false_and, decide_eq_true_eq, Bool.true_and, Bool.and_true, Bool.false_and, Bool.and_false, Bool.true_or, Bool.or_true, Bool.false_or, Bool.or_false, t_hash, u_both_levels_1, u_both_levels_2, u_both_levels_3, ev_sl, evp_none, evp_some, dSl_lst, c, c1, dEq_lst1, hpb, hqb, List.isEmpty_cons, e4, e5, e6, e7]
/-! ### meeting -/
def meetC (w o : List Nat) : Option (List Nat) :=
  if ((wide (splC 47 w) && TL.pre [36] o) || (wide (splC 47 o) && TL.pre [36] w)) = true then none
  else match bothL (splC 47 w) (splC 47 o) with
    | none => none
    | some f => if f = [] then some [97] else if f = [[]] then (if (fitsC w [47, 97] && fitsC o [47, 97]) = true then some [47, 97] else none) else some (TL.joinL [47] f)
def optS : Option (List Nat) → Dt
  | none => .non
  | some l => .str (mkS l)
theorem t_slasha : Str.ofString "/a" = mkS [47, 97] := by decide +kernel
theorem name_slasha : isName [47, 97] = true := by decide
/-- levels that a wish may have -/
theorem wish_mem {w : List Nat} (h : isWish w = true) : ∀ p ∈ splC 47 w, p = [35] ∨ gw p = true := by
  unfold isWish at h
  simp only [Bool.and_eq_true] at h
  have h2 := List.all_eq_true.mp h.2
  unfold plain at h2
  intro p hp
  split at h2
  · rename_i hl
    obtain ⟨ds, hd⟩ := List.getLast?_eq_some_iff.mp hl
    rw [hd] at hp h2
    rw [List.dropLast_concat] at h2
    rcases List.mem_append.mp hp with hp | hp
    · exact .inr (h2 p hp)
    · exact .inl (by simpa using hp)
  · exact .inr (h2 p hp)
theorem gl_pl1 {p : List Nat} (h : gw p = true) : gl (pl1 p) = true := by
  unfold pl1
  split
  · decide
  · rename_i hp
    unfold gw at h
    have : (p == [43]) = false := by simpa using hp
    rw [this, Bool.false_or] at h
    exact h
theorem plainL_gl {ps : List (List Nat)} (h : ∀ p ∈ ps, p = [35] ∨ gw p = true) : ∀ x ∈ plainL ps, gl x = true := fun x hx => by
  unfold plainL at hx
  obtain ⟨p, h1, h2⟩ := List.mem_map.mp hx
  rw [List.mem_filter] at h1
  rw [← h2]
  rcases h p h1.1 with h3 | h3
  · subst h3; simp at h1
  · exact gl_pl1 h3
theorem both_gl : ∀ {ps os f : List (List Nat)}, (∀ p ∈ ps, p = [35] ∨ gw p = true) → (∀ p ∈ os, p = [35] ∨ gw p = true) → bothL ps os = some f → ∀ x ∈ f, gl x = true
  | [], [], f, _, _, h => by simp only [bothL, Option.some.injEq] at h; subst h; simp
  | [], o :: os, f, _, _, h => by
    simp only [bothL] at h
    split at h
    · cases h; simp
    · cases h
  | p :: ps, [], f, hp, ho, h => by
    rw [bothL] at h
    split at h
    · cases h; exact plainL_gl ho
    · cases h
  | p :: ps, o :: os, f, hp, ho, h => by
    rw [bothL] at h
    split at h
    · cases h; exact plainL_gl ho
    · rename_i h1
      split at h
      · cases h; exact plainL_gl hp
      · rename_i h2
        split at h
        · cases h
        · obtain ⟨r, h3, h4⟩ := Option.map_eq_some_iff.mp h
          have ih := both_gl (fun p h => hp p (List.mem_cons_of_mem _ h)) (fun p h => ho p (List.mem_cons_of_mem _ h)) h3
          rw [← h4]
          intro x hx
          rcases List.mem_cons.mp hx with hx | hx
          · rw [hx]
            refine gl_pl1 ?_
            split
            · rcases ho o List.mem_cons_self with h5 | h5
              · exact absurd h5 h2
              · exact h5
            · rcases hp p List.mem_cons_self with h5 | h5
              · exact absurd h5 h1
              · exact h5
          · exact ih x hx
theorem gl_le {l : List Nat} (h : gl l = true) : l.length ≤ 12 := by
  unfold gl at h
  simp only [Bool.and_eq_true, decide_eq_true_eq] at h
  exact h.1
theorem sum_le' {ps : List (List Nat)} {k : Nat} (h : ∀ p ∈ ps, p.length ≤ k) : (ps.map (·.length)).sum ≤ ps.length * k := by
  induction ps with
  | nil => simp
  | cons p ps ih =>
    have := ih fun q hq => h q (List.mem_cons_of_mem _ hq)
    have h1 := h p List.mem_cons_self
    simp only [List.map_cons, List.sum_cons, List.length_cons]
    rw [Nat.succ_mul]
    omega
theorem ev_meeting {w o : List Nat} (s : Sto) : m_meeting [.str (mkS w), .str (mkS o)] s = if isWish w = true then (if isWish o = true then .ok (optS (meetC w o)) s else .exc 1 s) else .exc 1 s := by
  have h1 := ev_look_wish w s
  have h2 := ev_look_wish o s
  unfold m_meeting b_meeting
  simp only [fnOf, List.map_cons, List.map_nil, List.length_cons, List.length_nil, Nat.reduceAdd, Nat.reduceSub, rep_succ, rep_zero, List.cons_append, List.nil_append]
  cases hw : isWish w with
  | false =>
    rw [hw, if_neg Bool.false_ne_true] at h1
    have e1 : u_meeting_1 [some (.str (mkS w)), some (.str (mkS o)), none, none, none] s = .exc 1 [some (.str (mkS w)), some (.str (mkS o)), none, none, none] s := by unfold u_meeting_1; simp only [fnOf, ev_seq, ev_asg, sBnd_def, ev_op, ev_un, bnd_def, ev_call, evs_cons, evs_nil, ev_var, ev_c, ev_if, ev_next, ev_expr, ev_tru, ev_bl, ev_and, ev_or, ev_not, ev_yes, ev_andE, ev_orE, ev_notE, ev_ifE, ev_chain, ofB_some, ofO_some, ofO_none, truD_non, truD_bl, truD_int, truD_str, truD_tup, truD_lst, truD_lsk, ev_tup, ev_lst, ev_nwF, ev_nwM, ev_meth, ev_make, ev_fld, ev_setF, ev_bm1, asQ_tup, asQ_lst, asQ_lsk, asL_lst, asL_lsk, dLen_tup, dLen_lst, dLen_lsk, dLen_str, dIx_tup, dIx_lst, dIx_lsk, dIx_str, dAdd_int, dNeg_int, isN_def, notN_def, isNon_non, isNon_int, isNon_bl, isNon_str, isNon_tup, isNon_lst, isNon_obj, isNon_exc, dEq_int, dNe_int, dEq_str, dNe_str, dEq_bl, atI_zero, atI_one, atI_2, atI_3, atI_4, atI_5, atI_6, atI_7, atI_8, atI_9, atI_10, atI_11, atI_12, atI_m1, ev_gT, setAll_nil, setAll_cons, iOp_int, ev_gN, ev_ret, List.map_cons, List.map_nil, List.length_cons, List.length_nil, rep_zero, rep_succ, List.cons_append, List.nil_append, List.getElem?_cons_zero, List.getElem?_cons_succ, List.set_cons_zero, List.set_cons_succ, Nat.sub_self, Nat.reduceAdd, Nat.reduceSub, Option.map_some, Option.bind_some, if_true, Bool.not_true, Bool.not_false, Bool.false_eq_true, if_false, decide_true, decide_false, Int.reduceBEq, Int.reduceEq, Int.reduceLT, Int.reduceLE, Int.reduceNeg, Int.reduceAdd, Int.reduceSub, Int.reduceMul, Int.reduceToNat, Nat.reduceLT, Nat.reduceLeDiff, beq_self_eq_true, reduceIte, eq_self, Int.reduceNe, Int.reduceBNe, not_true_eq_false, not_false_eq_true, true_and, and_true, true_or, or_true, false_or, or_false, and_false, false_and, decide_eq_true_eq, Bool.true_and, Bool.and_true, Bool.false_and, Bool.and_false, Bool.true_or, Bool.or_true, Bool.false_or, Bool.or_false, h1]
    rw [seq_exc e1]
    rfl
  | true =>
    rw [hw, if_pos rfl] at h1
    have e1 : u_meeting_1 [some (.str (mkS w)), some (.str (mkS o)), none, none, none] s = .fl (.nx [some (.str (mkS w)), some (.str (mkS o)), none, none, none]) s := by unfold u_meeting_1; simp only [fnOf, ev_seq, ev_asg, sBnd_def, ev_op, ev_un, bnd_def, ev_call, evs_cons, evs_nil, ev_var, ev_c, ev_if, ev_next, ev_expr, ev_tru, ev_bl, ev_and, ev_or, ev_not, ev_yes, ev_andE, ev_orE, ev_notE, ev_ifE, ev_chain, ofB_some, ofO_some, ofO_none, truD_non, truD_bl, truD_int, truD_str, truD_tup, truD_lst, truD_lsk, ev_tup, ev_lst, ev_nwF, ev_nwM, ev_meth, ev_make, ev_fld, ev_setF, ev_bm1, asQ_tup, asQ_lst, asQ_lsk, asL_lst, asL_lsk, dLen_tup, dLen_lst, dLen_lsk, dLen_str, dIx_tup, dIx_lst, dIx_lsk, dIx_str, dAdd_int, dNeg_int, isN_def, notN_def, isNon_non, isNon_int, isNon_bl, isNon_str, isNon_tup, isNon_lst, isNon_obj, isNon_exc, dEq_int, dNe_int, dEq_str, dNe_str, dEq_bl, atI_zero, atI_one, atI_2, atI_3, atI_4, atI_5, atI_6, atI_7, atI_8, atI_9, atI_10, atI_11, atI_12, atI_m1, ev_gT, setAll_nil, setAll_cons, iOp_int, ev_gN, ev_ret, List.map_cons, List.map_nil, List.length_cons, List.length_nil, rep_zero, rep_succ, List.cons_append, List.nil_append, List.getElem?_cons_zero, List.getElem?_cons_succ, List.set_cons_zero, List.set_cons_succ, Nat.sub_self, Nat.reduceAdd, Nat.reduceSub, Option.map_some, Option.bind_some, if_true, Bool.not_true, Bool.not_false, Bool.false_eq_true, if_false, decide_true, decide_false, Int.reduceBEq, Int.reduceEq, Int.reduceLT, Int.reduceLE, Int.reduceNeg, Int.reduceAdd, Int.reduceSub, Int.reduceMul, Int.reduceToNat, Nat.reduceLT, Nat.reduceLeDiff, beq_self_eq_true, reduceIte, eq_self, Int.reduceNe, Int.reduceBNe, not_true_eq_false, not_false_eq_true, true_and, and_true, true_or, or_true, false_or, or_false, and_false, false_and, decide_eq_true_eq, Bool.true_and, Bool.and_true, Bool.false_and, Bool.and_false, Bool.true_or, Bool.or_true, Bool.false_or, Bool.or_false, h1]
    rw [seq_nx1 e1]
    cases ho : isWish o with
    | false =>
      rw [ho, if_neg Bool.false_ne_true] at h2
      have e2 : u_meeting_2 [some (.str (mkS w)), some (.str (mkS o)), none, none, none] s = .exc 1 [some (.str (mkS w)), some (.str (mkS o)), none, none, none] s := by unfold u_meeting_2; simp only [fnOf, ev_seq, ev_asg, sBnd_def, ev_op, ev_un, bnd_def, ev_call, evs_cons, evs_nil, ev_var, ev_c, ev_if, ev_next, ev_expr, ev_tru, ev_bl, ev_and, ev_or, ev_not, ev_yes, ev_andE, ev_orE, ev_notE, ev_ifE, ev_chain, ofB_some, ofO_some, ofO_none, truD_non, truD_bl, truD_int, truD_str, truD_tup, truD_lst, truD_lsk, ev_tup, ev_lst, ev_nwF, ev_nwM, ev_meth, ev_make, ev_fld, ev_setF, ev_bm1, asQ_tup, asQ_lst, asQ_lsk, asL_lst, asL_lsk, dLen_tup, dLen_lst, dLen_lsk, dLen_str, dIx_tup, dIx_lst, dIx_lsk, dIx_str, dAdd_int, dNeg_int, isN_def, notN_def, isNon_non, isNon_int, isNon_bl, isNon_str, isNon_tup, isNon_lst, isNon_obj, isNon_exc, dEq_int, dNe_int, dEq_str, dNe_str, dEq_bl, atI_zero, atI_one, atI_2, atI_3, atI_4, atI_5, atI_6, atI_7, atI_8, atI_9, atI_10, atI_11, atI_12, atI_m1, ev_gT, setAll_nil, setAll_cons, iOp_int, ev_gN, ev_ret, List.map_cons, List.map_nil, List.length_cons, List.length_nil, rep_zero, rep_succ, List.cons_append, List.nil_append, List.getElem?_cons_zero, List.getElem?_cons_succ, List.set_cons_zero, List.set_cons_succ, Nat.sub_self, Nat.reduceAdd, Nat.reduceSub, Option.map_some, Option.bind_some, if_true, Bool.not_true, Bool.not_false, Bool.false_eq_true, if_false, decide_true, decide_false, Int.reduceBEq, Int.reduceEq, Int.reduceLT, Int.reduceLE, Int.reduceNeg, Int.reduceAdd, Int.reduceSub, Int.reduceMul, Int.reduceToNat, Nat.reduceLT, Nat.reduceLeDiff, beq_self_eq_true, reduceIte, eq_self, Int.reduceNe, Int.reduceBNe, not_true_eq_false, not_false_eq_true, true_and, and_true, true_or, or_true, false_or, or_false, and_false, false_and, decide_eq_true_eq, Bool.true_and, Bool.and_true, Bool.false_and, Bool.and_false, Bool.true_or, Bool.or_true, Bool.false_or, Bool.or_false, h2]
      rw [seq_exc e2]
      rfl
    | true =>
      rw [ho, if_pos rfl] at h2
      have e2 : u_meeting_2 [some (.str (mkS w)), some (.str (mkS o)), none, none, none] s = .fl (.nx [some (.str (mkS w)), some (.str (mkS o)), none, none, none]) s := by unfold u_meeting_2; simp only [fnOf, ev_seq, ev_asg, sBnd_def, ev_op, ev_un, bnd_def, ev_call, evs_cons, evs_nil, ev_var, ev_c, ev_if, ev_next, ev_expr, ev_tru, ev_bl, ev_and, ev_or, ev_not, ev_yes, ev_andE, ev_orE, ev_notE, ev_ifE, ev_chain, ofB_some, ofO_some, ofO_none, truD_non, truD_bl, truD_int, truD_str, truD_tup, truD_lst, truD_lsk, ev_tup, ev_lst, ev_nwF, ev_nwM, ev_meth, ev_make, ev_fld, ev_setF, ev_bm1, asQ_tup, asQ_lst, asQ_lsk, asL_lst, asL_lsk, dLen_tup, dLen_lst, dLen_lsk, dLen_str, dIx_tup, dIx_lst, dIx_lsk, dIx_str, dAdd_int, dNeg_int, isN_def, notN_def, isNon_non, isNon_int, isNon_bl, isNon_str, isNon_tup, isNon_lst, isNon_obj, isNon_exc, dEq_int, dNe_int, dEq_str, dNe_str, dEq_bl, atI_zero, atI_one, atI_2, atI_3, atI_4, atI_5, atI_6, atI_7, atI_8, atI_9, atI_10, atI_11, atI_12, atI_m1, ev_gT, setAll_nil, setAll_cons, iOp_int, ev_gN, ev_ret, List.map_cons, List.map_nil, List.length_cons, List.length_nil, rep_zero, rep_succ, List.cons_append, List.nil_append, List.getElem?_cons_zero, List.getElem?_cons_succ, List.set_cons_zero, List.set_cons_succ, Nat.sub_self, Nat.reduceAdd, Nat.reduceSub, Option.map_some, Option.bind_some, if_true, Bool.not_true, Bool.not_false, Bool.false_eq_true, if_false, decide_true, decide_false, Int.reduceBEq, Int.reduceEq, Int.reduceLT, Int.reduceLE, Int.reduceNeg, Int.reduceAdd, Int.reduceSub, Int.reduceMul, Int.reduceToNat, Nat.reduceLT, Nat.reduceLeDiff, beq_self_eq_true, reduceIte, eq_self, Int.reduceNe, Int.reduceBNe, not_true_eq_false, not_false_eq_true, true_and, and_true, true_or, or_true, false_or, or_false, and_false, false_and, decide_eq_true_eq, Bool.true_and, Bool.and_true, Bool.false_and, Bool.and_false, Bool.true_or, Bool.or_true, Bool.false_or, Bool.or_false, h2]
      rw [seq_nx1 e2]
      have e3 : u_meeting_3 [some (.str (mkS w)), some (.str (mkS o)), none, none, none] s = .fl (.nx [some (.str (mkS w)), some (.str (mkS o)), some (.lst (lvs (splC 47 w))), none, none]) s := by unfold u_meeting_3; simp only [fnOf, ev_seq, ev_asg, sBnd_def, ev_op, ev_un, bnd_def, ev_call, evs_cons, evs_nil, ev_var, ev_c, ev_if, ev_next, ev_expr, ev_tru, ev_bl, ev_and, ev_or, ev_not, ev_yes, ev_andE, ev_orE, ev_notE, ev_ifE, ev_chain, ofB_some, ofO_some, ofO_none, truD_non, truD_bl, truD_int, truD_str, truD_tup, truD_lst, truD_lsk, ev_tup, ev_lst, ev_nwF, ev_nwM, ev_meth, ev_make, ev_fld, ev_setF, ev_bm1, asQ_tup, asQ_lst, asQ_lsk, asL_lst, asL_lsk, dLen_tup, dLen_lst, dLen_lsk, dLen_str, dIx_tup, dIx_lst, dIx_lsk, dIx_str, dAdd_int, dNeg_int, isN_def, notN_def, isNon_non, isNon_int, isNon_bl, isNon_str, isNon_tup, isNon_lst, isNon_obj, isNon_exc, dEq_int, dNe_int, dEq_str, dNe_str, dEq_bl, atI_zero, atI_one, atI_2, atI_3, atI_4, atI_5, atI_6, atI_7, atI_8, atI_9, atI_10, atI_11, atI_12, atI_m1, ev_gT, setAll_nil, setAll_cons, iOp_int, ev_gN, ev_ret, List.map_cons, List.map_nil, List.length_cons, List.length_nil, rep_zero, rep_succ, List.cons_append, List.nil_append, List.getElem?_cons_zero, List.getElem?_cons_succ, List.set_cons_zero, List.set_cons_succ, Nat.sub_self, Nat.reduceAdd, Nat.reduceSub, Option.map_some, Option.bind_some, if_true, Bool.not_true, Bool.not_false, Bool.false_eq_true, if_false, decide_true, decide_false, Int.reduceBEq, Int.reduceEq, Int.reduceLT, Int.reduceLE, Int.reduceNeg, Int.reduceAdd, Int.reduceSub, Int.reduceMul, Int.reduceToNat, Nat.reduceLT, Nat.reduceLeDiff, beq_self_eq_true, reduceIte, eq_self, Int.reduceNe, Int.reduceBNe, not_true_eq_false, not_false_eq_true, true_and, and_true, true_or, or_true, false_or, or_false, and_false, false_and, decide_eq_true_eq, Bool.true_and, Bool.and_true, Bool.false_and, Bool.and_false, Bool.true_or, Bool.or_true, Bool.false_or, Bool.or_false, t_slash, isStr_str, dSplit_mk]
      rw [seq_nx1 e3]
      have e4 : u_meeting_4 [some (.str (mkS w)), some (.str (mkS o)), some (.lst (lvs (splC 47 w))), none, none] s = .fl (.nx [some (.str (mkS w)), some (.str (mkS o)), some (.lst (lvs (splC 47 w))), some (.lst (lvs (splC 47 o))), none]) s := by unfold u_meeting_4; simp only [fnOf, ev_seq, ev_asg, sBnd_def, ev_op, ev_un, bnd_def, ev_call, evs_cons, evs_nil, ev_var, ev_c, ev_if, ev_next, ev_expr, ev_tru, ev_bl, ev_and, ev_or, ev_not, ev_yes, ev_andE, ev_orE, ev_notE, ev_ifE, ev_chain, ofB_some, ofO_some, ofO_none, truD_non, truD_bl, truD_int, truD_str, truD_tup, truD_lst, truD_lsk, ev_tup, ev_lst, ev_nwF, ev_nwM, ev_meth, ev_make, ev_fld, ev_setF, ev_bm1, asQ_tup, asQ_lst, asQ_lsk, asL_lst, asL_lsk, dLen_tup, dLen_lst, dLen_lsk, dLen_str, dIx_tup, dIx_lst, dIx_lsk, dIx_str, dAdd_int, dNeg_int, isN_def, notN_def, isNon_non, isNon_int, isNon_bl, isNon_str, isNon_tup, isNon_lst, isNon_obj, isNon_exc, dEq_int, dNe_int, dEq_str, dNe_str, dEq_bl, atI_zero, atI_one, atI_2, atI_3, atI_4, atI_5, atI_6, atI_7, atI_8, atI_9, atI_10, atI_11, atI_12, atI_m1, ev_gT, setAll_nil, setAll_cons, iOp_int, ev_gN, ev_ret, List.map_cons, List.map_nil, List.length_cons, List.length_nil, rep_zero, rep_succ, List.cons_append, List.nil_append, List.getElem?_cons_zero, List.getElem?_cons_succ, List.set_cons_zero, List.set_cons_succ, Nat.sub_self, Nat.reduceAdd, Nat.reduceSub, Option.map_some, Option.bind_some, if_true, Bool.not_true, Bool.not_false, Bool.false_eq_true, if_false, decide_true, decide_false, Int.reduceBEq, Int.reduceEq, Int.reduceLT, Int.reduceLE, Int.reduceNeg, Int.reduceAdd, Int.reduceSub, Int.reduceMul, Int.reduceToNat, Nat.reduceLT, Nat.reduceLeDiff, beq_self_eq_true, reduceIte, eq_self, Int.reduceNe, Int.reduceBNe, not_true_eq_false, not_false_eq_true, true_and, and_true, true_or, or_true, false_or, or_false, and_false, false_and, decide_eq_true_eq, Bool.true_and, Bool.and_true, Bool.false_and, Bool.and_false, Bool.true_or, Bool.or_true, Bool.false_or, Bool.or_false, t_slash, isStr_str, dSplit_mk]
      rw [seq_nx1 e4]
      obtain ⟨p, ps, e⟩ := splC_cons w
      obtain ⟨q, qs, e'⟩ := splC_cons o
      have w0 : (lvs (splC 47 w))[0]? = some (.str (mkS p)) := by rw [e]; rfl
      have o0 : (lvs (splC 47 o))[0]? = some (.str (mkS q)) := by rw [e']; rfl
      have hdo : dStarts (.str (mkS o)) (.str (mkS [36])) s = .ok (.bl (TL.pre [36] o)) s := rfl
      have hdw : dStarts (.str (mkS w)) (.str (mkS [36])) s = .ok (.bl (TL.pre [36] w)) s := rfl
      have hwide : wide (splC 47 w) = ([43] == p || [35] == p) := by unfold wide; rw [e]
      have hwide' : wide (splC 47 o) = ([43] == q || [35] == q) := by unfold wide; rw [e']
      have e5 : u_meeting_5 [some (.str (mkS w)), some (.str (mkS o)), some (.lst (lvs (splC 47 w))), some (.lst (lvs (splC 47 o))), none] s = if ((wide (splC 47 w) && TL.pre [36] o) || (wide (splC 47 o) && TL.pre [36] w)) = true then .fl (.rt .non) s else .fl (.nx [some (.str (mkS w)), some (.str (mkS o)), some (.lst (lvs (splC 47 w))), some (.lst (lvs (splC 47 o))), none]) s := by
        unfold u_meeting_5
        rw [hwide, hwide']
        cases h5 : ([43] == p || [35] == p) <;> cases h6 : TL.pre [36] o <;> cases h7 : ([43] == q || [35] == q) <;> cases h8 : TL.pre [36] w <;> simp only [fnOf, ev_seq, ev_asg, sBnd_def, ev_op, ev_un, bnd_def, ev_call, evs_cons, evs_nil, ev_var, ev_c, ev_if, ev_next, ev_expr, ev_tru, ev_bl, ev_and, ev_or, ev_not, ev_yes, ev_andE, ev_orE, ev_notE, ev_ifE, ev_chain, ofB_some, ofO_some, ofO_none, truD_non, truD_bl, truD_int, truD_str, truD_tup, truD_lst, truD_lsk, ev_tup, ev_lst, ev_nwF, ev_nwM, ev_meth, ev_make, ev_fld, ev_setF, ev_bm1, asQ_tup, asQ_lst, asQ_lsk, asL_lst, asL_lsk, dLen_tup, dLen_lst, dLen_lsk, dLen_str, dIx_tup, dIx_lst, dIx_lsk, dIx_str, dAdd_int, dNeg_int, isN_def, notN_def, isNon_non, isNon_int, isNon_bl, isNon_str, isNon_tup, isNon_lst, isNon_obj, isNon_exc, dEq_int, dNe_int, dEq_str, dNe_str, dEq_bl, atI_zero, atI_one, atI_2, atI_3, atI_4, atI_5, atI_6, atI_7, atI_8, atI_9, atI_10, atI_11, atI_12, atI_m1, ev_gT, setAll_nil, setAll_cons, iOp_int, ev_gN, ev_ret, List.map_cons, List.map_nil, List.length_cons, List.length_nil, rep_zero, rep_succ, List.cons_append, List.nil_append, List.getElem?_cons_zero, List.getElem?_cons_succ, List.set_cons_zero, List.set_cons_succ, Nat.sub_self, Nat.reduceAdd, Nat.reduceSub, Option.map_some, Option.bind_some, if_true, Bool.not_true, Bool.not_false, Bool.false_eq_true, if_false, decide_true, decide_false, Int.reduceBEq, Int.reduceEq, Int.reduceLT, Int.reduceLE, Int.reduceNeg, Int.reduceAdd, Int.reduceSub, Int.reduceMul, Int.reduceToNat, Nat.reduceLT, Nat.reduceLeDiff, beq_self_eq_true, reduceIte, eq_self, Int.reduceNe, Int.reduceBNe, not_true_eq_false, not_false_eq_true, true_and, and_true, true_or, or_true, false_or, or_false, and_false, false_and, decide_eq_true_eq, Bool.true_and, Bool.and_true, Bool.false_and, Bool.and_false, Bool.true_or, Bool.or_true, Bool.false_or, Bool.or_false, t_dollar, isStr_str, w0, o0, ev_is_wide, h5, h6, h7, h8, hdo, hdw]
      cases hc : ((wide (splC 47 w) && TL.pre [36] o) || (wide (splC 47 o) && TL.pre [36] w)) with
      | true =>
        rw [hc, if_pos rfl] at e5
        rw [seq_rt1 e5]
        have hm : meetC w o = none := by unfold meetC; rw [hc, if_pos rfl]
        rw [hm]
        rfl
      | false =>
        rw [hc, if_neg Bool.false_ne_true] at e5
        rw [seq_nx1 e5]
        have lw := len_of_wish hw
        have lo := len_of_wish ho
        have hbl : m_both_levels [.lst (lvs (splC 47 w)), .lst (lvs (splC 47 o))] s = .ok (optL (bothL (splC 47 w) (splC 47 o))) s := ev_both_levels s 12 _ _ (by omega) (by omega)
        have e6 : u_meeting_6 [some (.str (mkS w)), some (.str (mkS o)), some (.lst (lvs (splC 47 w))), some (.lst (lvs (splC 47 o))), none] s = .fl (.nx [some (.str (mkS w)), some (.str (mkS o)), some (.lst (lvs (splC 47 w))), some (.lst (lvs (splC 47 o))), some (optL (bothL (splC 47 w) (splC 47 o)))]) s := by
          unfold u_meeting_6
          simp only [fnOf, ev_seq, ev_asg, sBnd_def, ev_op, ev_un, bnd_def, ev_call, evs_cons, evs_nil, ev_var, ev_c, ev_if, ev_next, ev_expr, ev_tru, ev_bl, ev_and, ev_or, ev_not, ev_yes, ev_andE, ev_orE, ev_notE, ev_ifE, ev_chain, ofB_some, ofO_some, ofO_none, truD_non, truD_bl, truD_int, truD_str, truD_tup, truD_lst, truD_lsk, ev_tup, ev_lst, ev_nwF, ev_nwM, ev_meth, ev_make, ev_fld, ev_setF, ev_bm1, asQ_tup, asQ_lst, asQ_lsk, asL_lst, asL_lsk, dLen_tup, dLen_lst, dLen_lsk, dLen_str, dIx_tup, dIx_lst, dIx_lsk, dIx_str, dAdd_int, dNeg_int, isN_def, notN_def, isNon_non, isNon_int, isNon_bl, isNon_str, isNon_tup, isNon_lst, isNon_obj, isNon_exc, dEq_int, dNe_int, dEq_str, dNe_str, dEq_bl, atI_zero, atI_one, atI_2, atI_3, atI_4, atI_5, atI_6, atI_7, atI_8, atI_9, atI_10, atI_11, atI_12, atI_m1, ev_gT, setAll_nil, setAll_cons, iOp_int, ev_gN, ev_ret, List.map_cons, List.map_nil, List.length_cons, List.length_nil, rep_zero, rep_succ, List.cons_append, List.nil_append, List.getElem?_cons_zero, List.getElem?_cons_succ, List.set_cons_zero, List.set_cons_succ, Nat.sub_self, Nat.reduceAdd, Nat.reduceSub, Option.map_some, Option.bind_some, if_true, Bool.not_true, Bool.not_false, Bool.false_eq_true, if_false, decide_true, decide_false, Int.reduceBEq, Int.reduceEq, Int.reduceLT, Int.reduceLE, Int.reduceNeg, Int.reduceAdd, Int.reduceSub, Int.reduceMul, Int.reduceToNat, Nat.reduceLT, Nat.reduceLeDiff, beq_self_eq_true, reduceIte, eq_self, Int.reduceNe, Int.reduceBNe, not_true_eq_false, not_false_eq_true, true_and, and_true, true_or, or_true, false_or, or_false, and_false, false_and, decide_eq_true_eq, Bool.true_and, Bool.and_true, Bool.false_and, Bool.and_false, Bool.true_or, Bool.or_true, Bool.false_or, Bool.or_false, hbl]
        rw [seq_nx1 e6]
        cases hb : bothL (splC 47 w) (splC 47 o) with
        | none =>
          have hm : meetC w o = none := by unfold meetC; rw [hc, if_neg Bool.false_ne_true, hb]
          have d1 : dEq .non (.lst []) s = .ok (.bl false) s := dEq_non_lvs [] s
          have d2 : dEq .non (.lst [.str (mkS [])]) s = .ok (.bl false) s := dEq_non_lvs [[]] s
          rw [hm]
          simp only [fnOf, ev_seq, ev_asg, sBnd_def, ev_op, ev_un, bnd_def, ev_call, evs_cons, evs_nil, ev_var, ev_c, ev_if, ev_next, ev_expr, ev_tru, ev_bl, ev_and, ev_or, ev_not, ev_yes, ev_andE, ev_orE, ev_notE, ev_ifE, ev_chain, ofB_some, ofO_some, ofO_none, truD_non, truD_bl, truD_int, truD_str, truD_tup, truD_lst, truD_lsk, ev_tup, ev_lst, ev_nwF, ev_nwM, ev_meth, ev_make, ev_fld, ev_setF, ev_bm1, asQ_tup, asQ_lst, asQ_lsk, asL_lst, asL_lsk, dLen_tup, dLen_lst, dLen_lsk, dLen_str, dIx_tup, dIx_lst, dIx_lsk, dIx_str, dAdd_int, dNeg_int, isN_def, notN_def, isNon_non, isNon_int, isNon_bl, isNon_str, isNon_tup, isNon_lst, isNon_obj, isNon_exc, dEq_int, dNe_int, dEq_str, dNe_str, dEq_bl, atI_zero, atI_one, atI_2, atI_3, atI_4, atI_5, atI_6, atI_7, atI_8, atI_9, atI_10, atI_11, atI_12, atI_m1, ev_gT, setAll_nil, setAll_cons, iOp_int, ev_gN, ev_ret, List.map_cons, List.map_nil, List.length_cons, List.length_nil, rep_zero, rep_succ, List.cons_append, List.nil_append, List.getElem?_cons_zero, List.getElem?_cons_succ, List.set_cons_zero, List.set_cons_succ, Nat.sub_self, Nat.reduceAdd, Nat.reduceSub, Option.map_some, Option.bind_some, if_true, Bool.not_true, Bool.not_false, Bool.false_eq_true, if_false, decide_true, decide_false, Int.reduceBEq, Int.reduceEq, Int.reduceLT, Int.reduceLE, Int.reduceNeg, Int.reduceAdd, Int.reduceSub, Int.reduceMul, Int.reduceToNat, Nat.reduceLT, Nat.reduceLeDiff, beq_self_eq_true, reduceIte, eq_self, Int.reduceNe, Int.reduceBNe, not_true_eq_false, not_false_eq_true, true_and, and_true, true_or, or_true, false_or, or_false, and_false, false_and, decide_eq_true_eq, Bool.true_and, Bool.and_true, Bool.false_and, Bool.and_false, Bool.true_or, Bool.or_true, Bool.false_or, Bool.or_false, optL, optS, u_meeting_7, u_meeting_8, u_meeting_9, t_nil, d1, d2]
        | some f =>
          have hm : meetC w o = if f = [] then some [97] else if f = [[]] then (if (fitsC w [47, 97] && fitsC o [47, 97]) = true then some [47, 97] else none) else some (TL.joinL [47] f) := by unfold meetC; rw [hc, if_neg Bool.false_ne_true, hb]
          rw [hm]
          have d1 : dEq (.lst (lvs f)) (.lst []) s = .ok (.bl (f == [])) s := dEq_lvs f [] s
          have d2 : dEq (.lst (lvs f)) (.lst [.str (mkS [])]) s = .ok (.bl (f == [[]])) s := dEq_lvs f [[]] s
          by_cases f0 : f = []
          · have b0 : (f == []) = true := by simpa using f0
            rw [if_pos f0]
            simp only [fnOf, ev_seq, ev_asg, sBnd_def, ev_op, ev_un, bnd_def, ev_call, evs_cons, evs_nil, ev_var, ev_c, ev_if, ev_next, ev_expr, ev_tru, ev_bl, ev_and, ev_or, ev_not, ev_yes, ev_andE, ev_orE, ev_notE, ev_ifE, ev_chain, ofB_some, ofO_some, ofO_none, truD_non, truD_bl, truD_int, truD_str, truD_tup, truD_lst, truD_lsk, ev_tup, ev_lst, ev_nwF, ev_nwM, ev_meth, ev_make, ev_fld, ev_setF, ev_bm1, asQ_tup, asQ_lst, asQ_lsk, asL_lst, asL_lsk, dLen_tup, dLen_lst, dLen_lsk, dLen_str, dIx_tup, dIx_lst, dIx_lsk, dIx_str, dAdd_int, dNeg_int, isN_def, notN_def, isNon_non, isNon_int, isNon_bl, isNon_str, isNon_tup, isNon_lst, isNon_obj, isNon_exc, dEq_int, dNe_int, dEq_str, dNe_str, dEq_bl, atI_zero, atI_one, atI_2, atI_3, atI_4, atI_5, atI_6, atI_7, atI_8, atI_9, atI_10, atI_11, atI_12, atI_m1, ev_gT, setAll_nil, setAll_cons, iOp_int, ev_gN, ev_ret, List.map_cons, List.map_nil, List.length_cons, List.length_nil, rep_zero, rep_succ, List.cons_append, List.nil_append, List.getElem?_cons_zero, List.getElem?_cons_succ, List.set_cons_zero, List.set_cons_succ, Nat.sub_self, Nat.reduceAdd, Nat.reduceSub, Option.map_some, Option.bind_some, if_true, Bool.not_true, Bool.not_false, Bool.false_eq_true, if_false, decide_true, decide_false, Int.reduceBEq, Int.reduceEq, Int.reduceLT, Int.reduceLE, Int.reduceNeg, Int.reduceAdd, Int.reduceSub, Int.reduceMul, Int.reduceToNat, Nat.reduceLT, Nat.reduceLeDiff, beq_self_eq_true, reduceIte, eq_self, Int.reduceNe, Int.reduceBNe, not_true_eq_false, not_false_eq_true, true_and, and_true, true_or, or_true, false_or, or_false, and_false, false_and, decide_eq_true_eq, Bool.true_and, Bool.and_true, Bool.false_and, Bool.and_false, Bool.true_or, Bool.or_true, Bool.false_or, Bool.or_false, optL, optS, u_meeting_7, t_a, d1, b0]
          · have b0 : (f == []) = false := by simpa using f0
            rw [if_neg f0]
            by_cases f1 : f = [[]]
            · have b1 : (f == [[]]) = true := by simpa using f1
              rw [if_pos f1]
              have g1 := ev_fits w [47, 97] s
              have g2 := ev_fits o [47, 97] s
              rw [hw, name_slasha, if_pos rfl, if_pos rfl] at g1
              rw [ho, name_slasha, if_pos rfl, if_pos rfl] at g2
              cases k1 : fitsC w [47, 97] <;> cases k2 : fitsC o [47, 97] <;> simp only [fnOf, ev_seq, ev_asg, sBnd_def, ev_op, ev_un, bnd_def, ev_call, evs_cons, evs_nil, ev_var, ev_c, ev_if, ev_next, ev_expr, ev_tru, ev_bl, ev_and, ev_or, ev_not, ev_yes, ev_andE, ev_orE, ev_notE, ev_ifE, ev_chain, ofB_some, ofO_some, ofO_none, truD_non, truD_bl, truD_int, truD_str, truD_tup, truD_lst, truD_lsk, ev_tup, ev_lst, ev_nwF, ev_nwM, ev_meth, ev_make, ev_fld, ev_setF, ev_bm1, asQ_tup, asQ_lst, asQ_lsk, asL_lst, asL_lsk, dLen_tup, dLen_lst, dLen_lsk, dLen_str, dIx_tup, dIx_lst, dIx_lsk, dIx_str, dAdd_int, dNeg_int, isN_def, notN_def, isNon_non, isNon_int, isNon_bl, isNon_str, isNon_tup, isNon_lst, isNon_obj, isNon_exc, dEq_int, dNe_int, dEq_str, dNe_str, dEq_bl, atI_zero, atI_one, atI_2, atI_3, atI_4, atI_5, atI_6, atI_7, atI_8, atI_9, atI_10, atI_11, atI_12, atI_m1, ev_gT, setAll_nil, setAll_cons, iOp_int, ev_gN, ev_ret, List.map_cons, List.map_nil, List.length_cons, List.length_nil, rep_zero, rep_succ, List.cons_append, List.nil_append, List.getElem?_cons_zero, List.getElem?_cons_succ, List.set_cons_zero, List.set_cons_succ, Nat.sub_self, Nat.reduceAdd, Nat.reduceSub, Option.map_some, Option.bind_some, if_true, Bool.not_true, Bool.not_false, Bool.false_eq_true, if_false, decide_true, decide_false, Int.reduceBEq, Int.reduceEq, Int.reduceLT, Int.reduceLE, Int.reduceNeg, Int.reduceAdd, Int.reduceSub, Int.reduceMul, Int.reduceToNat, Nat.reduceLT, Nat.reduceLeDiff, beq_self_eq_true, reduceIte, eq_self, Int.reduceNe, Int.reduceBNe, not_true_eq_false, not_false_eq_true, true_and, and_true, true_or, or_true, false_or, or_false, and_false, false_and, decide_eq_true_eq, Bool.true_and, Bool.and_true, Bool.false_and, Bool.and_false, Bool.true_or, Bool.or_true, Bool.false_or, Bool.or_false, optL, optS, u_meeting_7, u_meeting_8, t_nil, t_slasha, d1, b0, d2, b1, g1, g2, k1, k2]
            · have b1 : (f == [[]]) = false := by simpa using f1
              rw [if_neg f1]
              have hgl := both_gl (wish_mem hw) (wish_mem ho) hb
              have hfl := both_len hb
              have hs := sum_le' (k := 12) fun p hp => gl_le (hgl p hp)
              have hj := dJoin_lst (s := s) (d := .lst (lvs f)) (ps := f) rfl (by omega)
              simp only [fnOf, ev_seq, ev_asg, sBnd_def, ev_op, ev_un, bnd_def, ev_call, evs_cons, evs_nil, ev_var, ev_c, ev_if, ev_next, ev_expr, ev_tru, ev_bl, ev_and, ev_or, ev_not, ev_yes, ev_andE, ev_orE, ev_notE, ev_ifE, ev_chain, ofB_some, ofO_some, ofO_none, truD_non, truD_bl, truD_int, truD_str, truD_tup, truD_lst, truD_lsk, ev_tup, ev_lst, ev_nwF, ev_nwM, ev_meth, ev_make, ev_fld, ev_setF, ev_bm1, asQ_tup, asQ_lst, asQ_lsk, asL_lst, asL_lsk, dLen_tup, dLen_lst, dLen_lsk, dLen_str, dIx_tup, dIx_lst, dIx_lsk, dIx_str, dAdd_int, dNeg_int, isN_def, notN_def, isNon_non, isNon_int, isNon_bl, isNon_str, isNon_tup, isNon_lst, isNon_obj, isNon_exc, dEq_int, dNe_int, dEq_str, dNe_str, dEq_bl, atI_zero, atI_one, atI_2, atI_3, atI_4, atI_5, atI_6, atI_7, atI_8, atI_9, atI_10, atI_11, atI_12, atI_m1, ev_gT, setAll_nil, setAll_cons, iOp_int, ev_gN, ev_ret, List.map_cons, List.map_nil, List.length_cons, List.length_nil, rep_zero, rep_succ, List.cons_append, List.nil_append, List.getElem?_cons_zero, List.getElem?_cons_succ, List.set_cons_zero, List.set_cons_succ, Nat.sub_self, Nat.reduceAdd, Nat.reduceSub, Option.map_some, Option.bind_some, if_true, Bool.not_true, Bool.not_false, Bool.false_eq_true, if_false, decide_true, decide_false, Int.reduceBEq, Int.reduceEq, Int.reduceLT, Int.reduceLE, Int.reduceNeg, Int.reduceAdd, Int.reduceSub, Int.reduceMul, Int.reduceToNat, Nat.reduceLT, Nat.reduceLeDiff, beq_self_eq_true, reduceIte, eq_self, Int.reduceNe, Int.reduceBNe, not_true_eq_false, not_false_eq_true, true_and, and_true, true_or, or_true, false_or, or_false, and_false, false_and, decide_eq_true_eq, Bool.true_and, Bool.and_true, Bool.false_and, Bool.and_false, Bool.true_or, Bool.or_true, Bool.false_or, Bool.or_false, optL, optS, u_meeting_7, u_meeting_8, u_meeting_9, t_nil, t_slash, isStr_str, d1, b0, d2, b1, hj]
end Tx
namespace Tx
open PySem L2 Pd
/-! ### what fits, covers and meets: plain laws -/
def okW : List (List Nat) → Prop
  | [] => True
  | p :: ps => (p = [35] → ps = []) ∧ okW ps
theorem okW_plain : ∀ {ds : List (List Nat)}, (∀ p ∈ ds, p ≠ [35]) → okW ds
  | [], _ => trivial
  | p :: ps, h => ⟨fun e => absurd e (h p List.mem_cons_self), okW_plain fun q hq => h q (List.mem_cons_of_mem _ hq)⟩
theorem okW_hash : ∀ {ds : List (List Nat)}, (∀ p ∈ ds, p ≠ [35]) → okW (ds ++ [[35]])
  | [], _ => ⟨fun _ => rfl, trivial⟩
  | p :: ps, h => ⟨fun e => absurd e (h p List.mem_cons_self), okW_hash fun q hq => h q (List.mem_cons_of_mem _ hq)⟩
theorem gw_ne' {p : List Nat} (h : gw p = true) : p ≠ [35] := fun e => by
  subst e
  exact absurd h (by decide)
theorem wish_ok {w : List Nat} (h : isWish w = true) : okW (splC 47 w) := by
  unfold isWish at h
  simp only [Bool.and_eq_true] at h
  have h2 := List.all_eq_true.mp h.2
  unfold plain at h2
  split at h2
  · rename_i hl
    obtain ⟨ds, hd⟩ := List.getLast?_eq_some_iff.mp hl
    rw [hd] at h2 ⊢
    rw [List.dropLast_concat] at h2
    exact okW_hash fun p hp => gw_ne' (h2 p hp)
  · exact okW_plain fun p hp => gw_ne' (h2 p hp)
theorem splC_single {l : List Nat} (h : splC 47 l = [[]]) : l = [] := by
  cases l with
  | nil => rfl
  | cons c r =>
    by_cases hc : c = 47
    · subst hc
      rw [splC_hit] at h
      simp only [List.cons.injEq, true_and] at h
      exact absurd h (splC_ne 47 r)
    · obtain ⟨p, t, e1, e2⟩ := splC_miss r hc
      rw [e2] at h
      simp at h
theorem wish_ne {w : List Nat} (h : isWish w = true) : splC 47 w ≠ [[]] := fun e => by
  have := splC_single e
  subst this
  exact absurd h (by decide)
theorem name_ne {w : List Nat} (h : isName w = true) : splC 47 w ≠ [[]] := fun e => by
  have := splC_single e
  subst this
  exact absurd h (by decide)
theorem pre_hd {l : List Nat} {q : List Nat} {qs : List (List Nat)} (h : splC 47 l = q :: qs) : TL.pre [36] l = (q.take 1 == [36]) := by
  cases l with
  | nil =>
    simp only [splC, List.cons.injEq] at h
    rw [← h.1]; rfl
  | cons c r =>
    by_cases hc : c = 47
    · subst hc
      rw [splC_hit] at h
      simp only [List.cons.injEq] at h
      rw [← h.1]; rfl
    · obtain ⟨p, t, e1, e2⟩ := splC_miss r hc
      rw [e2] at h
      simp only [List.cons.injEq] at h
      rw [← h.1]; rfl
theorem wide_cons {p : List Nat} {ps : List (List Nat)} : wide (p :: ps) = true ↔ p = [43] ∨ p = [35] := by
  unfold wide
  simp only [Bool.or_eq_true, beq_iff_eq]
  exact ⟨fun h => h.imp Eq.symm Eq.symm, fun h => h.imp Eq.symm Eq.symm⟩
theorem beq2 {p q : List Nat} : ([43] == p || q == p) = true ↔ p = [43] ∨ q = p := by
  simp only [Bool.or_eq_true, beq_iff_eq]
  exact ⟨fun h => h.imp Eq.symm id, fun h => h.imp Eq.symm id⟩
theorem fits_cons {p q : List Nat} {ps qs : List (List Nat)} (hp : p ≠ [35]) : fitsL (p :: ps) (q :: qs) = true ↔ (p = [43] ∨ q = p) ∧ fitsL ps qs = true := by
  rw [fitsL, if_neg hp]
  simp only [Bool.and_eq_true, beq2]
theorem fits_hash {ps qs : List (List Nat)} : fitsL ([35] :: ps) qs = true := by unfold fitsL; rw [if_pos rfl]
theorem fits_nil {p : List Nat} {ps : List (List Nat)} (hp : p ≠ [35]) : fitsL (p :: ps) [] = false := by rw [fitsL, if_neg hp]
theorem covers_cons {p q : List Nat} {ps qs : List (List Nat)} (hp : p ≠ [35]) : coversL (p :: ps) (q :: qs) = true ↔ q ≠ [35] ∧ (p = [43] ∨ q = p) ∧ coversL ps qs = true := by
  rw [coversL, if_neg hp]
  by_cases hq : q = [35]
  · simp [hq]
  · simp only [if_neg hq, Bool.and_eq_true, beq2]
    exact ⟨fun h => ⟨hq, h⟩, fun h => h.2⟩
theorem covers_hash {ps qs : List (List Nat)} : coversL ([35] :: ps) qs = true := by unfold coversL; rw [if_pos rfl]
theorem covers_nil {p : List Nat} {ps : List (List Nat)} (hp : p ≠ [35]) : coversL (p :: ps) [] = false := by rw [coversL, if_neg hp]
theorem fits_trans : ∀ {ps os qs : List (List Nat)}, coversL ps os = true → fitsL os qs = true → fitsL ps qs = true
  | [], os, qs, h1, h2 => by
    cases os with
    | nil => exact h2
    | cons o os => simp [coversL] at h1
  | p :: ps, os, qs, h1, h2 => by
    by_cases hp : p = [35]
    · subst hp; exact fits_hash
    · cases os with
      | nil => rw [covers_nil hp] at h1; cases h1
      | cons o os =>
        obtain ⟨ho, h3, h4⟩ := (covers_cons hp).mp h1
        cases qs with
        | nil => rw [fits_nil ho] at h2; cases h2
        | cons q qs =>
          obtain ⟨h5, h6⟩ := (fits_cons ho).mp h2
          refine (fits_cons hp).mpr ⟨?_, fits_trans h4 h6⟩
          rcases h3 with h3 | h3
          · exact .inl h3
          · subst h3; exact h5
theorem covers_trans : ∀ {ps os qs : List (List Nat)}, coversL ps os = true → coversL os qs = true → coversL ps qs = true
  | [], os, qs, h1, h2 => by
    cases os with
    | nil => exact h2
    | cons o os => simp [coversL] at h1
  | p :: ps, os, qs, h1, h2 => by
    by_cases hp : p = [35]
    · subst hp; exact covers_hash
    · cases os with
      | nil => rw [covers_nil hp] at h1; cases h1
      | cons o os =>
        obtain ⟨ho, h3, h4⟩ := (covers_cons hp).mp h1
        cases qs with
        | nil => rw [covers_nil ho] at h2; cases h2
        | cons q qs =>
          obtain ⟨hq, h5, h6⟩ := (covers_cons ho).mp h2
          refine (covers_cons hp).mpr ⟨hq, ?_, covers_trans h4 h6⟩
          rcases h3 with h3 | h3
          · exact .inl h3
          · subst h3; exact h5
theorem adj_cases (os : List (List Nat)) : (os = [[35]] ∧ adj os = [[43], [35]]) ∨ (os = [[], [35]] ∧ adj os = [[], [43], [35]]) ∨ (os ≠ [[35]] ∧ os ≠ [[], [35]] ∧ adj os = os) := by
  by_cases h1 : os = [[35]]
  · subst h1; exact .inl ⟨rfl, rfl⟩
  · by_cases h2 : os = [[], [35]]
    · subst h2; exact .inr (.inl ⟨rfl, rfl⟩)
    · refine .inr (.inr ⟨h1, h2, ?_⟩)
      unfold adj
      have e1 : ([[35]] == os) = false := by rw [beq_eq_false_iff_ne]; exact fun h => h1 h.symm
      have e2 : ([[], [35]] == os) = false := by rw [beq_eq_false_iff_ne]; exact fun h => h2 h.symm
      rw [e1, e2]; rfl
theorem adj_fits {os qs : List (List Nat)} (h : fitsL os qs = true) (hq : qs ≠ []) (hq2 : qs ≠ [[]]) : fitsL (adj os) qs = true := by
  rcases adj_cases os with ⟨e1, e2⟩ | ⟨e1, e2⟩ | ⟨_, _, e2⟩
  · rw [e2]
    cases qs with
    | nil => exact absurd rfl hq
    | cons q qs => exact (fits_cons (by decide)).mpr ⟨.inl rfl, fits_hash⟩
  · rw [e2]
    subst e1
    cases qs with
    | nil => exact absurd rfl hq
    | cons q qs =>
      obtain ⟨h1, _⟩ := (fits_cons (by decide)).mp h
      rcases h1 with h1 | h1
      · simp at h1
      · subst h1
        cases qs with
        | nil => exact absurd rfl hq2
        | cons q2 qs => exact (fits_cons (by decide)).mpr ⟨.inr rfl, (fits_cons (by decide)).mpr ⟨.inl rfl, fits_hash⟩⟩
  · rw [e2]; exact h
theorem adj_covers {os cs : List (List Nat)} (h : coversL os (adj cs) = true) (ok : okW cs) (h0 : cs ≠ []) (h1 : cs ≠ [[]]) : coversL (adj os) (adj cs) = true := by
  rcases adj_cases os with ⟨e1, e2⟩ | ⟨e1, e2⟩ | ⟨_, _, e2⟩
  · rw [e2]
    rcases adj_cases cs with ⟨_, c2⟩ | ⟨_, c2⟩ | ⟨c1, _, c2⟩
    · rw [c2]; decide
    · rw [c2]; decide
    · rw [c2]
      cases cs with
      | nil => exact absurd rfl h0
      | cons c cs =>
        refine (covers_cons (by decide)).mpr ⟨fun e => ?_, .inl rfl, covers_hash⟩
        have := ok.1 e
        subst this; subst e
        exact c1 rfl
  · rw [e2]
    subst e1
    rcases adj_cases cs with ⟨_, c2⟩ | ⟨_, c2⟩ | ⟨c1, c3, c2⟩
    · rw [c2] at h; exact absurd h (by decide)
    · rw [c2]; decide
    · rw [c2] at h ⊢
      cases cs with
      | nil => exact absurd rfl h0
      | cons c cs =>
        obtain ⟨hc, h3, _⟩ := (covers_cons (by decide)).mp h
        rcases h3 with h3 | h3
        · simp at h3
        · subst h3
          cases cs with
          | nil => exact absurd rfl h1
          | cons c2 cs =>
            refine (covers_cons (by decide)).mpr ⟨hc, .inr rfl, (covers_cons (by decide)).mpr ⟨fun e => ?_, .inl rfl, covers_hash⟩⟩
            have := ok.2.1 e
            subst this; subst e
            exact c3 rfl
  · rw [e2]; exact h
theorem fitsC_iff {w l : List Nat} : fitsC w l = true ↔ ¬ (wide (splC 47 w) = true ∧ TL.pre [36] l = true) ∧ fitsL (splC 47 w) (splC 47 l) = true := by
  unfold fitsC
  cases wide (splC 47 w) <;> cases TL.pre [36] l <;> simp
theorem coversC_iff {w l : List Nat} : coversC w l = true ↔ ¬ (wide (splC 47 w) = true ∧ TL.pre [36] l = true) ∧ coversL (splC 47 w) (adj (splC 47 l)) = true := by
  unfold coversC
  cases wide (splC 47 w) <;> cases TL.pre [36] l <;> simp
theorem not_wide {p : List Nat} {ps : List (List Nat)} (h : ¬ wide (p :: ps) = true) : p ≠ [43] ∧ p ≠ [35] := ⟨fun e => h (wide_cons.mpr (.inl e)), fun e => h (wide_cons.mpr (.inr e))⟩
/-- what fits a wish fits what covers it -/
theorem covers_fits0 {a b n : List Nat} (hn : splC 47 n ≠ [[]]) (hc : coversC a b = true) (hf : fitsC b n = true) : fitsC a n = true := by
  obtain ⟨c1, c2⟩ := coversC_iff.mp hc
  obtain ⟨f1, f2⟩ := fitsC_iff.mp hf
  refine fitsC_iff.mpr ⟨fun ⟨k1, k2⟩ => ?_, fits_trans c2 (adj_fits f2 (splC_ne 47 n) hn)⟩
  have nb : ¬ wide (splC 47 b) = true := fun h => f1 ⟨h, k2⟩
  obtain ⟨p, ps, e⟩ := splC_cons b
  obtain ⟨q, qs, e2⟩ := splC_cons n
  rw [e] at nb f2
  rw [e2] at f2
  obtain ⟨h1, h2⟩ := not_wide nb
  obtain ⟨h3, _⟩ := (fits_cons h2).mp f2
  rcases h3 with h3 | h3
  · exact h1 h3
  · subst h3
    refine c1 ⟨k1, ?_⟩
    rw [pre_hd e, ← pre_hd e2]
    exact k2
theorem covers_fits {a b n : List Nat} (hn : isName n = true) (hc : coversC a b = true) (hf : fitsC b n = true) : fitsC a n = true := covers_fits0 (name_ne hn) hc hf
theorem covers_covers {a b c : List Nat} (hc : isWish c = true) (h1 : coversC a b = true) (h2 : coversC b c = true) : coversC a c = true := by
  obtain ⟨c1, c2⟩ := coversC_iff.mp h1
  obtain ⟨f1, f2⟩ := coversC_iff.mp h2
  refine coversC_iff.mpr ⟨fun ⟨k1, k2⟩ => ?_, covers_trans c2 (adj_covers f2 (wish_ok hc) (splC_ne 47 c) (wish_ne hc))⟩
  have nb : ¬ wide (splC 47 b) = true := fun h => f1 ⟨h, k2⟩
  obtain ⟨p, ps, e⟩ := splC_cons b
  obtain ⟨q, qs, e2⟩ := splC_cons c
  have k3 := k2
  rw [pre_hd e2] at k3
  have ha : adj (splC 47 c) = splC 47 c := by
    rcases adj_cases (splC 47 c) with ⟨e1, _⟩ | ⟨e1, _⟩ | ⟨_, _, e3⟩
    · rw [e1] at e2
      simp only [List.cons.injEq] at e2
      rw [← e2.1] at k3
      exact absurd k3 (by decide)
    · rw [e1] at e2
      simp only [List.cons.injEq] at e2
      rw [← e2.1] at k3
      exact absurd k3 (by decide)
    · exact e3
  rw [ha, e, e2] at f2
  rw [e] at nb
  obtain ⟨h1, h2⟩ := not_wide nb
  obtain ⟨_, h3, _⟩ := (covers_cons h2).mp f2
  rcases h3 with h3 | h3
  · exact h1 h3
  · subst h3
    refine c1 ⟨k1, ?_⟩
    rw [pre_hd e]
    exact k3
/-! ### meeting -/
theorem plainL_cons {p : List Nat} {ps : List (List Nat)} (h : p ≠ [35]) : plainL (p :: ps) = pl1 p :: plainL ps := by
  unfold plainL
  have : (!(p == [35])) = true := by simpa using h
  rw [List.filter_cons, this, if_pos rfl, List.map_cons]
theorem both_cons {p o : List Nat} {ps os : List (List Nat)} (hp : p ≠ [35]) (ho : o ≠ [35]) (h : ¬ (p ≠ o ∧ p ≠ [43] ∧ o ≠ [43])) : bothL (p :: ps) (o :: os) = (bothL ps os).map fun r => pl1 (if p = [43] then o else p) :: r := by
  rw [bothL, if_neg hp, if_neg ho, if_neg h]
theorem both_no {p o : List Nat} {ps os : List (List Nat)} (hp : p ≠ [35]) (ho : o ≠ [35]) (h : p ≠ o ∧ p ≠ [43] ∧ o ≠ [43]) : bothL (p :: ps) (o :: os) = none := by
  rw [bothL, if_neg hp, if_neg ho, if_pos h]
theorem both_hash2 {p : List Nat} {ps os : List (List Nat)} (hp : p ≠ [35]) : bothL (p :: ps) ([35] :: os) = some (plainL (p :: ps)) := by
  rw [bothL, if_neg hp, if_pos rfl]
theorem both_symm : ∀ {ps os : List (List Nat)}, okW ps → okW os → bothL ps os = bothL os ps
  | [], [], _, _ => rfl
  | [], o :: os, _, _ => by
    simp only [bothL]
    rfl
  | p :: ps, [], _, _ => by
    simp only [bothL]
    rfl
  | p :: ps, o :: os, h1, h2 => by
    by_cases hp : p = [35]
    · by_cases ho : o = [35]
      · rw [bothL_hash hp, bothL_hash ho, h1.1 hp, h2.1 ho, hp, ho]
      · rw [bothL_hash hp]
        subst hp
        rw [both_hash2 ho]
    · by_cases ho : o = [35]
      · rw [bothL_hash ho]
        subst ho
        rw [both_hash2 hp]
      · by_cases h : p ≠ o ∧ p ≠ [43] ∧ o ≠ [43]
        · rw [both_no hp ho h, both_no ho hp ⟨fun e => h.1 e.symm, h.2.2, h.2.1⟩]
        · have h' : ¬ (o ≠ p ∧ o ≠ [43] ∧ p ≠ [43]) := fun k => h ⟨fun e => k.1 e.symm, k.2.2, k.2.1⟩
          rw [both_cons hp ho h, both_cons ho hp h', both_symm h1.2 h2.2]
          have e : (if p = [43] then o else p) = (if o = [43] then p else o) := by
            by_cases e1 : p = [43]
            · by_cases e2 : o = [43]
              · rw [if_pos e1, if_pos e2, e1, e2]
              · rw [if_pos e1, if_neg e2]
            · by_cases e2 : o = [43]
              · rw [if_neg e1, if_pos e2]
              · rw [if_neg e1, if_neg e2]
                by_cases e3 : p = o
                · exact e3
                · exact absurd ⟨e3, e1, e2⟩ h
          rw [e]
theorem pl1_fit {p : List Nat} : p = [43] ∨ pl1 p = p := by
  by_cases h : p = [43]
  · exact .inl h
  · exact .inr (if_neg h)
theorem plain_fits : ∀ {ps : List (List Nat)}, okW ps → fitsL ps (plainL ps) = true
  | [], _ => rfl
  | p :: ps, h => by
    by_cases hp : p = [35]
    · subst hp; exact fits_hash
    · rw [plainL_cons hp]
      exact (fits_cons hp).mpr ⟨pl1_fit, plain_fits h.2⟩
theorem both_fits : ∀ {ps os f : List (List Nat)}, okW ps → bothL ps os = some f → fitsL ps f = true
  | [], [], f, _, h => by simp only [bothL, Option.some.injEq] at h; subst h; rfl
  | [], o :: os, f, _, h => by
    simp only [bothL] at h
    split at h
    · cases h; rfl
    · cases h
  | p :: ps, os, f, ok, h => by
    by_cases hp : p = [35]
    · subst hp; exact fits_hash
    · cases os with
      | nil => rw [bothL, if_neg hp] at h; cases h
      | cons o os =>
        by_cases ho : o = [35]
        · subst ho
          rw [both_hash2 hp] at h
          cases h
          exact plain_fits ok
        · by_cases hc : p ≠ o ∧ p ≠ [43] ∧ o ≠ [43]
          · rw [both_no hp ho hc] at h; cases h
          · rw [both_cons hp ho hc] at h
            obtain ⟨r, h1, h2⟩ := Option.map_eq_some_iff.mp h
            rw [← h2]
            refine (fits_cons hp).mpr ⟨?_, both_fits ok.2 h1⟩
            by_cases e : p = [43]
            · exact .inl e
            · rw [if_neg e]
              exact pl1_fit
theorem both_some : ∀ {ps os qs : List (List Nat)}, fitsL ps qs = true → fitsL os qs = true → bothL ps os ≠ none
  | [], os, qs, h1, h2 => by
    cases qs with
    | cons q qs => simp [fitsL] at h1
    | nil =>
      cases os with
      | nil => simp [bothL]
      | cons o os =>
        by_cases ho : o = [35]
        · simp [bothL, ho]
        · rw [fits_nil ho] at h2; cases h2
  | p :: ps, os, qs, h1, h2 => by
    by_cases hp : p = [35]
    · rw [bothL_hash hp]; simp
    · cases qs with
      | nil => rw [fits_nil hp] at h1; cases h1
      | cons q qs =>
        cases os with
        | nil => simp [fitsL] at h2
        | cons o os =>
          by_cases ho : o = [35]
          · subst ho; rw [both_hash2 hp]; simp
          · obtain ⟨a1, a2⟩ := (fits_cons hp).mp h1
            obtain ⟨b1, b2⟩ := (fits_cons ho).mp h2
            have hc : ¬ (p ≠ o ∧ p ≠ [43] ∧ o ≠ [43]) := fun ⟨k1, k2, k3⟩ => by
              rcases a1 with a1 | a1
              · exact k2 a1
              · rcases b1 with b1 | b1
                · exact k3 b1
                · exact k1 (a1.symm.trans b1)
            rw [both_cons hp ho hc]
            have ih := both_some a2 b2
            cases hb : bothL ps os with
            | none => exact absurd hb ih
            | some r => simp
theorem plainL_nil {ps : List (List Nat)} (ok : okW ps) (h : plainL ps = []) : ps = [] ∨ ps = [[35]] := by
  cases ps with
  | nil => exact .inl rfl
  | cons p ps =>
    by_cases hp : p = [35]
    · rw [ok.1 hp, hp]; exact .inr rfl
    · rw [plainL_cons hp] at h; cases h
theorem pl1_nil {p : List Nat} (h : pl1 p = []) : p = [] := by
  unfold pl1 at h
  split at h
  · simp at h
  · exact h
/-- where the meeting is the empty level alone -/
theorem both_empty {ps os qs : List (List Nat)} (ok : okW ps) (h : bothL ps os = some [[]]) (f1 : fitsL ps qs = true) (f2 : fitsL os qs = true) (hq : qs ≠ [[]]) : fitsL ps [[], [97]] = true := by
  cases ps with
  | nil =>
    cases os with
    | nil => simp [bothL] at h
    | cons o os =>
      simp only [bothL] at h
      split at h
      · cases h
      · cases h
  | cons p ps =>
    by_cases hp : p = [35]
    · subst hp; exact fits_hash
    · cases os with
      | nil => rw [bothL, if_neg hp] at h; cases h
      | cons o os =>
        by_cases ho : o = [35]
        · subst ho
          rw [both_hash2 hp, plainL_cons hp] at h
          simp only [Option.some.injEq, List.cons.injEq] at h
          have e := pl1_nil h.1
          subst e
          rcases plainL_nil ok.2 h.2 with e | e
          · subst e
            cases qs with
            | nil => rw [fits_nil hp] at f1; cases f1
            | cons q qs =>
              obtain ⟨a1, a2⟩ := (fits_cons hp).mp f1
              rcases a1 with a1 | a1
              · simp at a1
              · subst a1
                cases qs with
                | nil => exact absurd rfl hq
                | cons q2 qs => simp [fitsL] at a2
          · subst e; decide
        · by_cases hc : p ≠ o ∧ p ≠ [43] ∧ o ≠ [43]
          · rw [both_no hp ho hc] at h; cases h
          · rw [both_cons hp ho hc] at h
            obtain ⟨r, h1, h2⟩ := Option.map_eq_some_iff.mp h
            simp only [List.cons.injEq] at h2
            obtain ⟨h3, h4⟩ := h2
            subst h4
            have h5 := pl1_nil h3
            have hpe : p = [43] ∨ p = [] := by
              by_cases e : p = [43]
              · exact .inl e
              · rw [if_neg e] at h5; exact .inr h5
            cases ps with
            | nil =>
              exfalso
              cases qs with
              | nil => rw [fits_nil hp] at f1; cases f1
              | cons q qs =>
                obtain ⟨a1, a2⟩ := (fits_cons hp).mp f1
                obtain ⟨b1, b2⟩ := (fits_cons ho).mp f2
                have hqs : qs = [] := by
                  cases qs with
                  | nil => rfl
                  | cons q2 qs => simp [fitsL] at a2
                subst hqs
                have hq0 : q = [] := by
                  by_cases e : p = [43]
                  · rw [if_pos e] at h5
                    subst h5
                    rcases b1 with b1 | b1
                    · simp at b1
                    · exact b1
                  · rw [if_neg e] at h5
                    subst h5
                    rcases a1 with a1 | a1
                    · simp at a1
                    · exact a1
                subst hq0
                exact hq rfl
            | cons p2 ps2 =>
              by_cases hp2 : p2 = [35]
              · subst hp2
                refine (fits_cons hp).mpr ⟨?_, fits_hash⟩
                rcases hpe with e | e
                · exact .inl e
                · exact .inr e.symm
              · exfalso
                cases os with
                | nil => rw [bothL, if_neg hp2] at h1; cases h1
                | cons o2 os2 =>
                  by_cases ho2 : o2 = [35]
                  · subst ho2
                    rw [both_hash2 hp2, plainL_cons hp2] at h1
                    cases h1
                  · by_cases hc2 : p2 ≠ o2 ∧ p2 ≠ [43] ∧ o2 ≠ [43]
                    · rw [both_no hp2 ho2 hc2] at h1; cases h1
                    · rw [both_cons hp2 ho2 hc2] at h1
                      obtain ⟨r, _, h6⟩ := Option.map_eq_some_iff.mp h1
                      cases h6
theorem split_slasha : splC 47 [47, 97] = [[], [97]] := by decide
theorem fits_slasha {w : List Nat} (h : fitsL (splC 47 w) [[], [97]] = true) : fitsC w [47, 97] = true :=
  fitsC_iff.mpr ⟨fun ⟨_, k⟩ => absurd k (by decide), by rw [split_slasha]; exact h⟩
theorem meet_symm {a b : List Nat} (ha : isWish a = true) (hb : isWish b = true) : meetC a b = meetC b a := by
  unfold meetC
  rw [both_symm (wish_ok ha) (wish_ok hb), Bool.or_comm, Bool.and_comm (fitsC a [47, 97])]
/-- two wishes that a name fits are met -/
theorem meet_some0 {a b n : List Nat} (ha : isWish a = true) (hb : isWish b = true) (hn : splC 47 n ≠ [[]]) (f1 : fitsC a n = true) (f2 : fitsC b n = true) : meetC a b ≠ none := by
  obtain ⟨a1, a2⟩ := fitsC_iff.mp f1
  obtain ⟨b1, b2⟩ := fitsC_iff.mp f2
  have hx : ∀ {x y : List Nat}, isWish x = true → ¬ (wide (splC 47 x) = true ∧ TL.pre [36] n = true) → ¬ (wide (splC 47 y) = true ∧ TL.pre [36] n = true) → fitsL (splC 47 y) (splC 47 n) = true → ¬ (wide (splC 47 x) = true ∧ TL.pre [36] y = true) := fun {x y} _ x1 y1 y2 ⟨k1, k2⟩ => by
    obtain ⟨p, ps, e⟩ := splC_cons y
    obtain ⟨q, qs, e2⟩ := splC_cons n
    have k3 := k2
    rw [pre_hd e] at k3
    have hp1 : p ≠ [43] := fun h => by subst h; exact absurd k3 (by decide)
    have hp2 : p ≠ [35] := fun h => by subst h; exact absurd k3 (by decide)
    rw [e, e2] at y2
    obtain ⟨h3, _⟩ := (fits_cons hp2).mp y2
    rcases h3 with h3 | h3
    · exact hp1 h3
    · subst h3
      exact x1 ⟨k1, by rw [pre_hd e2]; exact k3⟩
  have c : ((wide (splC 47 a) && TL.pre [36] b) || (wide (splC 47 b) && TL.pre [36] a)) = false := by
    have c1 := hx ha a1 b1 b2
    have c2 := hx hb b1 a1 a2
    clear hx
    revert c1 c2
    cases wide (splC 47 a) <;> cases TL.pre [36] b <;> cases wide (splC 47 b) <;> cases TL.pre [36] a <;> simp
  unfold meetC
  rw [c, if_neg Bool.false_ne_true]
  cases hbo : bothL (splC 47 a) (splC 47 b) with
  | none => exact absurd hbo (both_some a2 b2)
  | some f =>
    simp only []
    split
    · simp
    · split
      · rename_i h
        subst h
        have g1 := fits_slasha (both_empty (wish_ok ha) hbo a2 b2 hn)
        have g2 := fits_slasha (both_empty (wish_ok hb) (by rw [both_symm (wish_ok hb) (wish_ok ha)]; exact hbo) b2 a2 hn)
        rw [g1, g2]
        simp
      · simp
theorem meet_some {a b n : List Nat} (ha : isWish a = true) (hb : isWish b = true) (hn : isName n = true) (f1 : fitsC a n = true) (f2 : fitsC b n = true) : meetC a b ≠ none := meet_some0 ha hb (name_ne hn) f1 f2
theorem both_max : ∀ {ps os f : List (List Nat)}, bothL ps os = some f → f.length ≤ max ps.length os.length
  | [], [], f, h => by simp only [bothL, Option.some.injEq] at h; subst h; simp
  | [], o :: os, f, h => by
    simp only [bothL] at h
    split at h
    · cases h; simp
    · cases h
  | p :: ps, os, f, h => by
    by_cases hp : p = [35]
    · rw [bothL_hash hp] at h
      cases h
      have := plainL_len os
      omega
    · cases os with
      | nil => rw [bothL, if_neg hp] at h; cases h
      | cons o os =>
        by_cases ho : o = [35]
        · subst ho
          rw [both_hash2 hp] at h
          cases h
          have := plainL_len (p :: ps)
          omega
        · by_cases hc : p ≠ o ∧ p ≠ [43] ∧ o ≠ [43]
          · rw [both_no hp ho hc] at h; cases h
          · rw [both_cons hp ho hc] at h
            obtain ⟨r, h1, h2⟩ := Option.map_eq_some_iff.mp h
            have := both_max h1
            rw [← h2]
            simp only [List.length_cons]
            omega
theorem gl_free {l : List Nat} (h : gl l = true) : 47 ∉ l := fun hm => by
  unfold gl at h
  simp only [Bool.and_eq_true] at h
  have := List.all_eq_true.mp h.2 47 hm
  exact absurd this (by decide)
theorem joinL_nil {f : List (List Nat)} (h : TL.joinL [47] f = []) : f = [] ∨ f = [[]] := by
  match f, h with
  | [], _ => exact .inl rfl
  | [p], h => right; rw [show p = [] from h]
  | p :: q :: r, h => simp [TL.joinL] at h
theorem name_join {f : List (List Nat)} (h0 : f ≠ []) (h1 : f ≠ [[]]) (hg : ∀ x ∈ f, gl x = true) (h8 : f.length ≤ 8) : isName (TL.joinL [47] f) = true ∧ splC 47 (TL.joinL [47] f) = f := by
  have e := splC_join 47 h0 fun p hp => gl_free (hg p hp)
  refine ⟨?_, e⟩
  unfold isName
  rw [e]
  have : (TL.joinL [47] f == []) = false := by
    rw [beq_eq_false_iff_ne]
    intro h
    rcases joinL_nil h with h | h
    · exact h0 h
    · exact h1 h
  rw [this, decide_eq_true h8]
  exact List.all_eq_true.mpr hg
/-- what is told fits both -/
theorem meet_fits1 {a b m : List Nat} (ha : isWish a = true) (hb : isWish b = true) (h : meetC a b = some m) : isName m = true ∧ fitsC a m = true := by
  unfold meetC at h
  split at h
  · cases h
  · rename_i hc
    cases hbo : bothL (splC 47 a) (splC 47 b) with
    | none => rw [hbo] at h; cases h
    | some f =>
      rw [hbo] at h
      simp only [] at h
      have hfa := both_fits (wish_ok ha) hbo
      split at h
      · rename_i h0
        cases h
        subst h0
        refine ⟨by decide, fitsC_iff.mpr ⟨fun ⟨_, k⟩ => absurd k (by decide), ?_⟩⟩
        obtain ⟨p, ps, e⟩ := splC_cons a
        rw [e] at hfa ⊢
        by_cases hp : p = [35]
        · subst hp; exact fits_hash
        · rw [fits_nil hp] at hfa; cases hfa
      · split at h
        · split at h
          · rename_i hk
            cases h
            rw [Bool.and_eq_true] at hk
            exact ⟨by decide, hk.1⟩
          · cases h
        · rename_i h0 h1
          cases h
          have hg := both_gl (wish_mem ha) (wish_mem hb) hbo
          have h8 := both_max hbo
          have l1 := len_of_wish ha
          have l2 := len_of_wish hb
          obtain ⟨n1, n2⟩ := name_join h0 h1 hg (by omega)
          refine ⟨n1, fitsC_iff.mpr ⟨fun ⟨k1, k2⟩ => ?_, by rw [n2]; exact hfa⟩⟩
          -- a name that begins with $
          obtain ⟨p, ps, e⟩ := splC_cons a
          obtain ⟨q, qs, e2⟩ := splC_cons b
          obtain ⟨x, xs, e3⟩ := List.exists_cons_of_ne_nil h0
          have k3 := k2
          rw [pre_hd (n2.trans e3)] at k3
          have hpb : ¬ TL.pre [36] b = true := fun h => hc (by rw [k1, h]; rfl)
          rw [pre_hd e2] at hpb
          have x97 : x ≠ [97] := fun h => by subst h; exact absurd k3 (by decide)
          have key : x = pl1 q → False := fun h => by
            rcases pl1_fit (p := q) with h2 | h2
            · subst h2; exact x97 h
            · rw [h2] at h; subst h; exact hpb k3
          rw [e, e2, e3] at hbo
          rw [e] at k1
          rcases wide_cons.mp k1 with hp | hp
          · subst hp
            by_cases hq : q = [35]
            · subst hq
              rw [both_hash2 (by decide), plainL_cons (by decide)] at hbo
              simp only [Option.some.injEq, List.cons.injEq] at hbo
              exact x97 hbo.1.symm
            · rw [both_cons (by decide) hq (fun h => h.2.1 rfl)] at hbo
              obtain ⟨r, _, h3⟩ := Option.map_eq_some_iff.mp hbo
              simp only [List.cons.injEq, if_true] at h3
              exact key h3.1.symm
          · subst hp
            rw [bothL_hash rfl] at hbo
            by_cases hq : q = [35]
            · have ob := wish_ok hb
              rw [e2] at ob
              have := ob.1 hq
              subst this; subst hq
              exact absurd hbo (by simp [plainL])
            · rw [plainL_cons hq] at hbo
              simp only [Option.some.injEq, List.cons.injEq] at hbo
              exact key hbo.1.symm
theorem meet_fits {a b m : List Nat} (ha : isWish a = true) (hb : isWish b = true) (h : meetC a b = some m) : isName m = true ∧ fitsC a m = true ∧ fitsC b m = true := by
  obtain ⟨h1, h2⟩ := meet_fits1 ha hb h
  rw [meet_symm ha hb] at h
  exact ⟨h1, h2, (meet_fits1 hb ha h).2⟩
theorem both_self : ∀ ps : List (List Nat), bothL ps ps = some (plainL ps)
  | [] => rfl
  | p :: ps => by
    by_cases hp : p = [35]
    · rw [bothL_hash hp]
    · rw [both_cons hp hp (fun h => h.1 rfl), both_self ps, plainL_cons hp]
      simp
theorem meet_self {b : List Nat} (hb : isWish b = true) : meetC b b ≠ none := by
  have hc : (wide (splC 47 b) && TL.pre [36] b) = false := by
    obtain ⟨p, ps, e⟩ := splC_cons b
    rw [pre_hd e, e, Bool.and_eq_false_iff]
    by_cases h : wide (p :: ps) = true
    · right
      rcases wide_cons.mp h with h | h <;> (subst h; rfl)
    · left; simpa using h
  unfold meetC
  rw [hc, both_self]
  simp only [Bool.or_false, Bool.false_eq_true, if_false]
  split
  · simp
  · split
    · rename_i h
      have hf : fitsL (splC 47 b) [[], [97]] = true := by
        cases e : splC 47 b with
        | nil => exact absurd e (splC_ne 47 b)
        | cons p ps =>
          by_cases hp : p = [35]
          · subst hp; exact fits_hash
          · have ok := wish_ok hb
            rw [e] at h ok
            rw [plainL_cons hp] at h
            simp only [List.cons.injEq] at h
            have e1 := pl1_nil h.1
            subst e1
            rcases plainL_nil ok.2 h.2 with e2 | e2
            · subst e2; exact absurd e (wish_ne hb)
            · subst e2; decide
      rw [fits_slasha hf]
      simp
    · simp
theorem covers_meet {a b : List Nat} (ha : isWish a = true) (hb : isWish b = true) (h : coversC a b = true) : meetC a b ≠ none := by
  cases e : meetC b b with
  | none => exact absurd e (meet_self hb)
  | some m =>
    obtain ⟨h1, h2, _⟩ := meet_fits hb hb e
    exact meet_some ha hb h1 (covers_fits h1 h h2) h2
end Tx
namespace Tx
open PySem L2 Pd
/-! ### small wishes: what does not cover is shown by a name -/
def menu : List (List Nat) := [[97], [98], [99], [], [36, 115]]
def inst (p : List Nat) : List Nat := if p = [43] then [99] else p
def instL (os : List (List Nat)) : List (List Nat) := (os.filter fun p => !(p == [35])).map inst
theorem instL_cons {o : List Nat} {os : List (List Nat)} (h : o ≠ [35]) : instL (o :: os) = inst o :: instL os := by
  unfold instL
  have : (!(o == [35])) = true := by simpa using h
  rw [List.filter_cons, this, if_pos rfl, List.map_cons]
theorem inst_fit (o : List Nat) : o = [43] ∨ inst o = o := by
  by_cases h : o = [43]
  · exact .inl h
  · exact .inr (if_neg h)
theorem instL_fits : ∀ {os : List (List Nat)}, okW os → fitsL os (instL os) = true
  | [], _ => rfl
  | o :: os, h => by
    by_cases ho : o = [35]
    · subst ho; exact fits_hash
    · rw [instL_cons ho]
      exact (fits_cons ho).mpr ⟨inst_fit o, instL_fits h.2⟩
theorem instL_nil {os : List (List Nat)} (ok : okW os) (h : instL os = []) : os = [] ∨ os = [[35]] := by
  cases os with
  | nil => exact .inl rfl
  | cons o os =>
    by_cases ho : o = [35]
    · rw [ok.1 ho, ho]; exact .inr rfl
    · rw [instL_cons ho] at h; cases h
theorem instL_len (os : List (List Nat)) : (instL os).length ≤ os.length := by
  unfold instL
  rw [List.length_map]
  exact List.length_filter_le _ _
/-- levels of small wishes -/
def smallL (ps : List (List Nat)) : Prop := ∀ p ∈ ps, p ∈ [[97], [98], [43], [], [36, 115], [35]]
theorem inst_menu {p : List Nat} (h : p ∈ [[97], [98], [43], [], [36, 115], [35]]) (hp : p ≠ [35]) : inst p ∈ menu := by
  simp only [List.mem_cons, List.not_mem_nil, or_false] at h
  rcases h with h | h | h | h | h | h
  · subst h; decide
  · subst h; decide
  · subst h; decide
  · subst h; decide
  · subst h; decide
  · exact absurd h hp
theorem instL_menu {os : List (List Nat)} (h : smallL os) : ∀ q ∈ instL os, q ∈ menu := fun q hq => by
  unfold instL at hq
  obtain ⟨p, h1, h2⟩ := List.mem_map.mp hq
  rw [List.mem_filter] at h1
  rw [← h2]
  exact inst_menu (h p h1.1) (by simpa using h1.2)
theorem no_c {p : List Nat} (h : p ∈ [[97], [98], [43], [], [36, 115], [35]]) : p ≠ [99] := fun e => by
  subst e
  exact absurd h (by decide)
theorem not_covers : ∀ {ps os : List (List Nat)}, smallL ps → smallL os → okW os → coversL ps os = false →
    ∃ Q, fitsL os Q = true ∧ fitsL ps Q = false ∧ (∀ q ∈ Q, q ∈ menu) ∧ Q.length ≤ os.length ∧ (Q = [] → os = [] ∨ os = [[35]]) ∧ (∀ o os', os = o :: os' → o ≠ [35] → ∃ Q', Q = inst o :: Q' ∧ (Q' = [] → os' = [] ∨ os' = [[35]]))
  | [], os, _, h2, ok, hc => by
    cases os with
    | nil => cases hc
    | cons o os =>
      by_cases ho : o = [35]
      · refine ⟨[[99]], by subst ho; exact fits_hash, rfl, fun q hq => by simp at hq; subst hq; decide, by simp, (fun h => by cases h), fun o' os' e h => ?_⟩
        cases e
        exact absurd ho h
      · refine ⟨instL (o :: os), instL_fits ok, by rw [instL_cons ho]; rfl, instL_menu h2, instL_len _, instL_nil ok, fun o' os' e h => ?_⟩
        cases e
        exact ⟨instL os, instL_cons ho, instL_nil ok.2⟩
  | p :: ps, os, h1, h2, ok, hc => by
    have hp : p ≠ [35] := fun e => by subst e; rw [covers_hash] at hc; cases hc
    cases os with
    | nil => exact ⟨[], rfl, fits_nil hp, (fun _ h => nomatch h), Nat.le_refl _, (fun _ => .inl rfl), fun o os' e => by cases e⟩
    | cons o os =>
      by_cases ho : o = [35]
      · have := ok.1 ho
        subst this; subst ho
        exact ⟨[], fits_hash, fits_nil hp, (fun _ h => nomatch h), by simp, (fun _ => .inr rfl), fun o os' e h => by cases e; exact absurd rfl h⟩
      · have hm := inst_menu (h2 o List.mem_cons_self) ho
        by_cases hpo : p = [43] ∨ o = p
        · have hc2 : coversL ps os = false := by
            cases hh : coversL ps os with
            | false => rfl
            | true =>
              rw [(covers_cons hp).mpr ⟨ho, hpo, hh⟩] at hc
              cases hc
          obtain ⟨Q, q1, q2, q3, q4, q5, _⟩ := not_covers (fun x hx => h1 x (List.mem_cons_of_mem _ hx)) (fun x hx => h2 x (List.mem_cons_of_mem _ hx)) ok.2 hc2
          refine ⟨inst o :: Q, (fits_cons ho).mpr ⟨inst_fit o, q1⟩, ?_, fun q hq => ?_, by simp; omega, (fun h => by cases h), fun o' os' e h => ?_⟩
          · cases hh : fitsL (p :: ps) (inst o :: Q) with
            | false => rfl
            | true =>
              rw [((fits_cons hp).mp hh).2] at q2
              cases q2
          · rcases List.mem_cons.mp hq with hq | hq
            · rw [hq]; exact hm
            · exact q3 q hq
          · cases e
            exact ⟨Q, rfl, q5⟩
        · have hpo1 : p ≠ [43] := fun e => hpo (.inl e)
          have hpo2 : o ≠ p := fun e => hpo (.inr e)
          have hne : inst o ≠ p := by
            unfold inst
            split
            · exact fun e => no_c (h1 p List.mem_cons_self) e.symm
            · exact hpo2
          refine ⟨instL (o :: os), instL_fits ok, ?_, instL_menu h2, instL_len _, instL_nil ok, fun o' os' e h => ?_⟩
          · rw [instL_cons ho]
            cases hh : fitsL (p :: ps) (inst o :: instL os) with
            | false => rfl
            | true =>
              rcases ((fits_cons hp).mp hh).1 with e | e
              · exact absurd e hpo1
              · exact absurd e hne
          · cases e
            exact ⟨instL os, instL_cons ho, instL_nil ok.2⟩
theorem menu_free {Q : List (List Nat)} (h : ∀ q ∈ Q, q ∈ menu) : ∀ p ∈ Q, 47 ∉ p := fun p hp => by
  have := h p hp
  unfold menu at this
  simp only [List.mem_cons, List.not_mem_nil, or_false] at this
  rcases this with e | e | e | e | e <;> (subst e; decide)
theorem small_adj {os : List (List Nat)} (h : smallL os) (ok : okW os) : smallL (adj os) ∧ okW (adj os) ∧ (adj os).length ≤ os.length + 1 := by
  rcases adj_cases os with ⟨e1, e2⟩ | ⟨e1, e2⟩ | ⟨_, _, e2⟩
  · rw [e2, e1]
    exact ⟨fun p hp => by simp only [List.mem_cons, List.not_mem_nil, or_false] at hp; rcases hp with e | e <;> (subst e; decide), ⟨fun h => absurd h (by decide), ⟨fun _ => rfl, trivial⟩⟩, by decide⟩
  · rw [e2, e1]
    exact ⟨fun p hp => by simp only [List.mem_cons, List.not_mem_nil, or_false] at hp; rcases hp with e | e | e <;> (subst e; decide), ⟨fun h => absurd h (by decide), ⟨fun h => absurd h (by decide), ⟨fun _ => rfl, trivial⟩⟩⟩, by decide⟩
  · rw [e2]
    exact ⟨h, ok, by omega⟩
theorem fits_unadj {os qs : List (List Nat)} (h : fitsL (adj os) qs = true) : fitsL os qs = true := by
  rcases adj_cases os with ⟨e1, e2⟩ | ⟨e1, e2⟩ | ⟨_, _, e2⟩
  · subst e1; exact fits_hash
  · rw [e2] at h
    subst e1
    cases qs with
    | nil => rw [fits_nil (by decide)] at h; cases h
    | cons q qs =>
      obtain ⟨h1, _⟩ := (fits_cons (by decide)).mp h
      exact (fits_cons (by decide)).mpr ⟨h1, fits_hash⟩
  · rw [e2] at h; exact h
/-- THE WITNESS: of small wishes, where the one does not cover the other, a name of the menu fits the other alone -/
theorem covers_witness {a b : List Nat} (ha : smallL (splC 47 a)) (hb : smallL (splC 47 b)) (wb : isWish b = true) (h3 : (splC 47 b).length ≤ 3) (h : coversC a b = false) :
    ∃ Q, Q ≠ [] ∧ Q ≠ [[]] ∧ Q.length ≤ 4 ∧ (∀ q ∈ Q, q ∈ menu) ∧ fitsC b (TL.joinL [47] Q) = true ∧ fitsC a (TL.joinL [47] Q) = false := by
  have ok := wish_ok wb
  obtain ⟨o, os, e⟩ := splC_cons b
  by_cases hw : wide (splC 47 a) = true ∧ TL.pre [36] b = true
  · -- it begins with $
    have k := hw.2
    rw [pre_hd e] at k
    have ho : o = [36, 115] := by
      have := hb o (by rw [e]; exact List.mem_cons_self)
      simp only [List.mem_cons, List.not_mem_nil, or_false] at this
      rcases this with h | h | h | h | h | h
      · subst h; exact absurd k (by decide)
      · subst h; exact absurd k (by decide)
      · subst h; exact absurd k (by decide)
      · subst h; exact absurd k (by decide)
      · exact h
      · subst h; exact absurd k (by decide)
    have ho2 : o ≠ [35] := by rw [ho]; decide
    have hi : instL (splC 47 b) = [36, 115] :: instL os := by
      rw [e, instL_cons ho2, ho]; rfl
    have hne : instL (splC 47 b) ≠ [] := by rw [hi]; simp
    have hsp : splC 47 (TL.joinL [47] (instL (splC 47 b))) = instL (splC 47 b) := splC_join 47 hne (menu_free (instL_menu hb))
    have hpre : TL.pre [36] (TL.joinL [47] (instL (splC 47 b))) = true := by rw [pre_hd (hsp.trans hi)]; rfl
    refine ⟨instL (splC 47 b), hne, by rw [hi]; simp, by have := instL_len (splC 47 b); omega, instL_menu hb, fitsC_iff.mpr ⟨fun ⟨k1, _⟩ => ?_, by rw [hsp]; exact instL_fits ok⟩, ?_⟩
    · rw [e] at k1
      rcases wide_cons.mp k1 with h | h
      · rw [ho] at h; exact absurd h (by decide)
      · exact ho2 h
    · cases hh : fitsC a (TL.joinL [47] (instL (splC 47 b))) with
      | false => rfl
      | true => exact absurd ⟨hw.1, hpre⟩ (fitsC_iff.mp hh).1
  · have hc : coversL (splC 47 a) (adj (splC 47 b)) = false := by
      cases hh : coversL (splC 47 a) (adj (splC 47 b)) with
      | false => rfl
      | true =>
        rw [coversC_iff.mpr ⟨hw, hh⟩] at h
        cases h
    obtain ⟨s1, s2, s3⟩ := small_adj hb ok
    obtain ⟨Q, q1, q2, q3, q4, q5, q6⟩ := not_covers ha s1 s2 hc
    -- the first level of the other wish, as it is now
    have hfirst : ∃ o2 os2, adj (splC 47 b) = o2 :: os2 ∧ o2 ≠ [35] ∧ (o2 = [] → os2 ≠ [] ∧ os2 ≠ [[35]]) ∧ (wide (splC 47 b) = true → o2 = [43]) := by
      rcases adj_cases (splC 47 b) with ⟨e1, e2⟩ | ⟨e1, e2⟩ | ⟨e1, e3, e2⟩
      · exact ⟨_, _, e2, by decide, fun h => absurd h (by decide), fun _ => rfl⟩
      · refine ⟨_, _, e2, by decide, fun _ => ⟨by decide, by decide⟩, fun h => ?_⟩
        rw [e1] at h
        exact absurd h (by decide)
      · rw [e2, e]
        refine ⟨o, os, rfl, fun h => ?_, fun h => ⟨fun h2 => ?_, fun h2 => ?_⟩, fun h => ?_⟩
        · rw [e] at ok e1
          have := ok.1 h
          subst this; subst h
          exact e1 rfl
        · subst h; subst h2
          exact wish_ne wb e
        · subst h; subst h2
          exact e3 e
        · rcases wide_cons.mp h with h2 | h2
          · exact h2
          · rw [e] at ok e1
            have := ok.1 h2
            rw [this, h2] at e1
            exact absurd rfl e1
    obtain ⟨o2, os2, f1, f2, f3, f4⟩ := hfirst
    obtain ⟨Q', g1, g2⟩ := q6 o2 os2 f1 f2
    have hne : Q ≠ [] := by rw [g1]; simp
    have hne2 : Q ≠ [[]] := fun hh => by
      rw [g1] at hh
      simp only [List.cons.injEq] at hh
      have ho2 : o2 = [] := by
        have := hh.1
        unfold inst at this
        split at this
        · simp at this
        · exact this
      obtain ⟨z1, z2⟩ := f3 ho2
      rcases g2 hh.2 with z | z
      · exact z1 z
      · exact z2 z
    have hsp : splC 47 (TL.joinL [47] Q) = Q := splC_join 47 hne (menu_free q3)
    refine ⟨Q, hne, hne2, by omega, q3, fitsC_iff.mpr ⟨fun ⟨k1, k2⟩ => ?_, by rw [hsp]; exact fits_unadj q1⟩, ?_⟩
    · have ho2 := f4 k1
      rw [pre_hd (hsp.trans g1), ho2] at k2
      exact absurd k2 (by decide)
    · cases hh : fitsC a (TL.joinL [47] Q) with
      | false => rfl
      | true =>
        have := (fitsC_iff.mp hh).2
        rw [hsp, q2] at this
        cases this
theorem coversL_self : ∀ ps : List (List Nat), coversL ps ps = true
  | [] => rfl
  | p :: ps => by
    by_cases hp : p = [35]
    · subst hp; exact covers_hash
    · exact (covers_cons hp).mpr ⟨hp, .inr rfl, coversL_self ps⟩
theorem not_wide_pre (b : List Nat) : ¬ (wide (splC 47 b) = true ∧ TL.pre [36] b = true) := fun ⟨h1, h2⟩ => by
  obtain ⟨p, ps, e⟩ := splC_cons b
  rw [pre_hd e] at h2
  rw [e] at h1
  rcases wide_cons.mp h1 with h | h <;> (subst h; exact absurd h2 (by decide))
theorem covers_self (b : List Nat) : coversC b b = true := by
  refine coversC_iff.mpr ⟨not_wide_pre b, ?_⟩
  rcases adj_cases (splC 47 b) with ⟨e1, e2⟩ | ⟨e1, e2⟩ | ⟨_, _, e2⟩
  · rw [e2, e1]; decide
  · rw [e2, e1]; decide
  · rw [e2]; exact coversL_self _
/-! ### all names of the menu -/
def rowsOf (k : Nat) (rows : List (List Nat)) : List (List Nat) := rows.flatMap fun row => menu.map fun l => row ++ (if k > 0 then [47] else []) ++ l
def rowsN : Nat → List (List Nat)
  | 0 => [[]]
  | k + 1 => rowsOf k (rowsN k)
def namesN : Nat → List (List Nat)
  | 0 => []
  | k + 1 => namesN k ++ rowsN (k + 1)
def namesL : List (List Nat) := (namesN 4).filter fun n => !(n == [])
theorem joinL_snoc : ∀ {Q : List (List Nat)} (l : List Nat), Q ≠ [] → TL.joinL [47] (Q ++ [l]) = TL.joinL [47] Q ++ [47] ++ l
  | [], l, h => absurd rfl h
  | [p], l, _ => by simp [TL.joinL]
  | p :: q :: r, l, _ => by
    have ih := joinL_snoc (Q := q :: r) l (by simp)
    simp only [List.cons_append] at ih ⊢
    simp only [TL.joinL, ih, List.append_assoc]
theorem rowsN_mem : ∀ (k : Nat) (Q : List (List Nat)), Q.length = k → (∀ q ∈ Q, q ∈ menu) → TL.joinL [47] Q ∈ rowsN k
  | 0, Q, h, _ => by
    have := List.length_eq_zero_iff.mp h
    subst this
    simp [rowsN, TL.joinL]
  | k + 1, Q, h, hm => by
    rcases List.eq_nil_or_concat Q with e | ⟨R, l, e⟩
    · subst e; simp at h
    · rw [List.concat_eq_append] at e
      subst e
      have hk : R.length = k := by simp at h; exact h
      have ih := rowsN_mem k R hk fun q hq => hm q (List.mem_append_left _ hq)
      have hl : l ∈ menu := hm l (by simp)
      show _ ∈ rowsOf k (rowsN k)
      unfold rowsOf
      rw [List.mem_flatMap]
      refine ⟨_, ih, List.mem_map.mpr ⟨l, hl, ?_⟩⟩
      by_cases h0 : R = []
      · subst h0
        have : k = 0 := by simpa using hk.symm
        subst this
        simp [TL.joinL]
      · have : k > 0 := by rw [← hk]; exact List.length_pos_iff.mpr h0
        rw [if_pos this, joinL_snoc l h0]
theorem namesN_mem : ∀ (m k : Nat) {n : List Nat}, n ∈ rowsN (k + 1) → k < m → n ∈ namesN m
  | 0, k, n, _, h => absurd h (Nat.not_lt_zero _)
  | m + 1, k, n, hn, h => by
    show n ∈ namesN m ++ rowsN (m + 1)
    by_cases e : k = m
    · subst e; exact List.mem_append_right _ hn
    · exact List.mem_append_left _ (namesN_mem m k hn (by omega))
theorem names_mem {Q : List (List Nat)} (h0 : Q ≠ []) (h1 : Q ≠ [[]]) (h4 : Q.length ≤ 4) (hm : ∀ q ∈ Q, q ∈ menu) : TL.joinL [47] Q ∈ namesL := by
  unfold namesL
  rw [List.mem_filter]
  constructor
  · obtain ⟨k, hk⟩ : ∃ k, Q.length = k + 1 := ⟨Q.length - 1, by have := List.length_pos_iff.mpr h0; omega⟩
    exact namesN_mem 4 k (rowsN_mem (k + 1) Q hk hm) (by omega)
  · have : TL.joinL [47] Q ≠ [] := fun h => by
      rcases joinL_nil h with h | h
      · exact h0 h
      · exact h1 h
    simpa using this
theorem names_ne {n : List Nat} (h : n ∈ namesL) : splC 47 n ≠ [[]] := fun e => by
  unfold namesL at h
  rw [List.mem_filter] at h
  rw [splC_single e] at h
  exact absurd h.2 (by decide)
/-- of small wishes: it covers just if each name of the list fits so -/
theorem covers_due {a b : List Nat} (ha : smallL (splC 47 a)) (hb : smallL (splC 47 b)) (wb : isWish b = true) (h3 : (splC 47 b).length ≤ 3) :
    coversC a b = !(namesL.any fun n => fitsC b n && !fitsC a n) := by
  cases h : coversC a b with
  | true =>
    symm
    rw [Bool.not_eq_true', List.any_eq_false]
    intro n hn k
    rw [Bool.and_eq_true] at k
    rw [covers_fits0 (names_ne hn) h k.1] at k
    exact absurd k.2 (by decide)
  | false =>
    obtain ⟨Q, q1, q2, q3, q4, q5, q6⟩ := covers_witness ha hb wb h3 h
    symm
    rw [Bool.not_eq_false', List.any_eq_true]
    exact ⟨_, names_mem q1 q2 q3 q4, by rw [q5, q6]; rfl⟩
theorem meet_due {a b : List Nat} (wa : isWish a = true) (wb : isWish b = true) (h : meetC a b = none) : (namesL.any fun n => fitsC b n && fitsC a n) = false := by
  rw [List.any_eq_false]
  intro n hn k
  rw [Bool.and_eq_true] at k
  exact meet_some0 wa wb (names_ne hn) k.2 k.1 h
end Tx
namespace Tx
open PySem L2 Pd
/-! ### lists of texts in the store -/
theorem lvs_of {R : List Nat → Prop} : ∀ {ys : List Dt}, (∀ y ∈ ys, ∃ q, y = .str (mkS q) ∧ R q) → ∃ qs, ys = lvs qs ∧ ∀ q ∈ qs, R q
  | [], _ => ⟨[], rfl, fun _ h => nomatch h⟩
  | y :: ys, h => by
    obtain ⟨q, e, hq⟩ := h y List.mem_cons_self
    obtain ⟨qs, e2, h2⟩ := lvs_of fun y hy => h y (List.mem_cons_of_mem _ hy)
    refine ⟨q :: qs, by rw [e, e2]; rfl, fun z hz => ?_⟩
    rcases List.mem_cons.mp hz with hz | hz
    · rw [hz]; exact hq
    · exact h2 z hz
theorem dAdd_lst {nw : List Dt → Sto → Out Dt} {l m : List Dt} {s : Sto} (h : l.length + m.length ≤ 1000000) : dAdd nw (.lst l) (.lst m) s = nw (l ++ m) s := by
  simp only [dAdd, trkL]
  rw [if_pos (by rw [sizeLine_eq]; omega)]
theorem dAdd_obj {nw : List Dt → Sto → Out Dt} {i : Nat} {l m : List Dt} {s : Sto} (ho : s[i]? = some (.lst l)) (h : l.length + m.length ≤ 1000000) : dAdd nw (.obj i) (.lst m) s = nw (l ++ m) s := by
  simp only [dAdd, trkL, ho]
  rw [if_pos (by rw [sizeLine_eq]; omega)]
theorem putAt_nat {s : Sto} {i v : Nat} {l : List Dt} {d : Dt} (h : s[i]? = some (.lst l)) (hv : v < l.length) : Pd.putAt (.obj i) (.int (v : Int)) d s = some (s.set i (.lst (l.set v d))) := by
  have e : ixN l.length (v : Int) = some v := by
    unfold ixN
    rw [if_pos (Int.natCast_nonneg v), if_pos (by omega)]
    simp
  simp only [Pd.putAt, lstAt_obj h, e, Option.map_some]
theorem seq_eq {f g : Sx} {env e : En} {s s' : Sto} {Q : Res → Prop} (h : f env s = .fl (.nx e) s') (k : Q (g e s')) : Q (sSeq f g env s) := by
  have : sSeq f g env s = g e s' := by rw [ev_seq, h]
  rw [this]
  exact k
theorem tw_new {s : Sto} {n : Nat} {m : Mo} (h : 0 < s.length) : tw s n ++ [m] = tw (s ++ [m]) n ∧ (tw s n).length = s.length ∧ (s ++ [m])[s.length]? = some m := ⟨tw_app h, tw_len s n, by simp⟩
theorem lvs_set (qs : List (List Nat)) (v : Nat) (q : List Nat) : (lvs qs).set v (.str (mkS q)) = lvs (qs.set v q) := by
  unfold lvs
  rw [List.map_set]
theorem mem_set_le {qs : List (List Nat)} {v : Nat} {q : List Nat} {R : List Nat → Prop} (h : ∀ q ∈ qs, R q) (hq : R q) : ∀ z ∈ qs.set v q, R z := fun z hz => by
  rcases List.mem_or_eq_of_mem_set hz with h1 | h1
  · exact h z h1
  · rw [h1]; exact hq
theorem sum_le {ps : List (List Nat)} {k : Nat} (h : ∀ p ∈ ps, p.length ≤ k) : (ps.map (·.length)).sum ≤ ps.length * k := by
  induction ps with
  | nil => simp
  | cons p ps ih =>
    have := ih fun q hq => h q (List.mem_cons_of_mem _ hq)
    have h1 := h p List.mem_cons_self
    simp only [List.map_cons, List.sum_cons, List.length_cons]
    rw [Nat.succ_mul]
    omega
theorem sum_small {ps : List (List Nat)} (h : ∀ p ∈ ps, p.length ≤ 100) (hl : ps.length ≤ 1000) : (ps.map (·.length)).sum + ps.length ≤ 1000000 := by
  have := sum_le h
  omega
/-! ### outcomes -/
def RT (P : Dt → Sto → Prop) (r : Res) : Prop := ∃ d s', r = .fl (.rt d) s' ∧ P d s'
def NX (P : En → Sto → Prop) (r : Res) : Prop := ∃ e s', r = .fl (.nx e) s' ∧ P e s'
theorem fn_RT {n : Nat} {f : Sx} {ds : List Dt} {s : Sto} {P : Dt → Sto → Prop} (h : RT P (f (ds.map some ++ List.replicate (n - ds.length) none) s)) : ∃ d s', fnOf n f ds s = .ok d s' ∧ P d s' := fn_rt h
theorem seq_NX {f g : Sx} {env : En} {s : Sto} {P : En → Sto → Prop} {Q : Res → Prop} (h1 : NX P (f env s)) (h2 : ∀ e s', P e s' → Q (g e s')) : Q (sSeq f g env s) := seq_nx h1 h2
/-! ### told -/
abbrev refd : Dt := .tup [.str (Str.ofString "refused"), .str (Str.ofString "name")]
theorem told0 (w o : List Nat) (s : Sto) : m_law_told [.int 0, .str (mkS w), .str (mkS o)] s = .ok (if isWish w = true ∧ isWish o = true then .bl (coversC w o) else refd) s := by
  have h := ev_covers w o s
  have r := ev_refusal s
  unfold m_law_told b_law_told
  cases hw : isWish w with
  | false =>
    rw [hw, if_neg Bool.false_ne_true] at h
    simp only [fnOf, ev_seq, ev_asg, sBnd_def, ev_op, ev_un, bnd_def, ev_call, evs_cons, evs_nil, ev_var, ev_c, ev_if, ev_next, ev_expr, ev_tru, ev_bl, ev_and, ev_or, ev_not, ev_yes, ev_andE, ev_orE, ev_notE, ev_ifE, ev_chain, ofB_some, ofO_some, ofO_none, truD_non, truD_bl, truD_int, truD_str, truD_tup, truD_lst, truD_lsk, ev_tup, ev_lst, ev_nwF, ev_nwM, ev_meth, ev_make, ev_fld, ev_setF, ev_bm1, asQ_tup, asQ_lst, asQ_lsk, asL_lst, asL_lsk, dLen_tup, dLen_lst, dLen_lsk, dLen_str, dIx_tup, dIx_lst, dIx_lsk, dIx_str, dAdd_int, dNeg_int, isN_def, notN_def, isNon_non, isNon_int, isNon_bl, isNon_str, isNon_tup, isNon_lst, isNon_obj, isNon_exc, dEq_int, dNe_int, dEq_str, dNe_str, dEq_bl, atI_zero, atI_one, atI_2, atI_3, atI_4, atI_5, atI_6, atI_7, atI_8, atI_9, atI_10, atI_11, atI_12, atI_m1, ev_gT, setAll_nil, setAll_cons, iOp_int, ev_gN, ev_ret, List.map_cons, List.map_nil, List.length_cons, List.length_nil, rep_zero, rep_succ, List.cons_append, List.nil_append, List.getElem?_cons_zero, List.getElem?_cons_succ, List.set_cons_zero, List.set_cons_succ, Nat.sub_self, Nat.reduceAdd, Nat.reduceSub, Option.map_some, Option.bind_some, if_true, Bool.not_true, Bool.not_false, Bool.false_eq_true, if_false, decide_true, decide_false, Int.reduceBEq, Int.reduceEq, Int.reduceLT, Int.reduceLE, Int.reduceNeg, Int.reduceAdd, Int.reduceSub, Int.reduceMul, Int.reduceToNat, Nat.reduceLT, Nat.reduceLeDiff, beq_self_eq_true, reduceIte, eq_self, Int.reduceNe, Int.reduceBNe, not_true_eq_false, not_false_eq_true, true_and, and_true, true_or, or_true, false_or, or_false, and_false, false_and, decide_eq_true_eq, Bool.true_and, Bool.and_true, Bool.false_and, Bool.and_false, Bool.true_or, Bool.or_true, Bool.false_or, Bool.or_false, ev_tryH, h, r, List.mem_cons]
  | true =>
    rw [hw, if_pos rfl] at h
    cases hl : isWish o with
    | false =>
      rw [hl, if_neg Bool.false_ne_true] at h
      simp only [fnOf, ev_seq, ev_asg, sBnd_def, ev_op, ev_un, bnd_def, ev_call, evs_cons, evs_nil, ev_var, ev_c, ev_if, ev_next, ev_expr, ev_tru, ev_bl, ev_and, ev_or, ev_not, ev_yes, ev_andE, ev_orE, ev_notE, ev_ifE, ev_chain, ofB_some, ofO_some, ofO_none, truD_non, truD_bl, truD_int, truD_str, truD_tup, truD_lst, truD_lsk, ev_tup, ev_lst, ev_nwF, ev_nwM, ev_meth, ev_make, ev_fld, ev_setF, ev_bm1, asQ_tup, asQ_lst, asQ_lsk, asL_lst, asL_lsk, dLen_tup, dLen_lst, dLen_lsk, dLen_str, dIx_tup, dIx_lst, dIx_lsk, dIx_str, dAdd_int, dNeg_int, isN_def, notN_def, isNon_non, isNon_int, isNon_bl, isNon_str, isNon_tup, isNon_lst, isNon_obj, isNon_exc, dEq_int, dNe_int, dEq_str, dNe_str, dEq_bl, atI_zero, atI_one, atI_2, atI_3, atI_4, atI_5, atI_6, atI_7, atI_8, atI_9, atI_10, atI_11, atI_12, atI_m1, ev_gT, setAll_nil, setAll_cons, iOp_int, ev_gN, ev_ret, List.map_cons, List.map_nil, List.length_cons, List.length_nil, rep_zero, rep_succ, List.cons_append, List.nil_append, List.getElem?_cons_zero, List.getElem?_cons_succ, List.set_cons_zero, List.set_cons_succ, Nat.sub_self, Nat.reduceAdd, Nat.reduceSub, Option.map_some, Option.bind_some, if_true, Bool.not_true, Bool.not_false, Bool.false_eq_true, if_false, decide_true, decide_false, Int.reduceBEq, Int.reduceEq, Int.reduceLT, Int.reduceLE, Int.reduceNeg, Int.reduceAdd, Int.reduceSub, Int.reduceMul, Int.reduceToNat, Nat.reduceLT, Nat.reduceLeDiff, beq_self_eq_true, reduceIte, eq_self, Int.reduceNe, Int.reduceBNe, not_true_eq_false, not_false_eq_true, true_and, and_true, true_or, or_true, false_or, or_false, and_false, false_and, decide_eq_true_eq, Bool.true_and, Bool.and_true, Bool.false_and, Bool.and_false, Bool.true_or, Bool.or_true, Bool.false_or, Bool.or_false, ev_tryH, h, r, List.mem_cons]
    | true =>
      rw [hl, if_pos rfl] at h
      simp only [fnOf, ev_seq, ev_asg, sBnd_def, ev_op, ev_un, bnd_def, ev_call, evs_cons, evs_nil, ev_var, ev_c, ev_if, ev_next, ev_expr, ev_tru, ev_bl, ev_and, ev_or, ev_not, ev_yes, ev_andE, ev_orE, ev_notE, ev_ifE, ev_chain, ofB_some, ofO_some, ofO_none, truD_non, truD_bl, truD_int, truD_str, truD_tup, truD_lst, truD_lsk, ev_tup, ev_lst, ev_nwF, ev_nwM, ev_meth, ev_make, ev_fld, ev_setF, ev_bm1, asQ_tup, asQ_lst, asQ_lsk, asL_lst, asL_lsk, dLen_tup, dLen_lst, dLen_lsk, dLen_str, dIx_tup, dIx_lst, dIx_lsk, dIx_str, dAdd_int, dNeg_int, isN_def, notN_def, isNon_non, isNon_int, isNon_bl, isNon_str, isNon_tup, isNon_lst, isNon_obj, isNon_exc, dEq_int, dNe_int, dEq_str, dNe_str, dEq_bl, atI_zero, atI_one, atI_2, atI_3, atI_4, atI_5, atI_6, atI_7, atI_8, atI_9, atI_10, atI_11, atI_12, atI_m1, ev_gT, setAll_nil, setAll_cons, iOp_int, ev_gN, ev_ret, List.map_cons, List.map_nil, List.length_cons, List.length_nil, rep_zero, rep_succ, List.cons_append, List.nil_append, List.getElem?_cons_zero, List.getElem?_cons_succ, List.set_cons_zero, List.set_cons_succ, Nat.sub_self, Nat.reduceAdd, Nat.reduceSub, Option.map_some, Option.bind_some, if_true, Bool.not_true, Bool.not_false, Bool.false_eq_true, if_false, decide_true, decide_false, Int.reduceBEq, Int.reduceEq, Int.reduceLT, Int.reduceLE, Int.reduceNeg, Int.reduceAdd, Int.reduceSub, Int.reduceMul, Int.reduceToNat, Nat.reduceLT, Nat.reduceLeDiff, beq_self_eq_true, reduceIte, eq_self, Int.reduceNe, Int.reduceBNe, not_true_eq_false, not_false_eq_true, true_and, and_true, true_or, or_true, false_or, or_false, and_false, false_and, decide_eq_true_eq, Bool.true_and, Bool.and_true, Bool.false_and, Bool.and_false, Bool.true_or, Bool.or_true, Bool.false_or, Bool.or_false, ev_tryH, h]
theorem told1 (w o : List Nat) (s : Sto) : m_law_told [.int 1, .str (mkS w), .str (mkS o)] s = .ok (if isWish w = true ∧ isWish o = true then optS (meetC w o) else refd) s := by
  have h := ev_meeting (w := w) (o := o) s
  have r := ev_refusal s
  unfold m_law_told b_law_told
  cases hw : isWish w with
  | false =>
    rw [hw, if_neg Bool.false_ne_true] at h
    simp only [fnOf, ev_seq, ev_asg, sBnd_def, ev_op, ev_un, bnd_def, ev_call, evs_cons, evs_nil, ev_var, ev_c, ev_if, ev_next, ev_expr, ev_tru, ev_bl, ev_and, ev_or, ev_not, ev_yes, ev_andE, ev_orE, ev_notE, ev_ifE, ev_chain, ofB_some, ofO_some, ofO_none, truD_non, truD_bl, truD_int, truD_str, truD_tup, truD_lst, truD_lsk, ev_tup, ev_lst, ev_nwF, ev_nwM, ev_meth, ev_make, ev_fld, ev_setF, ev_bm1, asQ_tup, asQ_lst, asQ_lsk, asL_lst, asL_lsk, dLen_tup, dLen_lst, dLen_lsk, dLen_str, dIx_tup, dIx_lst, dIx_lsk, dIx_str, dAdd_int, dNeg_int, isN_def, notN_def, isNon_non, isNon_int, isNon_bl, isNon_str, isNon_tup, isNon_lst, isNon_obj, isNon_exc, dEq_int, dNe_int, dEq_str, dNe_str, dEq_bl, atI_zero, atI_one, atI_2, atI_3, atI_4, atI_5, atI_6, atI_7, atI_8, atI_9, atI_10, atI_11, atI_12, atI_m1, ev_gT, setAll_nil, setAll_cons, iOp_int, ev_gN, ev_ret, List.map_cons, List.map_nil, List.length_cons, List.length_nil, rep_zero, rep_succ, List.cons_append, List.nil_append, List.getElem?_cons_zero, List.getElem?_cons_succ, List.set_cons_zero, List.set_cons_succ, Nat.sub_self, Nat.reduceAdd, Nat.reduceSub, Option.map_some, Option.bind_some, if_true, Bool.not_true, Bool.not_false, Bool.false_eq_true, if_false, decide_true, decide_false, Int.reduceBEq, Int.reduceEq, Int.reduceLT, Int.reduceLE, Int.reduceNeg, Int.reduceAdd, Int.reduceSub, Int.reduceMul, Int.reduceToNat, Nat.reduceLT, Nat.reduceLeDiff, beq_self_eq_true, reduceIte, eq_self, Int.reduceNe, Int.reduceBNe, not_true_eq_false, not_false_eq_true, true_and, and_true, true_or, or_true, false_or, or_false, and_false, false_and, decide_eq_true_eq, Bool.true_and, Bool.and_true, Bool.false_and, Bool.and_false, Bool.true_or, Bool.or_true, Bool.false_or, Bool.or_false, ev_tryH, h, r, List.mem_cons]
  | true =>
    rw [hw, if_pos rfl] at h
    cases hl : isWish o with
    | false =>
      rw [hl, if_neg Bool.false_ne_true] at h
      simp only [fnOf, ev_seq, ev_asg, sBnd_def, ev_op, ev_un, bnd_def, ev_call, evs_cons, evs_nil, ev_var, ev_c, ev_if, ev_next, ev_expr, ev_tru, ev_bl, ev_and, ev_or, ev_not, ev_yes, ev_andE, ev_orE, ev_notE, ev_ifE, ev_chain, ofB_some, ofO_some, ofO_none, truD_non, truD_bl, truD_int, truD_str, truD_tup, truD_lst, truD_lsk, ev_tup, ev_lst, ev_nwF, ev_nwM, ev_meth, ev_make, ev_fld, ev_setF, ev_bm1, asQ_tup, asQ_lst, asQ_lsk, asL_lst, asL_lsk, dLen_tup, dLen_lst, dLen_lsk, dLen_str, dIx_tup, dIx_lst, dIx_lsk, dIx_str, dAdd_int, dNeg_int, isN_def, notN_def, isNon_non, isNon_int, isNon_bl, isNon_str, isNon_tup, isNon_lst, isNon_obj, isNon_exc, dEq_int, dNe_int, dEq_str, dNe_str, dEq_bl, atI_zero, atI_one, atI_2, atI_3, atI_4, atI_5, atI_6, atI_7, atI_8, atI_9, atI_10, atI_11, atI_12, atI_m1, ev_gT, setAll_nil, setAll_cons, iOp_int, ev_gN, ev_ret, List.map_cons, List.map_nil, List.length_cons, List.length_nil, rep_zero, rep_succ, List.cons_append, List.nil_append, List.getElem?_cons_zero, List.getElem?_cons_succ, List.set_cons_zero, List.set_cons_succ, Nat.sub_self, Nat.reduceAdd, Nat.reduceSub, Option.map_some, Option.bind_some, if_true, Bool.not_true, Bool.not_false, Bool.false_eq_true, if_false, decide_true, decide_false, Int.reduceBEq, Int.reduceEq, Int.reduceLT, Int.reduceLE, Int.reduceNeg, Int.reduceAdd, Int.reduceSub, Int.reduceMul, Int.reduceToNat, Nat.reduceLT, Nat.reduceLeDiff, beq_self_eq_true, reduceIte, eq_self, Int.reduceNe, Int.reduceBNe, not_true_eq_false, not_false_eq_true, true_and, and_true, true_or, or_true, false_or, or_false, and_false, false_and, decide_eq_true_eq, Bool.true_and, Bool.and_true, Bool.false_and, Bool.and_false, Bool.true_or, Bool.or_true, Bool.false_or, Bool.or_false, ev_tryH, h, r, List.mem_cons]
    | true =>
      rw [hl, if_pos rfl] at h
      simp only [fnOf, ev_seq, ev_asg, sBnd_def, ev_op, ev_un, bnd_def, ev_call, evs_cons, evs_nil, ev_var, ev_c, ev_if, ev_next, ev_expr, ev_tru, ev_bl, ev_and, ev_or, ev_not, ev_yes, ev_andE, ev_orE, ev_notE, ev_ifE, ev_chain, ofB_some, ofO_some, ofO_none, truD_non, truD_bl, truD_int, truD_str, truD_tup, truD_lst, truD_lsk, ev_tup, ev_lst, ev_nwF, ev_nwM, ev_meth, ev_make, ev_fld, ev_setF, ev_bm1, asQ_tup, asQ_lst, asQ_lsk, asL_lst, asL_lsk, dLen_tup, dLen_lst, dLen_lsk, dLen_str, dIx_tup, dIx_lst, dIx_lsk, dIx_str, dAdd_int, dNeg_int, isN_def, notN_def, isNon_non, isNon_int, isNon_bl, isNon_str, isNon_tup, isNon_lst, isNon_obj, isNon_exc, dEq_int, dNe_int, dEq_str, dNe_str, dEq_bl, atI_zero, atI_one, atI_2, atI_3, atI_4, atI_5, atI_6, atI_7, atI_8, atI_9, atI_10, atI_11, atI_12, atI_m1, ev_gT, setAll_nil, setAll_cons, iOp_int, ev_gN, ev_ret, List.map_cons, List.map_nil, List.length_cons, List.length_nil, rep_zero, rep_succ, List.cons_append, List.nil_append, List.getElem?_cons_zero, List.getElem?_cons_succ, List.set_cons_zero, List.set_cons_succ, Nat.sub_self, Nat.reduceAdd, Nat.reduceSub, Option.map_some, Option.bind_some, if_true, Bool.not_true, Bool.not_false, Bool.false_eq_true, if_false, decide_true, decide_false, Int.reduceBEq, Int.reduceEq, Int.reduceLT, Int.reduceLE, Int.reduceNeg, Int.reduceAdd, Int.reduceSub, Int.reduceMul, Int.reduceToNat, Nat.reduceLT, Nat.reduceLeDiff, beq_self_eq_true, reduceIte, eq_self, Int.reduceNe, Int.reduceBNe, not_true_eq_false, not_false_eq_true, true_and, and_true, true_or, or_true, false_or, or_false, and_false, false_and, decide_eq_true_eq, Bool.true_and, Bool.and_true, Bool.false_and, Bool.and_false, Bool.true_or, Bool.or_true, Bool.false_or, Bool.or_false, ev_tryH, h]
/-! ### the list of names -/
theorem t_c : Str.ofString "c" = mkS [99] := by decide +kernel
theorem rowsOf_len (k : Nat) (R : List (List Nat)) : (rowsOf k R).length = 5 * R.length := by
  unfold rowsOf
  induction R with
  | nil => rfl
  | cons r R ih =>
    rw [List.flatMap_cons, List.length_append, ih, List.length_map, List.length_cons]
    show 5 + 5 * R.length = _
    omega
theorem rowsN_len : ∀ k, (rowsN k).length = 5 ^ k
  | 0 => rfl
  | k + 1 => by
    show (rowsOf k (rowsN k)).length = _
    rw [rowsOf_len, rowsN_len k, Nat.pow_succ, Nat.mul_comm]
theorem namesN_len : ∀ k, (namesN k).length ≤ k * 5 ^ k
  | 0 => by simp [namesN]
  | k + 1 => by
    show (namesN k ++ rowsN (k + 1)).length ≤ _
    have ih := namesN_len k
    have h : 5 ^ k ≤ 5 ^ (k + 1) := Nat.pow_le_pow_right (by decide) (by omega)
    have h2 : k * 5 ^ k ≤ k * 5 ^ (k + 1) := Nat.mul_le_mul_left _ h
    rw [List.length_append, rowsN_len, Nat.succ_mul]
    omega
theorem rowsN_short : ∀ k, ∀ r ∈ rowsN k, r.length ≤ 3 * k
  | 0, r, h => by simp [rowsN] at h; subst h; simp
  | k + 1, r, h => by
    have h' : r ∈ rowsOf k (rowsN k) := h
    unfold rowsOf at h'
    obtain ⟨row, h1, h2⟩ := List.mem_flatMap.mp h'
    obtain ⟨l, h3, h4⟩ := List.mem_map.mp h2
    have ih := rowsN_short k row h1
    have hl : l.length ≤ 2 := by
      unfold menu at h3
      simp only [List.mem_cons, List.not_mem_nil, or_false] at h3
      rcases h3 with e | e | e | e | e <;> (subst e; decide)
    rw [← h4]
    split <;> simp <;> omega
theorem lvs_app (a b : List (List Nat)) : lvs a ++ lvs b = lvs (a ++ b) := by simp [lvs]
theorem ev_names (s : Sto) : m_law_names [] s = .ok (.lst (lvs namesL)) s := by
  -- one turn of the inner loop
  have inner : ∀ (k : Nat), k < 4 → ∀ a0 x4, ∃ y4, w_law_names_2 [a0, some (.lst (lvs (rowsN k))), some (.int (k : Int)), some (.lst []), x4, none, none] s = .fl (.nx [a0, some (.lst (lvs (rowsN k))), some (.int (k : Int)), some (.lst (lvs (rowsN (k + 1)))), y4, none, none]) s := fun k hk a0 x4 => by
    have h5 : (rowsN k).length ≤ 625 := by
      rw [rowsN_len]
      exact Nat.pow_le_pow_right (by decide) (show k ≤ 4 by omega)
    obtain ⟨e, s', h1, h2⟩ := for_inv (tg := gN 4) (body := l_law_names_1) (ok := fun _ => True) (fun pre env s' => s' = s ∧ ∃ R y4, pre = lvs R ∧ env = [a0, some (.lst (lvs (rowsN k))), some (.int (k : Int)), some (.lst (lvs (rowsOf k R))), y4, none, none]) (lvs (rowsN k)) (lvs (rowsN k)) [] rfl [a0, some (.lst (lvs (rowsN k))), some (.int (k : Int)), some (.lst []), x4, none, none] s ⟨rfl, [], x4, rfl, rfl⟩
      (fun pre d post env s' hall ⟨h1, R, y4, h2, h3⟩ => by
        subst h1; subst h3
        have hd : d ∈ lvs (rowsN k) := by rw [hall]; simp
        obtain ⟨row, hb1, hb2⟩ := List.mem_map.mp hd
        subst hb2
        have hrow := rowsN_short k row hb1
        have hR : R.length ≤ 625 := by
          have := congrArg List.length hall
          rw [h2] at this
          simp at this
          omega
        refine ⟨trivial, _, rfl, _, s', .inl (?_ : _ = Res.fl (.nx [a0, some (.lst (lvs (rowsN k))), some (.int (k : Int)), some (.lst (lvs (rowsOf k (R ++ [row])))), some (.str (mkS row)), none, none]) s'), rfl, R ++ [row], _, by rw [h2]; simp [lvs], rfl⟩
        have lc : lcGo (gN 5) Pd.tYes (eOp (dAdd nwF) (eOp (dAdd nwF) (eVar 4) (eIf (tBl (eOp dGt (eVar 2) (eC (.int 0)))) (eC (.str (mkS [47]))) (eC (.str (mkS []))))) (eVar 5)) (fun _ => True) [.str (mkS [97]), .str (mkS [98]), .str (mkS [99]), .str (mkS []), .str (mkS [36, 115])] [a0, some (.lst (lvs (rowsN k))), some (.int (k : Int)), some (.lst (lvs (rowsOf k R))), some (.str (mkS row)), none, none] s' = .ok (menu.map fun l => .str (mkS (row ++ (if k > 0 then [47] else []) ++ l))) s' := by
          refine lc_map (l := menu) (f := fun l => .str (mkS l)) ?_ fun l hl => ⟨[a0, some (.lst (lvs (rowsN k))), some (.int (k : Int)), some (.lst (lvs (rowsOf k R))), some (.str (mkS row)), some (.str (mkS l)), none], rfl, rfl, ?_⟩
          · trivial
          · have hll : l.length ≤ 2 := by
              unfold menu at hl
              simp only [List.mem_cons, List.not_mem_nil, or_false] at hl
              rcases hl with e | e | e | e | e <;> (subst e; decide)
            by_cases h0 : k > 0
            · have h0' : (0 : Int) < (k : Int) := by omega
              have hA : row.length + 1 ≤ 1000000 := by omega
              have hB : (row ++ [47]).length + l.length ≤ 1000000 := by simp; omega
              simp only [fnOf, ev_seq, ev_asg, sBnd_def, ev_op, ev_un, bnd_def, ev_call, evs_cons, evs_nil, ev_var, ev_c, ev_if, ev_next, ev_expr, ev_tru, ev_bl, ev_and, ev_or, ev_not, ev_yes, ev_andE, ev_orE, ev_notE, ev_ifE, ev_chain, ofB_some, ofO_some, ofO_none, truD_non, truD_bl, truD_int, truD_str, truD_tup, truD_lst, truD_lsk, ev_tup, ev_lst, ev_nwF, ev_nwM, ev_meth, ev_make, ev_fld, ev_setF, ev_bm1, asQ_tup, asQ_lst, asQ_lsk, asL_lst, asL_lsk, dLen_tup, dLen_lst, dLen_lsk, dLen_str, dIx_tup, dIx_lst, dIx_lsk, dIx_str, dAdd_int, dNeg_int, isN_def, notN_def, isNon_non, isNon_int, isNon_bl, isNon_str, isNon_tup, isNon_lst, isNon_obj, isNon_exc, dEq_int, dNe_int, dEq_str, dNe_str, dEq_bl, atI_zero, atI_one, atI_2, atI_3, atI_4, atI_5, atI_6, atI_7, atI_8, atI_9, atI_10, atI_11, atI_12, atI_m1, ev_gT, setAll_nil, setAll_cons, iOp_int, ev_gN, ev_ret, List.map_cons, List.map_nil, List.length_cons, List.length_nil, rep_zero, rep_succ, List.cons_append, List.nil_append, List.getElem?_cons_zero, List.getElem?_cons_succ, List.set_cons_zero, List.set_cons_succ, Nat.sub_self, Nat.reduceAdd, Nat.reduceSub, Option.map_some, Option.bind_some, if_true, Bool.not_true, Bool.not_false, Bool.false_eq_true, if_false, decide_true, decide_false, Int.reduceBEq, Int.reduceEq, Int.reduceLT, Int.reduceLE, Int.reduceNeg, Int.reduceAdd, Int.reduceSub, Int.reduceMul, Int.reduceToNat, Nat.reduceLT, Nat.reduceLeDiff, beq_self_eq_true, reduceIte, eq_self, Int.reduceNe, Int.reduceBNe, not_true_eq_false, not_false_eq_true, true_and, and_true, true_or, or_true, false_or, or_false, and_false, false_and, decide_eq_true_eq, Bool.true_and, Bool.and_true, Bool.false_and, Bool.and_false, Bool.true_or, Bool.or_true, Bool.false_or, Bool.or_false, dGt, h0', str_obj, hA, hB, h0]
            · have h0' : ¬ (0 : Int) < (k : Int) := by omega
              have hA : row.length + 0 ≤ 1000000 := by omega
              have hB : (row ++ []).length + l.length ≤ 1000000 := by simp; omega
              simp only [fnOf, ev_seq, ev_asg, sBnd_def, ev_op, ev_un, bnd_def, ev_call, evs_cons, evs_nil, ev_var, ev_c, ev_if, ev_next, ev_expr, ev_tru, ev_bl, ev_and, ev_or, ev_not, ev_yes, ev_andE, ev_orE, ev_notE, ev_ifE, ev_chain, ofB_some, ofO_some, ofO_none, truD_non, truD_bl, truD_int, truD_str, truD_tup, truD_lst, truD_lsk, ev_tup, ev_lst, ev_nwF, ev_nwM, ev_meth, ev_make, ev_fld, ev_setF, ev_bm1, asQ_tup, asQ_lst, asQ_lsk, asL_lst, asL_lsk, dLen_tup, dLen_lst, dLen_lsk, dLen_str, dIx_tup, dIx_lst, dIx_lsk, dIx_str, dAdd_int, dNeg_int, isN_def, notN_def, isNon_non, isNon_int, isNon_bl, isNon_str, isNon_tup, isNon_lst, isNon_obj, isNon_exc, dEq_int, dNe_int, dEq_str, dNe_str, dEq_bl, atI_zero, atI_one, atI_2, atI_3, atI_4, atI_5, atI_6, atI_7, atI_8, atI_9, atI_10, atI_11, atI_12, atI_m1, ev_gT, setAll_nil, setAll_cons, iOp_int, ev_gN, ev_ret, List.map_cons, List.map_nil, List.length_cons, List.length_nil, rep_zero, rep_succ, List.cons_append, List.nil_append, List.getElem?_cons_zero, List.getElem?_cons_succ, List.set_cons_zero, List.set_cons_succ, Nat.sub_self, Nat.reduceAdd, Nat.reduceSub, Option.map_some, Option.bind_some, if_true, Bool.not_true, Bool.not_false, Bool.false_eq_true, if_false, decide_true, decide_false, Int.reduceBEq, Int.reduceEq, Int.reduceLT, Int.reduceLE, Int.reduceNeg, Int.reduceAdd, Int.reduceSub, Int.reduceMul, Int.reduceToNat, Nat.reduceLT, Nat.reduceLeDiff, beq_self_eq_true, reduceIte, eq_self, Int.reduceNe, Int.reduceBNe, not_true_eq_false, not_false_eq_true, true_and, and_true, true_or, or_true, false_or, or_false, and_false, false_and, decide_eq_true_eq, Bool.true_and, Bool.and_true, Bool.false_and, Bool.and_false, Bool.true_or, Bool.or_true, Bool.false_or, Bool.or_false, dGt, h0', str_obj, hA, hB, h0]
        have ad : dAdd nwF (.lst (lvs (rowsOf k R))) (.lst (menu.map fun l => .str (mkS (row ++ (if k > 0 then [47] else []) ++ l)))) s' = .ok (.lst (lvs (rowsOf k (R ++ [row])))) s' := by
          rw [dAdd_lst' (by rw [List.length_map, List.length_map, rowsOf_len]; show 5 * R.length + 5 ≤ _; omega)]
          have : lvs (rowsOf k (R ++ [row])) = lvs (rowsOf k R) ++ (menu.map fun l => Dt.str (mkS (row ++ (if k > 0 then [47] else []) ++ l))) := by
            unfold rowsOf lvs
            rw [List.flatMap_append, List.map_append, List.flatMap_cons, List.flatMap_nil, List.append_nil, List.map_map]
            rfl
          rw [this]
          rfl
        unfold l_law_names_1
        simp only [fnOf, ev_seq, ev_asg, sBnd_def, ev_op, ev_un, bnd_def, ev_call, evs_cons, evs_nil, ev_var, ev_c, ev_if, ev_next, ev_expr, ev_tru, ev_bl, ev_and, ev_or, ev_not, ev_yes, ev_andE, ev_orE, ev_notE, ev_ifE, ev_chain, ofB_some, ofO_some, ofO_none, truD_non, truD_bl, truD_int, truD_str, truD_tup, truD_lst, truD_lsk, ev_tup, ev_lst, ev_nwF, ev_nwM, ev_meth, ev_make, ev_fld, ev_setF, ev_bm1, asQ_tup, asQ_lst, asQ_lsk, asL_lst, asL_lsk, dLen_tup, dLen_lst, dLen_lsk, dLen_str, dIx_tup, dIx_lst, dIx_lsk, dIx_str, dAdd_int, dNeg_int, isN_def, notN_def, isNon_non, isNon_int, isNon_bl, isNon_str, isNon_tup, isNon_lst, isNon_obj, isNon_exc, dEq_int, dNe_int, dEq_str, dNe_str, dEq_bl, atI_zero, atI_one, atI_2, atI_3, atI_4, atI_5, atI_6, atI_7, atI_8, atI_9, atI_10, atI_11, atI_12, atI_m1, ev_gT, setAll_nil, setAll_cons, iOp_int, ev_gN, ev_ret, List.map_cons, List.map_nil, List.length_cons, List.length_nil, rep_zero, rep_succ, List.cons_append, List.nil_append, List.getElem?_cons_zero, List.getElem?_cons_succ, List.set_cons_zero, List.set_cons_succ, Nat.sub_self, Nat.reduceAdd, Nat.reduceSub, Option.map_some, Option.bind_some, if_true, Bool.not_true, Bool.not_false, Bool.false_eq_true, if_false, decide_true, decide_false, Int.reduceBEq, Int.reduceEq, Int.reduceLT, Int.reduceLE, Int.reduceNeg, Int.reduceAdd, Int.reduceSub, Int.reduceMul, Int.reduceToNat, Nat.reduceLT, Nat.reduceLeDiff, beq_self_eq_true, reduceIte, eq_self, Int.reduceNe, Int.reduceBNe, not_true_eq_false, not_false_eq_true, true_and, and_true, true_or, or_true, false_or, or_false, and_false, false_and, decide_eq_true_eq, Bool.true_and, Bool.and_true, Bool.false_and, Bool.and_false, Bool.true_or, Bool.or_true, Bool.false_or, Bool.or_false, t_a, t_b, t_c, t_nil, t_ds, t_slash, ev_lc, ev_iSeq, wipeD_nil, wipeD_cons, bndN, lc, ad]) (fun _ _ _ => trivial)
    obtain ⟨h3, R, y4, h4, h5⟩ := h2
    subst h3; subst h5
    have hR : R = rowsN k := by
      have : ∀ {a b : List (List Nat)}, lvs a = lvs b → a = b := fun {a b} h => by
        have hb : (dEqB [] (.lst (lvs a)) (.lst (lvs b))) = dEqB [] (.lst (lvs b)) (.lst (lvs b)) := by rw [h]
        rw [dEqB_lvs, dEqB_lvs] at hb
        have := Option.some.inj hb
        rw [beq_self_eq_true] at this
        exact eq_of_beq this
      exact (this h4).symm
    subst hR
    refine ⟨y4, ?_⟩
    unfold w_law_names_2
    simp only [fnOf, ev_seq, ev_asg, sBnd_def, ev_op, ev_un, bnd_def, ev_call, evs_cons, evs_nil, ev_var, ev_c, ev_if, ev_next, ev_expr, ev_tru, ev_bl, ev_and, ev_or, ev_not, ev_yes, ev_andE, ev_orE, ev_notE, ev_ifE, ev_chain, ofB_some, ofO_some, ofO_none, truD_non, truD_bl, truD_int, truD_str, truD_tup, truD_lst, truD_lsk, ev_tup, ev_lst, ev_nwF, ev_nwM, ev_meth, ev_make, ev_fld, ev_setF, ev_bm1, asQ_tup, asQ_lst, asQ_lsk, asL_lst, asL_lsk, dLen_tup, dLen_lst, dLen_lsk, dLen_str, dIx_tup, dIx_lst, dIx_lsk, dIx_str, dAdd_int, dNeg_int, isN_def, notN_def, isNon_non, isNon_int, isNon_bl, isNon_str, isNon_tup, isNon_lst, isNon_obj, isNon_exc, dEq_int, dNe_int, dEq_str, dNe_str, dEq_bl, atI_zero, atI_one, atI_2, atI_3, atI_4, atI_5, atI_6, atI_7, atI_8, atI_9, atI_10, atI_11, atI_12, atI_m1, ev_gT, setAll_nil, setAll_cons, iOp_int, ev_gN, ev_ret, List.map_cons, List.map_nil, List.length_cons, List.length_nil, rep_zero, rep_succ, List.cons_append, List.nil_append, List.getElem?_cons_zero, List.getElem?_cons_succ, List.set_cons_zero, List.set_cons_succ, Nat.sub_self, Nat.reduceAdd, Nat.reduceSub, Option.map_some, Option.bind_some, if_true, Bool.not_true, Bool.not_false, Bool.false_eq_true, if_false, decide_true, decide_false, Int.reduceBEq, Int.reduceEq, Int.reduceLT, Int.reduceLE, Int.reduceNeg, Int.reduceAdd, Int.reduceSub, Int.reduceMul, Int.reduceToNat, Nat.reduceLT, Nat.reduceLeDiff, beq_self_eq_true, reduceIte, eq_self, Int.reduceNe, Int.reduceBNe, not_true_eq_false, not_false_eq_true, true_and, and_true, true_or, or_true, false_or, or_false, and_false, false_and, decide_eq_true_eq, Bool.true_and, Bool.and_true, Bool.false_and, Bool.and_false, Bool.true_or, Bool.or_true, Bool.false_or, Bool.or_false, ev_for, ev_iSeq, h1]
    rfl
  obtain ⟨e, s', h1, h2⟩ := for_range_inv (tg := gN 2) (body := l_law_names_2) (fun k env s' => s' = s ∧ ∃ y2 y3 y4, env = [some (.lst (lvs (namesN k))), some (.lst (lvs (rowsN k))), y2, y3, y4, none, none]) 4 (env := [some (.lst []), some (.lst [.str (mkS [])]), none, none, none, none, none]) (s := s) ⟨rfl, none, none, none, rfl⟩
    (fun k env s' hk ⟨h1, y2, y3, y4, h2⟩ => by
      subst h1; subst h2
      refine ⟨_, rfl, ?_⟩
      obtain ⟨z4, g2⟩ := inner k hk (some (.lst (lvs (namesN k)))) y4
      have g1 : w_law_names_1 [some (.lst (lvs (namesN k))), some (.lst (lvs (rowsN k))), some (.int (k : Int)), y3, y4, none, none] s' = .fl (.nx [some (.lst (lvs (namesN k))), some (.lst (lvs (rowsN k))), some (.int (k : Int)), some (.lst []), y4, none, none]) s' := by
        unfold w_law_names_1
        simp only [fnOf, ev_seq, ev_asg, sBnd_def, ev_op, ev_un, bnd_def, ev_call, evs_cons, evs_nil, ev_var, ev_c, ev_if, ev_next, ev_expr, ev_tru, ev_bl, ev_and, ev_or, ev_not, ev_yes, ev_andE, ev_orE, ev_notE, ev_ifE, ev_chain, ofB_some, ofO_some, ofO_none, truD_non, truD_bl, truD_int, truD_str, truD_tup, truD_lst, truD_lsk, ev_tup, ev_lst, ev_nwF, ev_nwM, ev_meth, ev_make, ev_fld, ev_setF, ev_bm1, asQ_tup, asQ_lst, asQ_lsk, asL_lst, asL_lsk, dLen_tup, dLen_lst, dLen_lsk, dLen_str, dIx_tup, dIx_lst, dIx_lsk, dIx_str, dAdd_int, dNeg_int, isN_def, notN_def, isNon_non, isNon_int, isNon_bl, isNon_str, isNon_tup, isNon_lst, isNon_obj, isNon_exc, dEq_int, dNe_int, dEq_str, dNe_str, dEq_bl, atI_zero, atI_one, atI_2, atI_3, atI_4, atI_5, atI_6, atI_7, atI_8, atI_9, atI_10, atI_11, atI_12, atI_m1, ev_gT, setAll_nil, setAll_cons, iOp_int, ev_gN, ev_ret, List.map_cons, List.map_nil, List.length_cons, List.length_nil, rep_zero, rep_succ, List.cons_append, List.nil_append, List.getElem?_cons_zero, List.getElem?_cons_succ, List.set_cons_zero, List.set_cons_succ, Nat.sub_self, Nat.reduceAdd, Nat.reduceSub, Option.map_some, Option.bind_some, if_true, Bool.not_true, Bool.not_false, Bool.false_eq_true, if_false, decide_true, decide_false, Int.reduceBEq, Int.reduceEq, Int.reduceLT, Int.reduceLE, Int.reduceNeg, Int.reduceAdd, Int.reduceSub, Int.reduceMul, Int.reduceToNat, Nat.reduceLT, Nat.reduceLeDiff, beq_self_eq_true, reduceIte, eq_self, Int.reduceNe, Int.reduceBNe, not_true_eq_false, not_false_eq_true, true_and, and_true, true_or, or_true, false_or, or_false, and_false, false_and, decide_eq_true_eq, Bool.true_and, Bool.and_true, Bool.false_and, Bool.and_false, Bool.true_or, Bool.or_true, Bool.false_or, Bool.or_false]
      have g3 : w_law_names_3 [some (.lst (lvs (namesN k))), some (.lst (lvs (rowsN k))), some (.int (k : Int)), some (.lst (lvs (rowsN (k + 1)))), z4, none, none] s' = .fl (.nx [some (.lst (lvs (namesN k))), some (.lst (lvs (rowsN (k + 1)))), some (.int (k : Int)), some (.lst (lvs (rowsN (k + 1)))), z4, none, none]) s' := by
        unfold w_law_names_3
        simp only [fnOf, ev_seq, ev_asg, sBnd_def, ev_op, ev_un, bnd_def, ev_call, evs_cons, evs_nil, ev_var, ev_c, ev_if, ev_next, ev_expr, ev_tru, ev_bl, ev_and, ev_or, ev_not, ev_yes, ev_andE, ev_orE, ev_notE, ev_ifE, ev_chain, ofB_some, ofO_some, ofO_none, truD_non, truD_bl, truD_int, truD_str, truD_tup, truD_lst, truD_lsk, ev_tup, ev_lst, ev_nwF, ev_nwM, ev_meth, ev_make, ev_fld, ev_setF, ev_bm1, asQ_tup, asQ_lst, asQ_lsk, asL_lst, asL_lsk, dLen_tup, dLen_lst, dLen_lsk, dLen_str, dIx_tup, dIx_lst, dIx_lsk, dIx_str, dAdd_int, dNeg_int, isN_def, notN_def, isNon_non, isNon_int, isNon_bl, isNon_str, isNon_tup, isNon_lst, isNon_obj, isNon_exc, dEq_int, dNe_int, dEq_str, dNe_str, dEq_bl, atI_zero, atI_one, atI_2, atI_3, atI_4, atI_5, atI_6, atI_7, atI_8, atI_9, atI_10, atI_11, atI_12, atI_m1, ev_gT, setAll_nil, setAll_cons, iOp_int, ev_gN, ev_ret, List.map_cons, List.map_nil, List.length_cons, List.length_nil, rep_zero, rep_succ, List.cons_append, List.nil_append, List.getElem?_cons_zero, List.getElem?_cons_succ, List.set_cons_zero, List.set_cons_succ, Nat.sub_self, Nat.reduceAdd, Nat.reduceSub, Option.map_some, Option.bind_some, if_true, Bool.not_true, Bool.not_false, Bool.false_eq_true, if_false, decide_true, decide_false, Int.reduceBEq, Int.reduceEq, Int.reduceLT, Int.reduceLE, Int.reduceNeg, Int.reduceAdd, Int.reduceSub, Int.reduceMul, Int.reduceToNat, Nat.reduceLT, Nat.reduceLeDiff, beq_self_eq_true, reduceIte, eq_self, Int.reduceNe, Int.reduceBNe, not_true_eq_false, not_false_eq_true, true_and, and_true, true_or, or_true, false_or, or_false, and_false, false_and, decide_eq_true_eq, Bool.true_and, Bool.and_true, Bool.false_and, Bool.and_false, Bool.true_or, Bool.or_true, Bool.false_or, Bool.or_false]
      have ad : dAdd nwF (.lst (lvs (namesN k))) (.lst (lvs (rowsN (k + 1)))) s' = .ok (.lst (lvs (namesN (k + 1)))) s' := by
        have l1 := namesN_len k
        have l2 := rowsN_len (k + 1)
        have l3 : 5 ^ k ≤ 625 := Nat.pow_le_pow_right (by decide) (show k ≤ 4 by omega)
        have l4 : 5 ^ (k + 1) ≤ 625 := Nat.pow_le_pow_right (by decide) (show k + 1 ≤ 4 by omega)
        have l5 : k * 5 ^ k ≤ 4 * 625 := Nat.mul_le_mul (by omega) l3
        rw [dAdd_lst' (by rw [List.length_map, List.length_map]; omega)]
        have : lvs (namesN k) ++ lvs (rowsN (k + 1)) = lvs (namesN (k + 1)) := lvs_app _ _
        rw [this]
        rfl
      have g4 : w_law_names_4 [some (.lst (lvs (namesN k))), some (.lst (lvs (rowsN (k + 1)))), some (.int (k : Int)), some (.lst (lvs (rowsN (k + 1)))), z4, none, none] s' = .fl (.nx [some (.lst (lvs (namesN (k + 1)))), some (.lst (lvs (rowsN (k + 1)))), some (.int (k : Int)), some (.lst (lvs (rowsN (k + 1)))), z4, none, none]) s' := by
        unfold w_law_names_4
        simp only [fnOf, ev_seq, ev_asg, sBnd_def, ev_op, ev_un, bnd_def, ev_call, evs_cons, evs_nil, ev_var, ev_c, ev_if, ev_next, ev_expr, ev_tru, ev_bl, ev_and, ev_or, ev_not, ev_yes, ev_andE, ev_orE, ev_notE, ev_ifE, ev_chain, ofB_some, ofO_some, ofO_none, truD_non, truD_bl, truD_int, truD_str, truD_tup, truD_lst, truD_lsk, ev_tup, ev_lst, ev_nwF, ev_nwM, ev_meth, ev_make, ev_fld, ev_setF, ev_bm1, asQ_tup, asQ_lst, asQ_lsk, asL_lst, asL_lsk, dLen_tup, dLen_lst, dLen_lsk, dLen_str, dIx_tup, dIx_lst, dIx_lsk, dIx_str, dAdd_int, dNeg_int, isN_def, notN_def, isNon_non, isNon_int, isNon_bl, isNon_str, isNon_tup, isNon_lst, isNon_obj, isNon_exc, dEq_int, dNe_int, dEq_str, dNe_str, dEq_bl, atI_zero, atI_one, atI_2, atI_3, atI_4, atI_5, atI_6, atI_7, atI_8, atI_9, atI_10, atI_11, atI_12, atI_m1, ev_gT, setAll_nil, setAll_cons, iOp_int, ev_gN, ev_ret, List.map_cons, List.map_nil, List.length_cons, List.length_nil, rep_zero, rep_succ, List.cons_append, List.nil_append, List.getElem?_cons_zero, List.getElem?_cons_succ, List.set_cons_zero, List.set_cons_succ, Nat.sub_self, Nat.reduceAdd, Nat.reduceSub, Option.map_some, Option.bind_some, if_true, Bool.not_true, Bool.not_false, Bool.false_eq_true, if_false, decide_true, decide_false, Int.reduceBEq, Int.reduceEq, Int.reduceLT, Int.reduceLE, Int.reduceNeg, Int.reduceAdd, Int.reduceSub, Int.reduceMul, Int.reduceToNat, Nat.reduceLT, Nat.reduceLeDiff, beq_self_eq_true, reduceIte, eq_self, Int.reduceNe, Int.reduceBNe, not_true_eq_false, not_false_eq_true, true_and, and_true, true_or, or_true, false_or, or_false, and_false, false_and, decide_eq_true_eq, Bool.true_and, Bool.and_true, Bool.false_and, Bool.and_false, Bool.true_or, Bool.or_true, Bool.false_or, Bool.or_false, ad]
      refine ⟨_, _, .inl (?_ : _ = Res.fl (.nx [some (.lst (lvs (namesN (k + 1)))), some (.lst (lvs (rowsN (k + 1)))), some (.int (k : Int)), some (.lst (lvs (rowsN (k + 1)))), z4, none, none]) s'), rfl, _, _, _, rfl⟩
      unfold l_law_names_2
      exact (seq_nx1 g1).trans ((seq_nx1 g2).trans ((seq_nx1 g3).trans g4)))
  obtain ⟨h3, y2, y3, y4, h4⟩ := h2
  subst h3; subst h4
  have u3 : u_law_names_3 [some (.lst []), some (.lst [.str (mkS [])]), none, none, none, none, none] s' = .fl (.nx [some (.lst (lvs (namesN 4))), some (.lst (lvs (rowsN 4))), y2, y3, y4, none, none]) s' := by
    have hr : (4 : Int) ≤ 16777216 ∧ -(2 ^ 62) ≤ (4 : Int) := by decide
    unfold u_law_names_3
    simp only [fnOf, ev_seq, ev_asg, sBnd_def, ev_op, ev_un, bnd_def, ev_call, evs_cons, evs_nil, ev_var, ev_c, ev_if, ev_next, ev_expr, ev_tru, ev_bl, ev_and, ev_or, ev_not, ev_yes, ev_andE, ev_orE, ev_notE, ev_ifE, ev_chain, ofB_some, ofO_some, ofO_none, truD_non, truD_bl, truD_int, truD_str, truD_tup, truD_lst, truD_lsk, ev_tup, ev_lst, ev_nwF, ev_nwM, ev_meth, ev_make, ev_fld, ev_setF, ev_bm1, asQ_tup, asQ_lst, asQ_lsk, asL_lst, asL_lsk, dLen_tup, dLen_lst, dLen_lsk, dLen_str, dIx_tup, dIx_lst, dIx_lsk, dIx_str, dAdd_int, dNeg_int, isN_def, notN_def, isNon_non, isNon_int, isNon_bl, isNon_str, isNon_tup, isNon_lst, isNon_obj, isNon_exc, dEq_int, dNe_int, dEq_str, dNe_str, dEq_bl, atI_zero, atI_one, atI_2, atI_3, atI_4, atI_5, atI_6, atI_7, atI_8, atI_9, atI_10, atI_11, atI_12, atI_m1, ev_gT, setAll_nil, setAll_cons, iOp_int, ev_gN, ev_ret, List.map_cons, List.map_nil, List.length_cons, List.length_nil, rep_zero, rep_succ, List.cons_append, List.nil_append, List.getElem?_cons_zero, List.getElem?_cons_succ, List.set_cons_zero, List.set_cons_succ, Nat.sub_self, Nat.reduceAdd, Nat.reduceSub, Option.map_some, Option.bind_some, if_true, Bool.not_true, Bool.not_false, Bool.false_eq_true, if_false, decide_true, decide_false, Int.reduceBEq, Int.reduceEq, Int.reduceLT, Int.reduceLE, Int.reduceNeg, Int.reduceAdd, Int.reduceSub, Int.reduceMul, Int.reduceToNat, Nat.reduceLT, Nat.reduceLeDiff, beq_self_eq_true, reduceIte, eq_self, Int.reduceNe, Int.reduceBNe, not_true_eq_false, not_false_eq_true, true_and, and_true, true_or, or_true, false_or, or_false, and_false, false_and, decide_eq_true_eq, Bool.true_and, Bool.and_true, Bool.false_and, Bool.and_false, Bool.true_or, Bool.or_true, Bool.false_or, Bool.or_false, ev_for, ev_iRange, hr]
    exact h1
  have lc : lcGo (gN 6) (tBl (eOp dNe (eVar 6) (eC (.str (mkS []))))) (eVar 6) (fun _ => True) (lvs (namesN 4)) [some (.lst (lvs (namesN 4))), some (.lst (lvs (rowsN 4))), y2, y3, y4, none, none] s' = .ok (lvs namesL) s' := by
    refine lc_filter (f := fun l => .str (mkS l)) (g := fun l => .str (mkS l)) (p := fun n => !(n == [])) ?_ fun n _ => ⟨[some (.lst (lvs (namesN 4))), some (.lst (lvs (rowsN 4))), y2, y3, y4, none, some (.str (mkS n))], rfl, ?_, fun _ => ?_⟩
    · trivial
    · simp only [fnOf, ev_seq, ev_asg, sBnd_def, ev_op, ev_un, bnd_def, ev_call, evs_cons, evs_nil, ev_var, ev_c, ev_if, ev_next, ev_expr, ev_tru, ev_bl, ev_and, ev_or, ev_not, ev_yes, ev_andE, ev_orE, ev_notE, ev_ifE, ev_chain, ofB_some, ofO_some, ofO_none, truD_non, truD_bl, truD_int, truD_str, truD_tup, truD_lst, truD_lsk, ev_tup, ev_lst, ev_nwF, ev_nwM, ev_meth, ev_make, ev_fld, ev_setF, ev_bm1, asQ_tup, asQ_lst, asQ_lsk, asL_lst, asL_lsk, dLen_tup, dLen_lst, dLen_lsk, dLen_str, dIx_tup, dIx_lst, dIx_lsk, dIx_str, dAdd_int, dNeg_int, isN_def, notN_def, isNon_non, isNon_int, isNon_bl, isNon_str, isNon_tup, isNon_lst, isNon_obj, isNon_exc, dEq_int, dNe_int, dEq_str, dNe_str, dEq_bl, atI_zero, atI_one, atI_2, atI_3, atI_4, atI_5, atI_6, atI_7, atI_8, atI_9, atI_10, atI_11, atI_12, atI_m1, ev_gT, setAll_nil, setAll_cons, iOp_int, ev_gN, ev_ret, List.map_cons, List.map_nil, List.length_cons, List.length_nil, rep_zero, rep_succ, List.cons_append, List.nil_append, List.getElem?_cons_zero, List.getElem?_cons_succ, List.set_cons_zero, List.set_cons_succ, Nat.sub_self, Nat.reduceAdd, Nat.reduceSub, Option.map_some, Option.bind_some, if_true, Bool.not_true, Bool.not_false, Bool.false_eq_true, if_false, decide_true, decide_false, Int.reduceBEq, Int.reduceEq, Int.reduceLT, Int.reduceLE, Int.reduceNeg, Int.reduceAdd, Int.reduceSub, Int.reduceMul, Int.reduceToNat, Nat.reduceLT, Nat.reduceLeDiff, beq_self_eq_true, reduceIte, eq_self, Int.reduceNe, Int.reduceBNe, not_true_eq_false, not_false_eq_true, true_and, and_true, true_or, or_true, false_or, or_false, and_false, false_and, decide_eq_true_eq, Bool.true_and, Bool.and_true, Bool.false_and, Bool.and_false, Bool.true_or, Bool.or_true, Bool.false_or, Bool.or_false, mkS_beq]
    · simp only [fnOf, ev_seq, ev_asg, sBnd_def, ev_op, ev_un, bnd_def, ev_call, evs_cons, evs_nil, ev_var, ev_c, ev_if, ev_next, ev_expr, ev_tru, ev_bl, ev_and, ev_or, ev_not, ev_yes, ev_andE, ev_orE, ev_notE, ev_ifE, ev_chain, ofB_some, ofO_some, ofO_none, truD_non, truD_bl, truD_int, truD_str, truD_tup, truD_lst, truD_lsk, ev_tup, ev_lst, ev_nwF, ev_nwM, ev_meth, ev_make, ev_fld, ev_setF, ev_bm1, asQ_tup, asQ_lst, asQ_lsk, asL_lst, asL_lsk, dLen_tup, dLen_lst, dLen_lsk, dLen_str, dIx_tup, dIx_lst, dIx_lsk, dIx_str, dAdd_int, dNeg_int, isN_def, notN_def, isNon_non, isNon_int, isNon_bl, isNon_str, isNon_tup, isNon_lst, isNon_obj, isNon_exc, dEq_int, dNe_int, dEq_str, dNe_str, dEq_bl, atI_zero, atI_one, atI_2, atI_3, atI_4, atI_5, atI_6, atI_7, atI_8, atI_9, atI_10, atI_11, atI_12, atI_m1, ev_gT, setAll_nil, setAll_cons, iOp_int, ev_gN, ev_ret, List.map_cons, List.map_nil, List.length_cons, List.length_nil, rep_zero, rep_succ, List.cons_append, List.nil_append, List.getElem?_cons_zero, List.getElem?_cons_succ, List.set_cons_zero, List.set_cons_succ, Nat.sub_self, Nat.reduceAdd, Nat.reduceSub, Option.map_some, Option.bind_some, if_true, Bool.not_true, Bool.not_false, Bool.false_eq_true, if_false, decide_true, decide_false, Int.reduceBEq, Int.reduceEq, Int.reduceLT, Int.reduceLE, Int.reduceNeg, Int.reduceAdd, Int.reduceSub, Int.reduceMul, Int.reduceToNat, Nat.reduceLT, Nat.reduceLeDiff, beq_self_eq_true, reduceIte, eq_self, Int.reduceNe, Int.reduceBNe, not_true_eq_false, not_false_eq_true, true_and, and_true, true_or, or_true, false_or, or_false, and_false, false_and, decide_eq_true_eq, Bool.true_and, Bool.and_true, Bool.false_and, Bool.and_false, Bool.true_or, Bool.or_true, Bool.false_or, Bool.or_false]
  have u4 : u_law_names_4 [some (.lst (lvs (namesN 4))), some (.lst (lvs (rowsN 4))), y2, y3, y4, none, none] s' = .fl (.rt (.lst (lvs namesL))) s' := by
    unfold u_law_names_4
    simp only [fnOf, ev_seq, ev_asg, sBnd_def, ev_op, ev_un, bnd_def, ev_call, evs_cons, evs_nil, ev_var, ev_c, ev_if, ev_next, ev_expr, ev_tru, ev_bl, ev_and, ev_or, ev_not, ev_yes, ev_andE, ev_orE, ev_notE, ev_ifE, ev_chain, ofB_some, ofO_some, ofO_none, truD_non, truD_bl, truD_int, truD_str, truD_tup, truD_lst, truD_lsk, ev_tup, ev_lst, ev_nwF, ev_nwM, ev_meth, ev_make, ev_fld, ev_setF, ev_bm1, asQ_tup, asQ_lst, asQ_lsk, asL_lst, asL_lsk, dLen_tup, dLen_lst, dLen_lsk, dLen_str, dIx_tup, dIx_lst, dIx_lsk, dIx_str, dAdd_int, dNeg_int, isN_def, notN_def, isNon_non, isNon_int, isNon_bl, isNon_str, isNon_tup, isNon_lst, isNon_obj, isNon_exc, dEq_int, dNe_int, dEq_str, dNe_str, dEq_bl, atI_zero, atI_one, atI_2, atI_3, atI_4, atI_5, atI_6, atI_7, atI_8, atI_9, atI_10, atI_11, atI_12, atI_m1, ev_gT, setAll_nil, setAll_cons, iOp_int, ev_gN, ev_ret, List.map_cons, List.map_nil, List.length_cons, List.length_nil, rep_zero, rep_succ, List.cons_append, List.nil_append, List.getElem?_cons_zero, List.getElem?_cons_succ, List.set_cons_zero, List.set_cons_succ, Nat.sub_self, Nat.reduceAdd, Nat.reduceSub, Option.map_some, Option.bind_some, if_true, Bool.not_true, Bool.not_false, Bool.false_eq_true, if_false, decide_true, decide_false, Int.reduceBEq, Int.reduceEq, Int.reduceLT, Int.reduceLE, Int.reduceNeg, Int.reduceAdd, Int.reduceSub, Int.reduceMul, Int.reduceToNat, Nat.reduceLT, Nat.reduceLeDiff, beq_self_eq_true, reduceIte, eq_self, Int.reduceNe, Int.reduceBNe, not_true_eq_false, not_false_eq_true, true_and, and_true, true_or, or_true, false_or, or_false, and_false, false_and, decide_eq_true_eq, Bool.true_and, Bool.and_true, Bool.false_and, Bool.and_false, Bool.true_or, Bool.or_true, Bool.false_or, Bool.or_false, t_nil, ev_lc, ev_iSeq, wipeD_nil, wipeD_cons, bndN, lc]
  unfold m_law_names b_law_names
  simp only [fnOf, ev_seq, ev_asg, sBnd_def, ev_op, ev_un, bnd_def, ev_call, evs_cons, evs_nil, ev_var, ev_c, ev_if, ev_next, ev_expr, ev_tru, ev_bl, ev_and, ev_or, ev_not, ev_yes, ev_andE, ev_orE, ev_notE, ev_ifE, ev_chain, ofB_some, ofO_some, ofO_none, truD_non, truD_bl, truD_int, truD_str, truD_tup, truD_lst, truD_lsk, ev_tup, ev_lst, ev_nwF, ev_nwM, ev_meth, ev_make, ev_fld, ev_setF, ev_bm1, asQ_tup, asQ_lst, asQ_lsk, asL_lst, asL_lsk, dLen_tup, dLen_lst, dLen_lsk, dLen_str, dIx_tup, dIx_lst, dIx_lsk, dIx_str, dAdd_int, dNeg_int, isN_def, notN_def, isNon_non, isNon_int, isNon_bl, isNon_str, isNon_tup, isNon_lst, isNon_obj, isNon_exc, dEq_int, dNe_int, dEq_str, dNe_str, dEq_bl, atI_zero, atI_one, atI_2, atI_3, atI_4, atI_5, atI_6, atI_7, atI_8, atI_9, atI_10, atI_11, atI_12, atI_m1, ev_gT, setAll_nil, setAll_cons, iOp_int, ev_gN, ev_ret, List.map_cons, List.map_nil, List.length_cons, List.length_nil, rep_zero, rep_succ, List.cons_append, List.nil_append, List.getElem?_cons_zero, List.getElem?_cons_succ, List.set_cons_zero, List.set_cons_succ, Nat.sub_self, Nat.reduceAdd, Nat.reduceSub, Option.map_some, Option.bind_some, if_true, Bool.not_true, Bool.not_false, Bool.false_eq_true, if_false, decide_true, decide_false, Int.reduceBEq, Int.reduceEq, Int.reduceLT, Int.reduceLE, Int.reduceNeg, Int.reduceAdd, Int.reduceSub, Int.reduceMul, Int.reduceToNat, Nat.reduceLT, Nat.reduceLeDiff, beq_self_eq_true, reduceIte, eq_self, Int.reduceNe, Int.reduceBNe, not_true_eq_false, not_false_eq_true, true_and, and_true, true_or, or_true, false_or, or_false, and_false, false_and, decide_eq_true_eq, Bool.true_and, Bool.and_true, Bool.false_and, Bool.and_false, Bool.true_or, Bool.or_true, Bool.false_or, Bool.or_false, u_law_names_1, u_law_names_2, t_nil, u3, u4]

/-! ### small wishes -/
theorem plain_app {xs : List (List Nat)} : plain (xs ++ [[35]]) = xs := by
  unfold plain
  rw [List.getLast?_concat, if_pos rfl, List.dropLast_concat]
theorem plain_no {xs : List (List Nat)} (h : ∀ p ∈ xs, p ≠ [35]) : plain xs = xs := by
  unfold plain
  split
  · rename_i e
    exact absurd rfl (h [35] (List.mem_of_getLast? e))
  · rfl
theorem wish_join {ps : List (List Nat)} (h0 : ps ≠ []) (h1 : ps ≠ [[]]) (h8 : ps.length ≤ 8) (hf : ∀ p ∈ ps, 47 ∉ p) (hg : ∀ p ∈ plain ps, gw p = true) : isWish (TL.joinL [47] ps) = true ∧ splC 47 (TL.joinL [47] ps) = ps := by
  have e := splC_join 47 h0 hf
  refine ⟨?_, e⟩
  unfold isWish
  rw [e]
  have : (TL.joinL [47] ps == []) = false := by
    rw [beq_eq_false_iff_ne]
    intro h
    rcases joinL_nil h with h | h
    · exact h0 h
    · exact h1 h
  rw [this, decide_eq_true h8]
  exact List.all_eq_true.mpr hg
def five : List (List Nat) := [[97], [98], [43], [], [36, 115]]
theorem five_ok {p : List Nat} (h : p ∈ five) : p ∈ [[97], [98], [43], [], [36, 115], [35]] ∧ gw p = true ∧ p ≠ [35] ∧ 47 ∉ p ∧ p.length ≤ 2 := by
  unfold five at h
  simp only [List.mem_cons, List.not_mem_nil, or_false] at h
  rcases h with e | e | e | e | e <;> (subst e; decide)
def Small (w : List Nat) : Prop := isWish w = true ∧ smallL (splC 47 w) ∧ (splC 47 w).length ≤ 3
theorem small_of {ps : List (List Nat)} (h0 : ps ≠ []) (h1 : ps ≠ [[]]) (h3 : ps.length ≤ 3) (h : (∀ p ∈ ps, p ∈ five) ∨ ∃ xs, ps = xs ++ [[35]] ∧ ∀ p ∈ xs, p ∈ five) : Small (TL.joinL [47] ps) := by
  rcases h with h | ⟨xs, e, h⟩
  · have pn := plain_no fun p hp => (five_ok (h p hp)).2.2.1
    obtain ⟨a, b⟩ := wish_join h0 h1 (by omega) (fun p hp => (five_ok (h p hp)).2.2.2.1) (by rw [pn]; exact fun p hp => (five_ok (h p hp)).2.1)
    exact ⟨a, by rw [b]; exact fun p hp => (five_ok (h p hp)).1, by rw [b]; exact h3⟩
  · subst e
    have mem : ∀ p ∈ xs ++ [[35]], p ∈ five ∨ p = [35] := fun p hp => by
      rcases List.mem_append.mp hp with hp | hp
      · exact .inl (h p hp)
      · exact .inr (by simpa using hp)
    obtain ⟨a, b⟩ := wish_join h0 h1 (by omega) (fun p hp => by
      rcases mem p hp with hp | hp
      · exact (five_ok hp).2.2.2.1
      · subst hp; decide) (by rw [plain_app]; exact fun p hp => (five_ok (h p hp)).2.1)
    refine ⟨a, ?_, by rw [b]; exact h3⟩
    rw [b]
    intro p hp
    rcases mem p hp with hp | hp
    · exact (five_ok hp).1
    · subst hp; decide
theorem small_plus : Small [43] := ⟨by decide, fun p hp => by
  have : splC 47 [43] = [[43]] := by decide
  rw [this] at hp
  simp at hp
  subst hp
  decide, by decide⟩
theorem ex_small (ns : List Int) {n : Nat} {s : Sto} (hs : 0 < s.length) (hn : n ≤ 900000) : ∃ w n', n' ≤ n + 10 ∧ Small w ∧ m_law_small [sc ns, .obj 0] (tw s n) = .ok (.str (mkS w)) (tw s n') := by
  obtain ⟨v, hv, d1⟩ := ex_draw ns (n := n) (s := s) (many := 3) hs (by omega) (by decide)
  obtain ⟨ys, s', c1, c2, c3, c4⟩ := lc_inv (tg := gN 3) (fe := eCall m_law_pick [eVar 0, eVar 1, eLst nwF [eC (.str (mkS [97])), eC (.str (mkS [98])), eC (.str (mkS [43])), eC (.str (mkS [43])), eC (.str (mkS [])), eC (.str (mkS [36, 115]))]]) (ok := fun _ => True) (env := [some (sc ns), some (.obj 0), none, none])
    (fun m s' => s' = tw s (n + 1 + m)) (fun y => ∃ q, y = .str (mkS q) ∧ q ∈ five) 3 (fun _ _ _ => trivial) (l := (List.range (1 + v)).map fun (k : Nat) => .int (k : Int)) (n := 0) (s := tw s (n + 1)) (by rw [List.length_map, List.length_range]; omega) rfl (fun m s' d hd hm h => by
      obtain ⟨p, hp1, hp2⟩ := List.mem_map.mp hd
      subst hp2; subst h
      obtain ⟨d, hd, e⟩ := ex_pick ns (n := n + 1 + m) (s := s) (l := [.str (mkS [97]), .str (mkS [98]), .str (mkS [43]), .str (mkS [43]), .str (mkS []), .str (mkS [36, 115])]) hs (by omega) (by simp)
      refine ⟨_, rfl, d, tw s (n + 1 + m + 1), by simp only [fnOf, ev_seq, ev_asg, sBnd_def, ev_op, ev_un, bnd_def, ev_call, evs_cons, evs_nil, ev_var, ev_c, ev_if, ev_next, ev_expr, ev_tru, ev_bl, ev_and, ev_or, ev_not, ev_yes, ev_andE, ev_orE, ev_notE, ev_ifE, ev_chain, ofB_some, ofO_some, ofO_none, truD_non, truD_bl, truD_int, truD_str, truD_tup, truD_lst, truD_lsk, ev_tup, ev_lst, ev_nwF, ev_nwM, ev_meth, ev_make, ev_fld, ev_setF, ev_bm1, asQ_tup, asQ_lst, asQ_lsk, asL_lst, asL_lsk, dLen_tup, dLen_lst, dLen_lsk, dLen_str, dIx_tup, dIx_lst, dIx_lsk, dIx_str, dAdd_int, dNeg_int, isN_def, notN_def, isNon_non, isNon_int, isNon_bl, isNon_str, isNon_tup, isNon_lst, isNon_obj, isNon_exc, dEq_int, dNe_int, dEq_str, dNe_str, dEq_bl, atI_zero, atI_one, atI_2, atI_3, atI_4, atI_5, atI_6, atI_7, atI_8, atI_9, atI_10, atI_11, atI_12, atI_m1, ev_gT, setAll_nil, setAll_cons, iOp_int, ev_gN, ev_ret, List.map_cons, List.map_nil, List.length_cons, List.length_nil, rep_zero, rep_succ, List.cons_append, List.nil_append, List.getElem?_cons_zero, List.getElem?_cons_succ, List.set_cons_zero, List.set_cons_succ, Nat.sub_self, Nat.reduceAdd, Nat.reduceSub, Option.map_some, Option.bind_some, if_true, Bool.not_true, Bool.not_false, Bool.false_eq_true, if_false, decide_true, decide_false, Int.reduceBEq, Int.reduceEq, Int.reduceLT, Int.reduceLE, Int.reduceNeg, Int.reduceAdd, Int.reduceSub, Int.reduceMul, Int.reduceToNat, Nat.reduceLT, Nat.reduceLeDiff, beq_self_eq_true, reduceIte, eq_self, Int.reduceNe, Int.reduceBNe, not_true_eq_false, not_false_eq_true, true_and, and_true, true_or, or_true, false_or, or_false, and_false, false_and, decide_eq_true_eq, Bool.true_and, Bool.and_true, Bool.false_and, Bool.and_false, Bool.true_or, Bool.or_true, Bool.false_or, Bool.or_false, e], ?_, by rw [Nat.add_assoc (n + 1)]⟩
      simp only [List.mem_cons, List.not_mem_nil, or_false] at hd
      rcases hd with h | h | h | h | h | h <;> exact ⟨_, h, by decide⟩)
  obtain ⟨ps, hq1, hq2⟩ := lvs_of c4
  subst hq1; subst c2
  rw [List.length_map, List.length_map, List.length_range] at c3
  have hps : ps ≠ [] := fun h => by rw [h] at c3; simp at c3; omega
  rw [List.length_map, List.length_range, Nat.zero_add] at c1
  have u1 : u_law_small_1 [some (sc ns), some (.obj 0), none, none] (tw s n) = .fl (.nx [some (sc ns), some (.obj 0), some (.lst (lvs ps)), none]) (tw s (n + 1 + (1 + v))) := by
    have hr : (1 : Int) + (v : Int) ≤ 16777216 ∧ -(2 ^ 62) ≤ (1 : Int) + (v : Int) := by omega
    have hz : ((1 : Int) + (v : Int)).toNat = 1 + v := by omega
    unfold u_law_small_1
    simp only [fnOf, ev_seq, ev_asg, sBnd_def, ev_op, ev_un, bnd_def, ev_call, evs_cons, evs_nil, ev_var, ev_c, ev_if, ev_next, ev_expr, ev_tru, ev_bl, ev_and, ev_or, ev_not, ev_yes, ev_andE, ev_orE, ev_notE, ev_ifE, ev_chain, ofB_some, ofO_some, ofO_none, truD_non, truD_bl, truD_int, truD_str, truD_tup, truD_lst, truD_lsk, ev_tup, ev_lst, ev_nwF, ev_nwM, ev_meth, ev_make, ev_fld, ev_setF, ev_bm1, asQ_tup, asQ_lst, asQ_lsk, asL_lst, asL_lsk, dLen_tup, dLen_lst, dLen_lsk, dLen_str, dIx_tup, dIx_lst, dIx_lsk, dIx_str, dAdd_int, dNeg_int, isN_def, notN_def, isNon_non, isNon_int, isNon_bl, isNon_str, isNon_tup, isNon_lst, isNon_obj, isNon_exc, dEq_int, dNe_int, dEq_str, dNe_str, dEq_bl, atI_zero, atI_one, atI_2, atI_3, atI_4, atI_5, atI_6, atI_7, atI_8, atI_9, atI_10, atI_11, atI_12, atI_m1, ev_gT, setAll_nil, setAll_cons, iOp_int, ev_gN, ev_ret, List.map_cons, List.map_nil, List.length_cons, List.length_nil, rep_zero, rep_succ, List.cons_append, List.nil_append, List.getElem?_cons_zero, List.getElem?_cons_succ, List.set_cons_zero, List.set_cons_succ, Nat.sub_self, Nat.reduceAdd, Nat.reduceSub, Option.map_some, Option.bind_some, if_true, Bool.not_true, Bool.not_false, Bool.false_eq_true, if_false, decide_true, decide_false, Int.reduceBEq, Int.reduceEq, Int.reduceLT, Int.reduceLE, Int.reduceNeg, Int.reduceAdd, Int.reduceSub, Int.reduceMul, Int.reduceToNat, Nat.reduceLT, Nat.reduceLeDiff, beq_self_eq_true, reduceIte, eq_self, Int.reduceNe, Int.reduceBNe, not_true_eq_false, not_false_eq_true, true_and, and_true, true_or, or_true, false_or, or_false, and_false, false_and, decide_eq_true_eq, Bool.true_and, Bool.and_true, Bool.false_and, Bool.and_false, Bool.true_or, Bool.or_true, Bool.false_or, Bool.or_false, d1, ev_lc, ev_iRange, hr, hz, wipeD_nil, wipeD_cons, bndN, t_a, t_b, t_plus, t_nil, t_ds, c1]
  -- perhaps a # for the last ones
  have u2 : ∃ qs n', n' ≤ n + 8 ∧ qs ≠ [] ∧ qs.length ≤ 3 ∧ ((∀ p ∈ qs, p ∈ five) ∨ ∃ xs, qs = xs ++ [[35]] ∧ ∀ p ∈ xs, p ∈ five) ∧ u_law_small_2 [some (sc ns), some (.obj 0), some (.lst (lvs ps)), none] (tw s (n + 1 + (1 + v))) = .fl (.nx [some (sc ns), some (.obj 0), some (.lst (lvs qs)), none]) (tw s n') := by
    obtain ⟨v2, hv2, d2⟩ := ex_draw ns (n := n + 1 + (1 + v)) (s := s) (many := 3) hs (by omega) (by decide)
    unfold u_law_small_2
    cases hb : ((v2 : Int) == 0) with
    | false => exact ⟨ps, n + 1 + (1 + v) + 1, by omega, hps, by omega, .inl hq2, by simp only [fnOf, ev_seq, ev_asg, sBnd_def, ev_op, ev_un, bnd_def, ev_call, evs_cons, evs_nil, ev_var, ev_c, ev_if, ev_next, ev_expr, ev_tru, ev_bl, ev_and, ev_or, ev_not, ev_yes, ev_andE, ev_orE, ev_notE, ev_ifE, ev_chain, ofB_some, ofO_some, ofO_none, truD_non, truD_bl, truD_int, truD_str, truD_tup, truD_lst, truD_lsk, ev_tup, ev_lst, ev_nwF, ev_nwM, ev_meth, ev_make, ev_fld, ev_setF, ev_bm1, asQ_tup, asQ_lst, asQ_lsk, asL_lst, asL_lsk, dLen_tup, dLen_lst, dLen_lsk, dLen_str, dIx_tup, dIx_lst, dIx_lsk, dIx_str, dAdd_int, dNeg_int, isN_def, notN_def, isNon_non, isNon_int, isNon_bl, isNon_str, isNon_tup, isNon_lst, isNon_obj, isNon_exc, dEq_int, dNe_int, dEq_str, dNe_str, dEq_bl, atI_zero, atI_one, atI_2, atI_3, atI_4, atI_5, atI_6, atI_7, atI_8, atI_9, atI_10, atI_11, atI_12, atI_m1, ev_gT, setAll_nil, setAll_cons, iOp_int, ev_gN, ev_ret, List.map_cons, List.map_nil, List.length_cons, List.length_nil, rep_zero, rep_succ, List.cons_append, List.nil_append, List.getElem?_cons_zero, List.getElem?_cons_succ, List.set_cons_zero, List.set_cons_succ, Nat.sub_self, Nat.reduceAdd, Nat.reduceSub, Option.map_some, Option.bind_some, if_true, Bool.not_true, Bool.not_false, Bool.false_eq_true, if_false, decide_true, decide_false, Int.reduceBEq, Int.reduceEq, Int.reduceLT, Int.reduceLE, Int.reduceNeg, Int.reduceAdd, Int.reduceSub, Int.reduceMul, Int.reduceToNat, Nat.reduceLT, Nat.reduceLeDiff, beq_self_eq_true, reduceIte, eq_self, Int.reduceNe, Int.reduceBNe, not_true_eq_false, not_false_eq_true, true_and, and_true, true_or, or_true, false_or, or_false, and_false, false_and, decide_eq_true_eq, Bool.true_and, Bool.and_true, Bool.false_and, Bool.and_false, Bool.true_or, Bool.or_true, Bool.false_or, Bool.or_false, d2, hb]⟩
    | true =>
      obtain ⟨u, hu, d3⟩ := ex_draw ns (n := n + 1 + (1 + v) + 1) (s := s) (many := (ps.length : Int)) hs (by omega) (by omega)
      have cu : cutD (lvs ps) none (some (u : Int)) = lvs (ps.take u) := by rw [cut_take]; exact (List.map_take ..).symm
      have ad : dAdd nwF (.lst (lvs (ps.take u))) (.lst [.str (mkS [35])]) (tw s (n + 1 + (1 + v) + 1 + 1)) = .ok (.lst (lvs (ps.take u ++ [[35]]))) (tw s (n + 1 + (1 + v) + 1 + 1)) := by
        rw [dAdd_lst' (by simp; omega)]
        simp [lvs]
      refine ⟨ps.take u ++ [[35]], n + 1 + (1 + v) + 1 + 1, by omega, by simp, by simp; omega, .inr ⟨ps.take u, rfl, fun p hp => hq2 p (List.mem_of_mem_take hp)⟩, ?_⟩
      simp only [fnOf, ev_seq, ev_asg, sBnd_def, ev_op, ev_un, bnd_def, ev_call, evs_cons, evs_nil, ev_var, ev_c, ev_if, ev_next, ev_expr, ev_tru, ev_bl, ev_and, ev_or, ev_not, ev_yes, ev_andE, ev_orE, ev_notE, ev_ifE, ev_chain, ofB_some, ofO_some, ofO_none, truD_non, truD_bl, truD_int, truD_str, truD_tup, truD_lst, truD_lsk, ev_tup, ev_lst, ev_nwF, ev_nwM, ev_meth, ev_make, ev_fld, ev_setF, ev_bm1, asQ_tup, asQ_lst, asQ_lsk, asL_lst, asL_lsk, dLen_tup, dLen_lst, dLen_lsk, dLen_str, dIx_tup, dIx_lst, dIx_lsk, dIx_str, dAdd_int, dNeg_int, isN_def, notN_def, isNon_non, isNon_int, isNon_bl, isNon_str, isNon_tup, isNon_lst, isNon_obj, isNon_exc, dEq_int, dNe_int, dEq_str, dNe_str, dEq_bl, atI_zero, atI_one, atI_2, atI_3, atI_4, atI_5, atI_6, atI_7, atI_8, atI_9, atI_10, atI_11, atI_12, atI_m1, ev_gT, setAll_nil, setAll_cons, iOp_int, ev_gN, ev_ret, List.map_cons, List.map_nil, List.length_cons, List.length_nil, rep_zero, rep_succ, List.cons_append, List.nil_append, List.getElem?_cons_zero, List.getElem?_cons_succ, List.set_cons_zero, List.set_cons_succ, Nat.sub_self, Nat.reduceAdd, Nat.reduceSub, Option.map_some, Option.bind_some, if_true, Bool.not_true, Bool.not_false, Bool.false_eq_true, if_false, decide_true, decide_false, Int.reduceBEq, Int.reduceEq, Int.reduceLT, Int.reduceLE, Int.reduceNeg, Int.reduceAdd, Int.reduceSub, Int.reduceMul, Int.reduceToNat, Nat.reduceLT, Nat.reduceLeDiff, beq_self_eq_true, reduceIte, eq_self, Int.reduceNe, Int.reduceBNe, not_true_eq_false, not_false_eq_true, true_and, and_true, true_or, or_true, false_or, or_false, and_false, false_and, decide_eq_true_eq, Bool.true_and, Bool.and_true, Bool.false_and, Bool.and_false, Bool.true_or, Bool.or_true, Bool.false_or, Bool.or_false, d2, hb, ev_sl, evp_none, evp_some, List.length_map, d3, dSl_lst, cu, t_hash, ad]
  obtain ⟨qs, n', q1, q2, q3, q4, u2⟩ := u2
  have dn : dNe (.lst (lvs qs)) (.lst [.str (mkS [])]) (tw s n') = .ok (.bl (!(qs == [[]]))) (tw s n') := dNe_lvs qs [[]] _
  by_cases hl : qs = [[]]
  · have hb : (qs == [[]]) = true := by simpa using hl
    refine ⟨[43], n', by omega, small_plus, ?_⟩
    unfold m_law_small b_law_small
    simp only [fnOf, ev_seq, ev_asg, sBnd_def, ev_op, ev_un, bnd_def, ev_call, evs_cons, evs_nil, ev_var, ev_c, ev_if, ev_next, ev_expr, ev_tru, ev_bl, ev_and, ev_or, ev_not, ev_yes, ev_andE, ev_orE, ev_notE, ev_ifE, ev_chain, ofB_some, ofO_some, ofO_none, truD_non, truD_bl, truD_int, truD_str, truD_tup, truD_lst, truD_lsk, ev_tup, ev_lst, ev_nwF, ev_nwM, ev_meth, ev_make, ev_fld, ev_setF, ev_bm1, asQ_tup, asQ_lst, asQ_lsk, asL_lst, asL_lsk, dLen_tup, dLen_lst, dLen_lsk, dLen_str, dIx_tup, dIx_lst, dIx_lsk, dIx_str, dAdd_int, dNeg_int, isN_def, notN_def, isNon_non, isNon_int, isNon_bl, isNon_str, isNon_tup, isNon_lst, isNon_obj, isNon_exc, dEq_int, dNe_int, dEq_str, dNe_str, dEq_bl, atI_zero, atI_one, atI_2, atI_3, atI_4, atI_5, atI_6, atI_7, atI_8, atI_9, atI_10, atI_11, atI_12, atI_m1, ev_gT, setAll_nil, setAll_cons, iOp_int, ev_gN, ev_ret, List.map_cons, List.map_nil, List.length_cons, List.length_nil, rep_zero, rep_succ, List.cons_append, List.nil_append, List.getElem?_cons_zero, List.getElem?_cons_succ, List.set_cons_zero, List.set_cons_succ, Nat.sub_self, Nat.reduceAdd, Nat.reduceSub, Option.map_some, Option.bind_some, if_true, Bool.not_true, Bool.not_false, Bool.false_eq_true, if_false, decide_true, decide_false, Int.reduceBEq, Int.reduceEq, Int.reduceLT, Int.reduceLE, Int.reduceNeg, Int.reduceAdd, Int.reduceSub, Int.reduceMul, Int.reduceToNat, Nat.reduceLT, Nat.reduceLeDiff, beq_self_eq_true, reduceIte, eq_self, Int.reduceNe, Int.reduceBNe, not_true_eq_false, not_false_eq_true, true_and, and_true, true_or, or_true, false_or, or_false, and_false, false_and, decide_eq_true_eq, Bool.true_and, Bool.and_true, Bool.false_and, Bool.and_false, Bool.true_or, Bool.or_true, Bool.false_or, Bool.or_false, u1, u2, u_law_small_3, t_nil, t_plus, dn, hb]
  · have hb : (qs == [[]]) = false := by simpa using hl
    have h2 : ∀ p ∈ qs, p.length ≤ 100 := fun p hp => by
      rcases q4 with h | ⟨xs, e, h⟩
      · have := (five_ok (h p hp)).2.2.2.2; omega
      · subst e
        rcases List.mem_append.mp hp with hp | hp
        · have := (five_ok (h p hp)).2.2.2.2; omega
        · simp at hp; subst hp; decide
    have hj := dJoin_lst (s := tw s n') (d := .lst (lvs qs)) (ps := qs) rfl (sum_small h2 (by omega))
    refine ⟨TL.joinL [47] qs, n', by omega, small_of q2 hl q3 q4, ?_⟩
    unfold m_law_small b_law_small
    simp only [fnOf, ev_seq, ev_asg, sBnd_def, ev_op, ev_un, bnd_def, ev_call, evs_cons, evs_nil, ev_var, ev_c, ev_if, ev_next, ev_expr, ev_tru, ev_bl, ev_and, ev_or, ev_not, ev_yes, ev_andE, ev_orE, ev_notE, ev_ifE, ev_chain, ofB_some, ofO_some, ofO_none, truD_non, truD_bl, truD_int, truD_str, truD_tup, truD_lst, truD_lsk, ev_tup, ev_lst, ev_nwF, ev_nwM, ev_meth, ev_make, ev_fld, ev_setF, ev_bm1, asQ_tup, asQ_lst, asQ_lsk, asL_lst, asL_lsk, dLen_tup, dLen_lst, dLen_lsk, dLen_str, dIx_tup, dIx_lst, dIx_lsk, dIx_str, dAdd_int, dNeg_int, isN_def, notN_def, isNon_non, isNon_int, isNon_bl, isNon_str, isNon_tup, isNon_lst, isNon_obj, isNon_exc, dEq_int, dNe_int, dEq_str, dNe_str, dEq_bl, atI_zero, atI_one, atI_2, atI_3, atI_4, atI_5, atI_6, atI_7, atI_8, atI_9, atI_10, atI_11, atI_12, atI_m1, ev_gT, setAll_nil, setAll_cons, iOp_int, ev_gN, ev_ret, List.map_cons, List.map_nil, List.length_cons, List.length_nil, rep_zero, rep_succ, List.cons_append, List.nil_append, List.getElem?_cons_zero, List.getElem?_cons_succ, List.set_cons_zero, List.set_cons_succ, Nat.sub_self, Nat.reduceAdd, Nat.reduceSub, Option.map_some, Option.bind_some, if_true, Bool.not_true, Bool.not_false, Bool.false_eq_true, if_false, decide_true, decide_false, Int.reduceBEq, Int.reduceEq, Int.reduceLT, Int.reduceLE, Int.reduceNeg, Int.reduceAdd, Int.reduceSub, Int.reduceMul, Int.reduceToNat, Nat.reduceLT, Nat.reduceLeDiff, beq_self_eq_true, reduceIte, eq_self, Int.reduceNe, Int.reduceBNe, not_true_eq_false, not_false_eq_true, true_and, and_true, true_or, or_true, false_or, or_false, and_false, false_and, decide_eq_true_eq, Bool.true_and, Bool.and_true, Bool.false_and, Bool.and_false, Bool.true_or, Bool.or_true, Bool.false_or, Bool.or_false, u1, u2, u_law_small_3, t_nil, t_slash, isStr_str, dn, hb, hj]
/-! ### small ones, asked -/
def gN' (l : List (List Nat)) (k : Nat) : List Nat := (l[k]?).getD []
theorem range_any (l : List (List Nat)) (f : List Nat → Bool) : ((List.range l.length).any fun k => f (gN' l k)) = l.any f := by
  induction l with
  | nil => rfl
  | cons a r ih =>
    rw [List.length_cons, List.range_succ_eq_map, List.any_cons, List.any_map, List.any_cons, ← ih]
    rfl
theorem atI_bools {l : List (List Nat)} {f : List Nat → Bool} {k : Nat} (h : k < l.length) : atI (l.map fun n => Dt.bl (f n)) (k : Int) = some (.bl (f (gN' l k))) := by
  rw [atI_ofNat, List.getElem?_map]
  unfold gN'
  rw [List.getElem?_eq_getElem h]
  rfl
theorem ev_good {a b : List Nat} {N : List (List Nat)} {s : Sto} (ha : isWish a = true) (hb : isWish b = true) (hN : N.length ≤ 100000) (hc : coversC a b = !(N.any fun n => fitsC b n && !fitsC a n)) (hm : meetC a b = none → (N.any fun n => fitsC b n && fitsC a n) = false) :
    m_law_good [.str (mkS a), .str (mkS b), .lst (lvs N)] s = .ok (.bl true) s := by
  have l1 : lcGo (gN 7) Pd.tYes (eCall m_law_fits [eVar 0, eVar 7]) (fun _ => True) (lvs N) [some (.str (mkS a)), some (.str (mkS b)), some (.lst (lvs N)), none, none, none, none, none, none] s = .ok (N.map fun n => .bl (fitsC a n)) s := by
    refine lc_map (f := fun l => .str (mkS l)) ?_ fun n _ => ⟨[some (.str (mkS a)), some (.str (mkS b)), some (.lst (lvs N)), none, none, none, none, some (.str (mkS n)), none], rfl, rfl, ?_⟩
    · trivial
    · simp only [fnOf, ev_seq, ev_asg, sBnd_def, ev_op, ev_un, bnd_def, ev_call, evs_cons, evs_nil, ev_var, ev_c, ev_if, ev_next, ev_expr, ev_tru, ev_bl, ev_and, ev_or, ev_not, ev_yes, ev_andE, ev_orE, ev_notE, ev_ifE, ev_chain, ofB_some, ofO_some, ofO_none, truD_non, truD_bl, truD_int, truD_str, truD_tup, truD_lst, truD_lsk, ev_tup, ev_lst, ev_nwF, ev_nwM, ev_meth, ev_make, ev_fld, ev_setF, ev_bm1, asQ_tup, asQ_lst, asQ_lsk, asL_lst, asL_lsk, dLen_tup, dLen_lst, dLen_lsk, dLen_str, dIx_tup, dIx_lst, dIx_lsk, dIx_str, dAdd_int, dNeg_int, isN_def, notN_def, isNon_non, isNon_int, isNon_bl, isNon_str, isNon_tup, isNon_lst, isNon_obj, isNon_exc, dEq_int, dNe_int, dEq_str, dNe_str, dEq_bl, atI_zero, atI_one, atI_2, atI_3, atI_4, atI_5, atI_6, atI_7, atI_8, atI_9, atI_10, atI_11, atI_12, atI_m1, ev_gT, setAll_nil, setAll_cons, iOp_int, ev_gN, ev_ret, List.map_cons, List.map_nil, List.length_cons, List.length_nil, rep_zero, rep_succ, List.cons_append, List.nil_append, List.getElem?_cons_zero, List.getElem?_cons_succ, List.set_cons_zero, List.set_cons_succ, Nat.sub_self, Nat.reduceAdd, Nat.reduceSub, Option.map_some, Option.bind_some, if_true, Bool.not_true, Bool.not_false, Bool.false_eq_true, if_false, decide_true, decide_false, Int.reduceBEq, Int.reduceEq, Int.reduceLT, Int.reduceLE, Int.reduceNeg, Int.reduceAdd, Int.reduceSub, Int.reduceMul, Int.reduceToNat, Nat.reduceLT, Nat.reduceLeDiff, beq_self_eq_true, reduceIte, eq_self, Int.reduceNe, Int.reduceBNe, not_true_eq_false, not_false_eq_true, true_and, and_true, true_or, or_true, false_or, or_false, and_false, false_and, decide_eq_true_eq, Bool.true_and, Bool.and_true, Bool.false_and, Bool.and_false, Bool.true_or, Bool.or_true, Bool.false_or, Bool.or_false, ev_law_fits ha]
  have l2 : ∀ x3, lcGo (gN 7) Pd.tYes (eCall m_law_fits [eVar 1, eVar 7]) (fun _ => True) (lvs N) [some (.str (mkS a)), some (.str (mkS b)), some (.lst (lvs N)), x3, none, none, none, none, none] s = .ok (N.map fun n => .bl (fitsC b n)) s := fun x3 => by
    refine lc_map (f := fun l => .str (mkS l)) ?_ fun n _ => ⟨[some (.str (mkS a)), some (.str (mkS b)), some (.lst (lvs N)), x3, none, none, none, some (.str (mkS n)), none], rfl, rfl, ?_⟩
    · trivial
    · simp only [fnOf, ev_seq, ev_asg, sBnd_def, ev_op, ev_un, bnd_def, ev_call, evs_cons, evs_nil, ev_var, ev_c, ev_if, ev_next, ev_expr, ev_tru, ev_bl, ev_and, ev_or, ev_not, ev_yes, ev_andE, ev_orE, ev_notE, ev_ifE, ev_chain, ofB_some, ofO_some, ofO_none, truD_non, truD_bl, truD_int, truD_str, truD_tup, truD_lst, truD_lsk, ev_tup, ev_lst, ev_nwF, ev_nwM, ev_meth, ev_make, ev_fld, ev_setF, ev_bm1, asQ_tup, asQ_lst, asQ_lsk, asL_lst, asL_lsk, dLen_tup, dLen_lst, dLen_lsk, dLen_str, dIx_tup, dIx_lst, dIx_lsk, dIx_str, dAdd_int, dNeg_int, isN_def, notN_def, isNon_non, isNon_int, isNon_bl, isNon_str, isNon_tup, isNon_lst, isNon_obj, isNon_exc, dEq_int, dNe_int, dEq_str, dNe_str, dEq_bl, atI_zero, atI_one, atI_2, atI_3, atI_4, atI_5, atI_6, atI_7, atI_8, atI_9, atI_10, atI_11, atI_12, atI_m1, ev_gT, setAll_nil, setAll_cons, iOp_int, ev_gN, ev_ret, List.map_cons, List.map_nil, List.length_cons, List.length_nil, rep_zero, rep_succ, List.cons_append, List.nil_append, List.getElem?_cons_zero, List.getElem?_cons_succ, List.set_cons_zero, List.set_cons_succ, Nat.sub_self, Nat.reduceAdd, Nat.reduceSub, Option.map_some, Option.bind_some, if_true, Bool.not_true, Bool.not_false, Bool.false_eq_true, if_false, decide_true, decide_false, Int.reduceBEq, Int.reduceEq, Int.reduceLT, Int.reduceLE, Int.reduceNeg, Int.reduceAdd, Int.reduceSub, Int.reduceMul, Int.reduceToNat, Nat.reduceLT, Nat.reduceLeDiff, beq_self_eq_true, reduceIte, eq_self, Int.reduceNe, Int.reduceBNe, not_true_eq_false, not_false_eq_true, true_and, and_true, true_or, or_true, false_or, or_false, and_false, false_and, decide_eq_true_eq, Bool.true_and, Bool.and_true, Bool.false_and, Bool.and_false, Bool.true_or, Bool.or_true, Bool.false_or, Bool.or_false, ev_law_fits hb]
  have e1 : u_law_good_1 [some (.str (mkS a)), some (.str (mkS b)), some (.lst (lvs N)), none, none, none, none, none, none] s = .fl (.nx [some (.str (mkS a)), some (.str (mkS b)), some (.lst (lvs N)), some (.lst (N.map fun n => .bl (fitsC a n))), none, none, none, none, none]) s := by
    unfold u_law_good_1
    simp only [fnOf, ev_seq, ev_asg, sBnd_def, ev_op, ev_un, bnd_def, ev_call, evs_cons, evs_nil, ev_var, ev_c, ev_if, ev_next, ev_expr, ev_tru, ev_bl, ev_and, ev_or, ev_not, ev_yes, ev_andE, ev_orE, ev_notE, ev_ifE, ev_chain, ofB_some, ofO_some, ofO_none, truD_non, truD_bl, truD_int, truD_str, truD_tup, truD_lst, truD_lsk, ev_tup, ev_lst, ev_nwF, ev_nwM, ev_meth, ev_make, ev_fld, ev_setF, ev_bm1, asQ_tup, asQ_lst, asQ_lsk, asL_lst, asL_lsk, dLen_tup, dLen_lst, dLen_lsk, dLen_str, dIx_tup, dIx_lst, dIx_lsk, dIx_str, dAdd_int, dNeg_int, isN_def, notN_def, isNon_non, isNon_int, isNon_bl, isNon_str, isNon_tup, isNon_lst, isNon_obj, isNon_exc, dEq_int, dNe_int, dEq_str, dNe_str, dEq_bl, atI_zero, atI_one, atI_2, atI_3, atI_4, atI_5, atI_6, atI_7, atI_8, atI_9, atI_10, atI_11, atI_12, atI_m1, ev_gT, setAll_nil, setAll_cons, iOp_int, ev_gN, ev_ret, List.map_cons, List.map_nil, List.length_cons, List.length_nil, rep_zero, rep_succ, List.cons_append, List.nil_append, List.getElem?_cons_zero, List.getElem?_cons_succ, List.set_cons_zero, List.set_cons_succ, Nat.sub_self, Nat.reduceAdd, Nat.reduceSub, Option.map_some, Option.bind_some, if_true, Bool.not_true, Bool.not_false, Bool.false_eq_true, if_false, decide_true, decide_false, Int.reduceBEq, Int.reduceEq, Int.reduceLT, Int.reduceLE, Int.reduceNeg, Int.reduceAdd, Int.reduceSub, Int.reduceMul, Int.reduceToNat, Nat.reduceLT, Nat.reduceLeDiff, beq_self_eq_true, reduceIte, eq_self, Int.reduceNe, Int.reduceBNe, not_true_eq_false, not_false_eq_true, true_and, and_true, true_or, or_true, false_or, or_false, and_false, false_and, decide_eq_true_eq, Bool.true_and, Bool.and_true, Bool.false_and, Bool.and_false, Bool.true_or, Bool.or_true, Bool.false_or, Bool.or_false, ev_lc, ev_iSeq, wipeD_nil, wipeD_cons, bndN, l1]
  have e2 : u_law_good_2 [some (.str (mkS a)), some (.str (mkS b)), some (.lst (lvs N)), some (.lst (N.map fun n => .bl (fitsC a n))), none, none, none, none, none] s = .fl (.nx [some (.str (mkS a)), some (.str (mkS b)), some (.lst (lvs N)), some (.lst (N.map fun n => .bl (fitsC a n))), some (.lst (N.map fun n => .bl (fitsC b n))), none, none, none, none]) s := by
    unfold u_law_good_2
    simp only [fnOf, ev_seq, ev_asg, sBnd_def, ev_op, ev_un, bnd_def, ev_call, evs_cons, evs_nil, ev_var, ev_c, ev_if, ev_next, ev_expr, ev_tru, ev_bl, ev_and, ev_or, ev_not, ev_yes, ev_andE, ev_orE, ev_notE, ev_ifE, ev_chain, ofB_some, ofO_some, ofO_none, truD_non, truD_bl, truD_int, truD_str, truD_tup, truD_lst, truD_lsk, ev_tup, ev_lst, ev_nwF, ev_nwM, ev_meth, ev_make, ev_fld, ev_setF, ev_bm1, asQ_tup, asQ_lst, asQ_lsk, asL_lst, asL_lsk, dLen_tup, dLen_lst, dLen_lsk, dLen_str, dIx_tup, dIx_lst, dIx_lsk, dIx_str, dAdd_int, dNeg_int, isN_def, notN_def, isNon_non, isNon_int, isNon_bl, isNon_str, isNon_tup, isNon_lst, isNon_obj, isNon_exc, dEq_int, dNe_int, dEq_str, dNe_str, dEq_bl, atI_zero, atI_one, atI_2, atI_3, atI_4, atI_5, atI_6, atI_7, atI_8, atI_9, atI_10, atI_11, atI_12, atI_m1, ev_gT, setAll_nil, setAll_cons, iOp_int, ev_gN, ev_ret, List.map_cons, List.map_nil, List.length_cons, List.length_nil, rep_zero, rep_succ, List.cons_append, List.nil_append, List.getElem?_cons_zero, List.getElem?_cons_succ, List.set_cons_zero, List.set_cons_succ, Nat.sub_self, Nat.reduceAdd, Nat.reduceSub, Option.map_some, Option.bind_some, if_true, Bool.not_true, Bool.not_false, Bool.false_eq_true, if_false, decide_true, decide_false, Int.reduceBEq, Int.reduceEq, Int.reduceLT, Int.reduceLE, Int.reduceNeg, Int.reduceAdd, Int.reduceSub, Int.reduceMul, Int.reduceToNat, Nat.reduceLT, Nat.reduceLeDiff, beq_self_eq_true, reduceIte, eq_self, Int.reduceNe, Int.reduceBNe, not_true_eq_false, not_false_eq_true, true_and, and_true, true_or, or_true, false_or, or_false, and_false, false_and, decide_eq_true_eq, Bool.true_and, Bool.and_true, Bool.false_and, Bool.and_false, Bool.true_or, Bool.or_true, Bool.false_or, Bool.or_false, ev_lc, ev_iSeq, wipeD_nil, wipeD_cons, bndN, l2]
  have hr : (N.length : Int) ≤ 16777216 ∧ -(2 ^ 62) ≤ (N.length : Int) := by omega
  have l3 : lcGo (gN 8) Pd.tYes (eAnd (eOp dIx (eVar 4) (eVar 8)) (eNot (eOp dIx (eVar 3) (eVar 8)))) (fun _ => True) ((List.range N.length).map fun (k : Nat) => .int (k : Int)) [some (.str (mkS a)), some (.str (mkS b)), some (.lst (lvs N)), some (.lst (N.map fun n => .bl (fitsC a n))), some (.lst (N.map fun n => .bl (fitsC b n))), none, none, none, none] s = .ok ((List.range N.length).map fun k => .bl (fitsC b (gN' N k) && !fitsC a (gN' N k))) s := by
    refine lc_map ?_ fun k hk => ⟨[some (.str (mkS a)), some (.str (mkS b)), some (.lst (lvs N)), some (.lst (N.map fun n => .bl (fitsC a n))), some (.lst (N.map fun n => .bl (fitsC b n))), none, none, none, some (.int (k : Int))], rfl, rfl, ?_⟩
    · trivial
    · have hk2 : k < N.length := List.mem_range.mp hk
      cases hx : fitsC b (gN' N k) with
      | true => simp only [fnOf, ev_seq, ev_asg, sBnd_def, ev_op, ev_un, bnd_def, ev_call, evs_cons, evs_nil, ev_var, ev_c, ev_if, ev_next, ev_expr, ev_tru, ev_bl, ev_and, ev_or, ev_not, ev_yes, ev_andE, ev_orE, ev_notE, ev_ifE, ev_chain, ofB_some, ofO_some, ofO_none, truD_non, truD_bl, truD_int, truD_str, truD_tup, truD_lst, truD_lsk, ev_tup, ev_lst, ev_nwF, ev_nwM, ev_meth, ev_make, ev_fld, ev_setF, ev_bm1, asQ_tup, asQ_lst, asQ_lsk, asL_lst, asL_lsk, dLen_tup, dLen_lst, dLen_lsk, dLen_str, dIx_tup, dIx_lst, dIx_lsk, dIx_str, dAdd_int, dNeg_int, isN_def, notN_def, isNon_non, isNon_int, isNon_bl, isNon_str, isNon_tup, isNon_lst, isNon_obj, isNon_exc, dEq_int, dNe_int, dEq_str, dNe_str, dEq_bl, atI_zero, atI_one, atI_2, atI_3, atI_4, atI_5, atI_6, atI_7, atI_8, atI_9, atI_10, atI_11, atI_12, atI_m1, ev_gT, setAll_nil, setAll_cons, iOp_int, ev_gN, ev_ret, List.map_cons, List.map_nil, List.length_cons, List.length_nil, rep_zero, rep_succ, List.cons_append, List.nil_append, List.getElem?_cons_zero, List.getElem?_cons_succ, List.set_cons_zero, List.set_cons_succ, Nat.sub_self, Nat.reduceAdd, Nat.reduceSub, Option.map_some, Option.bind_some, if_true, Bool.not_true, Bool.not_false, Bool.false_eq_true, if_false, decide_true, decide_false, Int.reduceBEq, Int.reduceEq, Int.reduceLT, Int.reduceLE, Int.reduceNeg, Int.reduceAdd, Int.reduceSub, Int.reduceMul, Int.reduceToNat, Nat.reduceLT, Nat.reduceLeDiff, beq_self_eq_true, reduceIte, eq_self, Int.reduceNe, Int.reduceBNe, not_true_eq_false, not_false_eq_true, true_and, and_true, true_or, or_true, false_or, or_false, and_false, false_and, decide_eq_true_eq, Bool.true_and, Bool.and_true, Bool.false_and, Bool.and_false, Bool.true_or, Bool.or_true, Bool.false_or, Bool.or_false, atI_bools hk2, hx]
      | false => simp only [fnOf, ev_seq, ev_asg, sBnd_def, ev_op, ev_un, bnd_def, ev_call, evs_cons, evs_nil, ev_var, ev_c, ev_if, ev_next, ev_expr, ev_tru, ev_bl, ev_and, ev_or, ev_not, ev_yes, ev_andE, ev_orE, ev_notE, ev_ifE, ev_chain, ofB_some, ofO_some, ofO_none, truD_non, truD_bl, truD_int, truD_str, truD_tup, truD_lst, truD_lsk, ev_tup, ev_lst, ev_nwF, ev_nwM, ev_meth, ev_make, ev_fld, ev_setF, ev_bm1, asQ_tup, asQ_lst, asQ_lsk, asL_lst, asL_lsk, dLen_tup, dLen_lst, dLen_lsk, dLen_str, dIx_tup, dIx_lst, dIx_lsk, dIx_str, dAdd_int, dNeg_int, isN_def, notN_def, isNon_non, isNon_int, isNon_bl, isNon_str, isNon_tup, isNon_lst, isNon_obj, isNon_exc, dEq_int, dNe_int, dEq_str, dNe_str, dEq_bl, atI_zero, atI_one, atI_2, atI_3, atI_4, atI_5, atI_6, atI_7, atI_8, atI_9, atI_10, atI_11, atI_12, atI_m1, ev_gT, setAll_nil, setAll_cons, iOp_int, ev_gN, ev_ret, List.map_cons, List.map_nil, List.length_cons, List.length_nil, rep_zero, rep_succ, List.cons_append, List.nil_append, List.getElem?_cons_zero, List.getElem?_cons_succ, List.set_cons_zero, List.set_cons_succ, Nat.sub_self, Nat.reduceAdd, Nat.reduceSub, Option.map_some, Option.bind_some, if_true, Bool.not_true, Bool.not_false, Bool.false_eq_true, if_false, decide_true, decide_false, Int.reduceBEq, Int.reduceEq, Int.reduceLT, Int.reduceLE, Int.reduceNeg, Int.reduceAdd, Int.reduceSub, Int.reduceMul, Int.reduceToNat, Nat.reduceLT, Nat.reduceLeDiff, beq_self_eq_true, reduceIte, eq_self, Int.reduceNe, Int.reduceBNe, not_true_eq_false, not_false_eq_true, true_and, and_true, true_or, or_true, false_or, or_false, and_false, false_and, decide_eq_true_eq, Bool.true_and, Bool.and_true, Bool.false_and, Bool.and_false, Bool.true_or, Bool.or_true, Bool.false_or, Bool.or_false, atI_bools hk2, hx]
  have a3 : ((List.range N.length).any fun k => fitsC b (gN' N k) && !fitsC a (gN' N k)) = N.any fun n => fitsC b n && !fitsC a n := range_any N fun n => fitsC b n && !fitsC a n
  have e3 : u_law_good_3 [some (.str (mkS a)), some (.str (mkS b)), some (.lst (lvs N)), some (.lst (N.map fun n => .bl (fitsC a n))), some (.lst (N.map fun n => .bl (fitsC b n))), none, none, none, none] s = .fl (.nx [some (.str (mkS a)), some (.str (mkS b)), some (.lst (lvs N)), some (.lst (N.map fun n => .bl (fitsC a n))), some (.lst (N.map fun n => .bl (fitsC b n))), some (.bl (coversC a b)), none, none, none]) s := by
    unfold u_law_good_3
    simp only [fnOf, ev_seq, ev_asg, sBnd_def, ev_op, ev_un, bnd_def, ev_call, evs_cons, evs_nil, ev_var, ev_c, ev_if, ev_next, ev_expr, ev_tru, ev_bl, ev_and, ev_or, ev_not, ev_yes, ev_andE, ev_orE, ev_notE, ev_ifE, ev_chain, ofB_some, ofO_some, ofO_none, truD_non, truD_bl, truD_int, truD_str, truD_tup, truD_lst, truD_lsk, ev_tup, ev_lst, ev_nwF, ev_nwM, ev_meth, ev_make, ev_fld, ev_setF, ev_bm1, asQ_tup, asQ_lst, asQ_lsk, asL_lst, asL_lsk, dLen_tup, dLen_lst, dLen_lsk, dLen_str, dIx_tup, dIx_lst, dIx_lsk, dIx_str, dAdd_int, dNeg_int, isN_def, notN_def, isNon_non, isNon_int, isNon_bl, isNon_str, isNon_tup, isNon_lst, isNon_obj, isNon_exc, dEq_int, dNe_int, dEq_str, dNe_str, dEq_bl, atI_zero, atI_one, atI_2, atI_3, atI_4, atI_5, atI_6, atI_7, atI_8, atI_9, atI_10, atI_11, atI_12, atI_m1, ev_gT, setAll_nil, setAll_cons, iOp_int, ev_gN, ev_ret, List.map_cons, List.map_nil, List.length_cons, List.length_nil, rep_zero, rep_succ, List.cons_append, List.nil_append, List.getElem?_cons_zero, List.getElem?_cons_succ, List.set_cons_zero, List.set_cons_succ, Nat.sub_self, Nat.reduceAdd, Nat.reduceSub, Option.map_some, Option.bind_some, if_true, Bool.not_true, Bool.not_false, Bool.false_eq_true, if_false, decide_true, decide_false, Int.reduceBEq, Int.reduceEq, Int.reduceLT, Int.reduceLE, Int.reduceNeg, Int.reduceAdd, Int.reduceSub, Int.reduceMul, Int.reduceToNat, Nat.reduceLT, Nat.reduceLeDiff, beq_self_eq_true, reduceIte, eq_self, Int.reduceNe, Int.reduceBNe, not_true_eq_false, not_false_eq_true, true_and, and_true, true_or, or_true, false_or, or_false, and_false, false_and, decide_eq_true_eq, Bool.true_and, Bool.and_true, Bool.false_and, Bool.and_false, Bool.true_or, Bool.or_true, Bool.false_or, Bool.or_false, List.length_map, ev_lc, ev_iRange, hr, Int.toNat_natCast, wipeD_nil, wipeD_cons, bndN, l3, dAny_map, a3, hc]
  have t0 := told0 a b s
  rw [if_pos ⟨ha, hb⟩] at t0
  have t1 := told1 a b s
  rw [if_pos ⟨ha, hb⟩] at t1
  have hi : dIsi "bool" (.bl (coversC a b)) s = .ok (.bl true) s := rfl
  have dn : dNe (.bl (coversC a b)) (.bl (coversC a b)) s = .ok (.bl false) s := (dEq_self (n := 0) rfl (by decide)).2
  unfold m_law_good b_law_good
  cases hme : meetC a b with
  | none =>
    rw [hme] at t1
    have l7 : ∀ y5 y6 y7, lcGo (gN 8) Pd.tYes (eAnd (eOp dIx (eVar 4) (eVar 8)) (eOp dIx (eVar 3) (eVar 8))) (fun _ => True) ((List.range N.length).map fun (k : Nat) => .int (k : Int)) [some (.str (mkS a)), some (.str (mkS b)), some (.lst (lvs N)), some (.lst (N.map fun n => .bl (fitsC a n))), some (.lst (N.map fun n => .bl (fitsC b n))), y5, y6, y7, none] s = .ok ((List.range N.length).map fun k => .bl (fitsC b (gN' N k) && fitsC a (gN' N k))) s := fun y5 y6 y7 => by
      refine lc_map ?_ fun k hk => ⟨[some (.str (mkS a)), some (.str (mkS b)), some (.lst (lvs N)), some (.lst (N.map fun n => .bl (fitsC a n))), some (.lst (N.map fun n => .bl (fitsC b n))), y5, y6, y7, some (.int (k : Int))], rfl, rfl, ?_⟩
      · trivial
      · have hk2 : k < N.length := List.mem_range.mp hk
        cases hx : fitsC b (gN' N k) with
        | true => simp only [fnOf, ev_seq, ev_asg, sBnd_def, ev_op, ev_un, bnd_def, ev_call, evs_cons, evs_nil, ev_var, ev_c, ev_if, ev_next, ev_expr, ev_tru, ev_bl, ev_and, ev_or, ev_not, ev_yes, ev_andE, ev_orE, ev_notE, ev_ifE, ev_chain, ofB_some, ofO_some, ofO_none, truD_non, truD_bl, truD_int, truD_str, truD_tup, truD_lst, truD_lsk, ev_tup, ev_lst, ev_nwF, ev_nwM, ev_meth, ev_make, ev_fld, ev_setF, ev_bm1, asQ_tup, asQ_lst, asQ_lsk, asL_lst, asL_lsk, dLen_tup, dLen_lst, dLen_lsk, dLen_str, dIx_tup, dIx_lst, dIx_lsk, dIx_str, dAdd_int, dNeg_int, isN_def, notN_def, isNon_non, isNon_int, isNon_bl, isNon_str, isNon_tup, isNon_lst, isNon_obj, isNon_exc, dEq_int, dNe_int, dEq_str, dNe_str, dEq_bl, atI_zero, atI_one, atI_2, atI_3, atI_4, atI_5, atI_6, atI_7, atI_8, atI_9, atI_10, atI_11, atI_12, atI_m1, ev_gT, setAll_nil, setAll_cons, iOp_int, ev_gN, ev_ret, List.map_cons, List.map_nil, List.length_cons, List.length_nil, rep_zero, rep_succ, List.cons_append, List.nil_append, List.getElem?_cons_zero, List.getElem?_cons_succ, List.set_cons_zero, List.set_cons_succ, Nat.sub_self, Nat.reduceAdd, Nat.reduceSub, Option.map_some, Option.bind_some, if_true, Bool.not_true, Bool.not_false, Bool.false_eq_true, if_false, decide_true, decide_false, Int.reduceBEq, Int.reduceEq, Int.reduceLT, Int.reduceLE, Int.reduceNeg, Int.reduceAdd, Int.reduceSub, Int.reduceMul, Int.reduceToNat, Nat.reduceLT, Nat.reduceLeDiff, beq_self_eq_true, reduceIte, eq_self, Int.reduceNe, Int.reduceBNe, not_true_eq_false, not_false_eq_true, true_and, and_true, true_or, or_true, false_or, or_false, and_false, false_and, decide_eq_true_eq, Bool.true_and, Bool.and_true, Bool.false_and, Bool.and_false, Bool.true_or, Bool.or_true, Bool.false_or, Bool.or_false, atI_bools hk2, hx]
        | false => simp only [fnOf, ev_seq, ev_asg, sBnd_def, ev_op, ev_un, bnd_def, ev_call, evs_cons, evs_nil, ev_var, ev_c, ev_if, ev_next, ev_expr, ev_tru, ev_bl, ev_and, ev_or, ev_not, ev_yes, ev_andE, ev_orE, ev_notE, ev_ifE, ev_chain, ofB_some, ofO_some, ofO_none, truD_non, truD_bl, truD_int, truD_str, truD_tup, truD_lst, truD_lsk, ev_tup, ev_lst, ev_nwF, ev_nwM, ev_meth, ev_make, ev_fld, ev_setF, ev_bm1, asQ_tup, asQ_lst, asQ_lsk, asL_lst, asL_lsk, dLen_tup, dLen_lst, dLen_lsk, dLen_str, dIx_tup, dIx_lst, dIx_lsk, dIx_str, dAdd_int, dNeg_int, isN_def, notN_def, isNon_non, isNon_int, isNon_bl, isNon_str, isNon_tup, isNon_lst, isNon_obj, isNon_exc, dEq_int, dNe_int, dEq_str, dNe_str, dEq_bl, atI_zero, atI_one, atI_2, atI_3, atI_4, atI_5, atI_6, atI_7, atI_8, atI_9, atI_10, atI_11, atI_12, atI_m1, ev_gT, setAll_nil, setAll_cons, iOp_int, ev_gN, ev_ret, List.map_cons, List.map_nil, List.length_cons, List.length_nil, rep_zero, rep_succ, List.cons_append, List.nil_append, List.getElem?_cons_zero, List.getElem?_cons_succ, List.set_cons_zero, List.set_cons_succ, Nat.sub_self, Nat.reduceAdd, Nat.reduceSub, Option.map_some, Option.bind_some, if_true, Bool.not_true, Bool.not_false, Bool.false_eq_true, if_false, decide_true, decide_false, Int.reduceBEq, Int.reduceEq, Int.reduceLT, Int.reduceLE, Int.reduceNeg, Int.reduceAdd, Int.reduceSub, Int.reduceMul, Int.reduceToNat, Nat.reduceLT, Nat.reduceLeDiff, beq_self_eq_true, reduceIte, eq_self, Int.reduceNe, Int.reduceBNe, not_true_eq_false, not_false_eq_true, true_and, and_true, true_or, or_true, false_or, or_false, and_false, false_and, decide_eq_true_eq, Bool.true_and, Bool.and_true, Bool.false_and, Bool.and_false, Bool.true_or, Bool.or_true, Bool.false_or, Bool.or_false, atI_bools hk2, hx]
    have a7 : ((List.range N.length).any fun k => fitsC b (gN' N k) && fitsC a (gN' N k)) = false := (range_any N fun n => fitsC b n && fitsC a n).trans (hm hme)
    simp only [fnOf, ev_seq, ev_asg, sBnd_def, ev_op, ev_un, bnd_def, ev_call, evs_cons, evs_nil, ev_var, ev_c, ev_if, ev_next, ev_expr, ev_tru, ev_bl, ev_and, ev_or, ev_not, ev_yes, ev_andE, ev_orE, ev_notE, ev_ifE, ev_chain, ofB_some, ofO_some, ofO_none, truD_non, truD_bl, truD_int, truD_str, truD_tup, truD_lst, truD_lsk, ev_tup, ev_lst, ev_nwF, ev_nwM, ev_meth, ev_make, ev_fld, ev_setF, ev_bm1, asQ_tup, asQ_lst, asQ_lsk, asL_lst, asL_lsk, dLen_tup, dLen_lst, dLen_lsk, dLen_str, dIx_tup, dIx_lst, dIx_lsk, dIx_str, dAdd_int, dNeg_int, isN_def, notN_def, isNon_non, isNon_int, isNon_bl, isNon_str, isNon_tup, isNon_lst, isNon_obj, isNon_exc, dEq_int, dNe_int, dEq_str, dNe_str, dEq_bl, atI_zero, atI_one, atI_2, atI_3, atI_4, atI_5, atI_6, atI_7, atI_8, atI_9, atI_10, atI_11, atI_12, atI_m1, ev_gT, setAll_nil, setAll_cons, iOp_int, ev_gN, ev_ret, List.map_cons, List.map_nil, List.length_cons, List.length_nil, rep_zero, rep_succ, List.cons_append, List.nil_append, List.getElem?_cons_zero, List.getElem?_cons_succ, List.set_cons_zero, List.set_cons_succ, Nat.sub_self, Nat.reduceAdd, Nat.reduceSub, Option.map_some, Option.bind_some, if_true, Bool.not_true, Bool.not_false, Bool.false_eq_true, if_false, decide_true, decide_false, Int.reduceBEq, Int.reduceEq, Int.reduceLT, Int.reduceLE, Int.reduceNeg, Int.reduceAdd, Int.reduceSub, Int.reduceMul, Int.reduceToNat, Nat.reduceLT, Nat.reduceLeDiff, beq_self_eq_true, reduceIte, eq_self, Int.reduceNe, Int.reduceBNe, not_true_eq_false, not_false_eq_true, true_and, and_true, true_or, or_true, false_or, or_false, and_false, false_and, decide_eq_true_eq, Bool.true_and, Bool.and_true, Bool.false_and, Bool.and_false, Bool.true_or, Bool.or_true, Bool.false_or, Bool.or_false, e1, e2, e3, u_law_good_4, t0, u_law_good_5, hi, dn, u_law_good_6, t1, optS, u_law_good_7, List.length_map, ev_lc, ev_iRange, hr, Int.toNat_natCast, wipeD_nil, wipeD_cons, bndN, l7, dAny_map, a7]
  | some m =>
    rw [hme] at t1
    obtain ⟨g1, g2, g3⟩ := meet_fits ha hb hme
    have f1 := ev_law_is_name m s
    rw [g1] at f1
    have f2 := ev_law_fits (l := m) ha s
    rw [g2] at f2
    have f3 := ev_law_fits (l := m) hb s
    rw [g3] at f3
    simp only [fnOf, ev_seq, ev_asg, sBnd_def, ev_op, ev_un, bnd_def, ev_call, evs_cons, evs_nil, ev_var, ev_c, ev_if, ev_next, ev_expr, ev_tru, ev_bl, ev_and, ev_or, ev_not, ev_yes, ev_andE, ev_orE, ev_notE, ev_ifE, ev_chain, ofB_some, ofO_some, ofO_none, truD_non, truD_bl, truD_int, truD_str, truD_tup, truD_lst, truD_lsk, ev_tup, ev_lst, ev_nwF, ev_nwM, ev_meth, ev_make, ev_fld, ev_setF, ev_bm1, asQ_tup, asQ_lst, asQ_lsk, asL_lst, asL_lsk, dLen_tup, dLen_lst, dLen_lsk, dLen_str, dIx_tup, dIx_lst, dIx_lsk, dIx_str, dAdd_int, dNeg_int, isN_def, notN_def, isNon_non, isNon_int, isNon_bl, isNon_str, isNon_tup, isNon_lst, isNon_obj, isNon_exc, dEq_int, dNe_int, dEq_str, dNe_str, dEq_bl, atI_zero, atI_one, atI_2, atI_3, atI_4, atI_5, atI_6, atI_7, atI_8, atI_9, atI_10, atI_11, atI_12, atI_m1, ev_gT, setAll_nil, setAll_cons, iOp_int, ev_gN, ev_ret, List.map_cons, List.map_nil, List.length_cons, List.length_nil, rep_zero, rep_succ, List.cons_append, List.nil_append, List.getElem?_cons_zero, List.getElem?_cons_succ, List.set_cons_zero, List.set_cons_succ, Nat.sub_self, Nat.reduceAdd, Nat.reduceSub, Option.map_some, Option.bind_some, if_true, Bool.not_true, Bool.not_false, Bool.false_eq_true, if_false, decide_true, decide_false, Int.reduceBEq, Int.reduceEq, Int.reduceLT, Int.reduceLE, Int.reduceNeg, Int.reduceAdd, Int.reduceSub, Int.reduceMul, Int.reduceToNat, Nat.reduceLT, Nat.reduceLeDiff, beq_self_eq_true, reduceIte, eq_self, Int.reduceNe, Int.reduceBNe, not_true_eq_false, not_false_eq_true, true_and, and_true, true_or, or_true, false_or, or_false, and_false, false_and, decide_eq_true_eq, Bool.true_and, Bool.and_true, Bool.false_and, Bool.and_false, Bool.true_or, Bool.or_true, Bool.false_or, Bool.or_false, e1, e2, e3, u_law_good_4, t0, u_law_good_5, hi, dn, u_law_good_6, t1, optS, u_law_good_7, u_law_good_8, f1, f2, f3]
end Tx
namespace Tx
open PySem L2 Pd
theorem t_ph : Str.ofString "+/#" = mkS [43, 47, 35] := by decide +kernel
theorem t_sph : Str.ofString "/+/#" = mkS [47, 43, 47, 35] := by decide +kernel
theorem t_sh : Str.ofString "/#" = mkS [47, 35] := by decide +kernel
theorem t_pp : Str.ofString "+/+" = mkS [43, 47, 43] := by decide +kernel
theorem t_zz : Str.ofString "zz" = mkS [122, 122] := by decide +kernel
theorem t_ha : Str.ofString "#a" = mkS [35, 97] := by decide +kernel
theorem t_dt : Str.ofString "$t" = mkS [36, 116] := by decide +kernel
theorem namesL_len : namesL.length ≤ 100000 := by
  unfold namesL
  have h1 := List.length_filter_le (fun n : List Nat => !(n == [])) (namesN 4)
  have h2 := namesN_len 4
  have h3 : 4 * 5 ^ 4 = 2500 := by decide
  omega
/-- two texts that are no small wishes -/
theorem ex_great (ns : List Int) {n : Nat} {s : Sto} (hs : 0 < s.length) (hn : n ≤ 900000) : ∃ ps n', n' ≤ n + 200 ∧ ps ≠ [] ∧ ps.length ≤ 8 ∧ (∀ p ∈ ps, p.length ≤ 12) ∧ m_law_great [sc ns, .obj 0] (tw s n) = .ok (.lst (lvs ps)) (tw s n') := by
  obtain ⟨v, hv, d1⟩ := ex_draw ns (n := n) (s := s) (many := 8) hs (by omega) (by decide)
  obtain ⟨ys, s', c1, ⟨k1, hk1, c2⟩, c3, c4⟩ := lc_inv (tg := gN 3) (fe := eCall m_law_level [eVar 0, eVar 1]) (ok := fun _ => True) (env := [some (sc ns), some (.obj 0), none, none, none])
    (fun m s' => ∃ k, k ≤ n + 1 + 14 * m ∧ s' = tw s k) (fun y => ∃ q, y = .str (mkS q) ∧ gl q = true) 8 (fun _ _ _ => trivial) (l := (List.range (1 + v)).map fun (k : Nat) => .int (k : Int)) (n := 0) (s := tw s (n + 1)) (by rw [List.length_map, List.length_range]; omega) ⟨n + 1, by omega, rfl⟩ (fun m s' d hd hm ⟨k, hk, h⟩ => by
      obtain ⟨p, hp1, hp2⟩ := List.mem_map.mp hd
      subst hp2; subst h
      obtain ⟨l, n', hn', hl, e⟩ := ex_level ns (n := k) (s := s) hs (by omega)
      exact ⟨_, rfl, .str (mkS l), tw s n', by simp only [fnOf, ev_seq, ev_asg, sBnd_def, ev_op, ev_un, bnd_def, ev_call, evs_cons, evs_nil, ev_var, ev_c, ev_if, ev_next, ev_expr, ev_tru, ev_bl, ev_and, ev_or, ev_not, ev_yes, ev_andE, ev_orE, ev_notE, ev_ifE, ev_chain, ofB_some, ofO_some, ofO_none, truD_non, truD_bl, truD_int, truD_str, truD_tup, truD_lst, truD_lsk, ev_tup, ev_lst, ev_nwF, ev_nwM, ev_meth, ev_make, ev_fld, ev_setF, ev_bm1, asQ_tup, asQ_lst, asQ_lsk, asL_lst, asL_lsk, dLen_tup, dLen_lst, dLen_lsk, dLen_str, dIx_tup, dIx_lst, dIx_lsk, dIx_str, dAdd_int, dNeg_int, isN_def, notN_def, isNon_non, isNon_int, isNon_bl, isNon_str, isNon_tup, isNon_lst, isNon_obj, isNon_exc, dEq_int, dNe_int, dEq_str, dNe_str, dEq_bl, atI_zero, atI_one, atI_2, atI_3, atI_4, atI_5, atI_6, atI_7, atI_8, atI_9, atI_10, atI_11, atI_12, atI_m1, ev_gT, setAll_nil, setAll_cons, iOp_int, ev_gN, ev_ret, List.map_cons, List.map_nil, List.length_cons, List.length_nil, rep_zero, rep_succ, List.cons_append, List.nil_append, List.getElem?_cons_zero, List.getElem?_cons_succ, List.set_cons_zero, List.set_cons_succ, Nat.sub_self, Nat.reduceAdd, Nat.reduceSub, Option.map_some, Option.bind_some, if_true, Bool.not_true, Bool.not_false, Bool.false_eq_true, if_false, decide_true, decide_false, Int.reduceBEq, Int.reduceEq, Int.reduceLT, Int.reduceLE, Int.reduceNeg, Int.reduceAdd, Int.reduceSub, Int.reduceMul, Int.reduceToNat, Nat.reduceLT, Nat.reduceLeDiff, beq_self_eq_true, reduceIte, eq_self, Int.reduceNe, Int.reduceBNe, not_true_eq_false, not_false_eq_true, true_and, and_true, true_or, or_true, false_or, or_false, and_false, false_and, decide_eq_true_eq, Bool.true_and, Bool.and_true, Bool.false_and, Bool.and_false, Bool.true_or, Bool.or_true, Bool.false_or, Bool.or_false, e], ⟨l, rfl, hl⟩, n', by omega, rfl⟩)
  obtain ⟨ls, hq1, hq2⟩ := lvs_of c4
  subst hq1; subst c2
  rw [List.length_map, List.length_map, List.length_range] at c3
  rw [List.length_map, List.length_range] at hk1
  obtain ⟨zs, s', f1, f2, f3, f4⟩ := lc_inv (tg := gN 4) (fe := eCall m_law_pick [eVar 0, eVar 1, eLst nwF [eVar 4, eVar 4, eC (.str (mkS [43]))]]) (ok := fun _ => True) (env := [some (sc ns), some (.obj 0), some (.lst (lvs ls)), none, none])
    (fun m s' => s' = tw s (k1 + m)) (fun y => ∃ q, y = .str (mkS q) ∧ q.length ≤ 12) ls.length (fun _ _ _ => trivial) (l := lvs ls) (n := 0) (s := tw s k1) (by rw [List.length_map]; omega) rfl (fun m s' d hd hm h => by
      obtain ⟨p, hp1, hp2⟩ := List.mem_map.mp hd
      subst hp2; subst h
      obtain ⟨d, hd, e⟩ := ex_pick ns (n := k1 + m) (l := [.str (mkS p), .str (mkS p), .str (mkS [43])]) hs (by omega) (by simp)
      refine ⟨_, rfl, d, tw s (k1 + m + 1), by simp only [fnOf, ev_seq, ev_asg, sBnd_def, ev_op, ev_un, bnd_def, ev_call, evs_cons, evs_nil, ev_var, ev_c, ev_if, ev_next, ev_expr, ev_tru, ev_bl, ev_and, ev_or, ev_not, ev_yes, ev_andE, ev_orE, ev_notE, ev_ifE, ev_chain, ofB_some, ofO_some, ofO_none, truD_non, truD_bl, truD_int, truD_str, truD_tup, truD_lst, truD_lsk, ev_tup, ev_lst, ev_nwF, ev_nwM, ev_meth, ev_make, ev_fld, ev_setF, ev_bm1, asQ_tup, asQ_lst, asQ_lsk, asL_lst, asL_lsk, dLen_tup, dLen_lst, dLen_lsk, dLen_str, dIx_tup, dIx_lst, dIx_lsk, dIx_str, dAdd_int, dNeg_int, isN_def, notN_def, isNon_non, isNon_int, isNon_bl, isNon_str, isNon_tup, isNon_lst, isNon_obj, isNon_exc, dEq_int, dNe_int, dEq_str, dNe_str, dEq_bl, atI_zero, atI_one, atI_2, atI_3, atI_4, atI_5, atI_6, atI_7, atI_8, atI_9, atI_10, atI_11, atI_12, atI_m1, ev_gT, setAll_nil, setAll_cons, iOp_int, ev_gN, ev_ret, List.map_cons, List.map_nil, List.length_cons, List.length_nil, rep_zero, rep_succ, List.cons_append, List.nil_append, List.getElem?_cons_zero, List.getElem?_cons_succ, List.set_cons_zero, List.set_cons_succ, Nat.sub_self, Nat.reduceAdd, Nat.reduceSub, Option.map_some, Option.bind_some, if_true, Bool.not_true, Bool.not_false, Bool.false_eq_true, if_false, decide_true, decide_false, Int.reduceBEq, Int.reduceEq, Int.reduceLT, Int.reduceLE, Int.reduceNeg, Int.reduceAdd, Int.reduceSub, Int.reduceMul, Int.reduceToNat, Nat.reduceLT, Nat.reduceLeDiff, beq_self_eq_true, reduceIte, eq_self, Int.reduceNe, Int.reduceBNe, not_true_eq_false, not_false_eq_true, true_and, and_true, true_or, or_true, false_or, or_false, and_false, false_and, decide_eq_true_eq, Bool.true_and, Bool.and_true, Bool.false_and, Bool.and_false, Bool.true_or, Bool.or_true, Bool.false_or, Bool.or_false, e], ?_, by rw [Nat.add_assoc]⟩
      simp only [List.mem_cons, List.not_mem_nil, or_false] at hd
      rcases hd with hd | hd | hd
      · exact ⟨p, hd, gl_le (hq2 p hp1)⟩
      · exact ⟨p, hd, gl_le (hq2 p hp1)⟩
      · exact ⟨_, hd, by decide⟩)
  obtain ⟨ps, hp1, hp2⟩ := lvs_of f4
  subst hp1; subst f2
  rw [List.length_map, List.length_map] at f3
  rw [List.length_map, Nat.zero_add] at f1
  refine ⟨ps, k1 + ls.length, by omega, fun h => ?_, by omega, hp2, ?_⟩
  · rw [h] at f3
    simp at f3
    omega
  · have hr : (1 : Int) + (v : Int) ≤ 16777216 ∧ -(2 ^ 62) ≤ (1 : Int) + (v : Int) := by omega
    have hz : ((1 : Int) + (v : Int)).toNat = 1 + v := by omega
    unfold m_law_great b_law_great
    simp only [fnOf, ev_seq, ev_asg, sBnd_def, ev_op, ev_un, bnd_def, ev_call, evs_cons, evs_nil, ev_var, ev_c, ev_if, ev_next, ev_expr, ev_tru, ev_bl, ev_and, ev_or, ev_not, ev_yes, ev_andE, ev_orE, ev_notE, ev_ifE, ev_chain, ofB_some, ofO_some, ofO_none, truD_non, truD_bl, truD_int, truD_str, truD_tup, truD_lst, truD_lsk, ev_tup, ev_lst, ev_nwF, ev_nwM, ev_meth, ev_make, ev_fld, ev_setF, ev_bm1, asQ_tup, asQ_lst, asQ_lsk, asL_lst, asL_lsk, dLen_tup, dLen_lst, dLen_lsk, dLen_str, dIx_tup, dIx_lst, dIx_lsk, dIx_str, dAdd_int, dNeg_int, isN_def, notN_def, isNon_non, isNon_int, isNon_bl, isNon_str, isNon_tup, isNon_lst, isNon_obj, isNon_exc, dEq_int, dNe_int, dEq_str, dNe_str, dEq_bl, atI_zero, atI_one, atI_2, atI_3, atI_4, atI_5, atI_6, atI_7, atI_8, atI_9, atI_10, atI_11, atI_12, atI_m1, ev_gT, setAll_nil, setAll_cons, iOp_int, ev_gN, ev_ret, List.map_cons, List.map_nil, List.length_cons, List.length_nil, rep_zero, rep_succ, List.cons_append, List.nil_append, List.getElem?_cons_zero, List.getElem?_cons_succ, List.set_cons_zero, List.set_cons_succ, Nat.sub_self, Nat.reduceAdd, Nat.reduceSub, Option.map_some, Option.bind_some, if_true, Bool.not_true, Bool.not_false, Bool.false_eq_true, if_false, decide_true, decide_false, Int.reduceBEq, Int.reduceEq, Int.reduceLT, Int.reduceLE, Int.reduceNeg, Int.reduceAdd, Int.reduceSub, Int.reduceMul, Int.reduceToNat, Nat.reduceLT, Nat.reduceLeDiff, beq_self_eq_true, reduceIte, eq_self, Int.reduceNe, Int.reduceBNe, not_true_eq_false, not_false_eq_true, true_and, and_true, true_or, or_true, false_or, or_false, and_false, false_and, decide_eq_true_eq, Bool.true_and, Bool.and_true, Bool.false_and, Bool.and_false, Bool.true_or, Bool.or_true, Bool.false_or, Bool.or_false, d1, ev_lc, ev_iRange, ev_iSeq, hr, hz, wipeD_nil, wipeD_cons, bndN, c1, t_plus, f1]
theorem dEq_bb {a b c d : Bool} {s : Sto} : dEq (.lst [.bl a, .bl b]) (.lst [.bl c, .bl d]) s = .ok (.bl (a == c && b == d)) s := by
  have : dEqB s (.lst [.bl a, .bl b]) (.lst [.bl c, .bl d]) = some (a == c && b == d) := by
    cases a <;> cases b <;> cases c <;> cases d <;> simp [dEqB, toPyS, toPy, toPys, PyData.depth, PyData.depthAll, PyData.eqv, PyData.eqvAll]
  simp only [dEq, this, Option.map_some, ofO_some]
noncomputable abbrev lawTail : Sx := sSeq u_law_9 (sSeq u_law_10 (sSeq u_law_11 (sSeq u_law_12 (sSeq u_law_13 (sSeq u_law_14 u_law_15)))))
theorem ev_tail {a0 a1 a2 x3 x6 : Option Dt} {j : Nat} {ps qs : List (List Nat)} {s : Sto} (hj : s[j]? = some (.lst (lvs qs))) (hp : ∀ p ∈ ps, p.length ≤ 100) (hpl : ps.length ≤ 1000) (hq : ∀ p ∈ qs, p.length ≤ 100) (hql : qs.length ≤ 1000) :
    RT (fun d _ => d = .bl true) (lawTail [a0, a1, a2, x3, some (.lst (lvs ps)), some (.obj j), x6, none, none, none, none] s) := by
  have h7 := dJoin_lst (s := s) (d := .lst (lvs ps)) (ps := ps) rfl (sum_small hp hpl)
  have h8 := dJoin_lst (s := s) (asQ_obj hj) (sum_small hq hql)
  generalize TL.joinL [47] ps = w at h7
  generalize TL.joinL [47] qs = o at h8
  have e9 : u_law_9 [a0, a1, a2, x3, some (.lst (lvs ps)), some (.obj j), x6, none, none, none, none] s = .fl (.nx [a0, a1, a2, some (.str (mkS w)), some (.lst (lvs ps)), some (.obj j), some (.str (mkS o)), none, none, none, none]) s := by
    unfold u_law_9
    simp only [fnOf, ev_seq, ev_asg, sBnd_def, ev_op, ev_un, bnd_def, ev_call, evs_cons, evs_nil, ev_var, ev_c, ev_if, ev_next, ev_expr, ev_tru, ev_bl, ev_and, ev_or, ev_not, ev_yes, ev_andE, ev_orE, ev_notE, ev_ifE, ev_chain, ofB_some, ofO_some, ofO_none, truD_non, truD_bl, truD_int, truD_str, truD_tup, truD_lst, truD_lsk, ev_tup, ev_lst, ev_nwF, ev_nwM, ev_meth, ev_make, ev_fld, ev_setF, ev_bm1, asQ_tup, asQ_lst, asQ_lsk, asL_lst, asL_lsk, dLen_tup, dLen_lst, dLen_lsk, dLen_str, dIx_tup, dIx_lst, dIx_lsk, dIx_str, dAdd_int, dNeg_int, isN_def, notN_def, isNon_non, isNon_int, isNon_bl, isNon_str, isNon_tup, isNon_lst, isNon_obj, isNon_exc, dEq_int, dNe_int, dEq_str, dNe_str, dEq_bl, atI_zero, atI_one, atI_2, atI_3, atI_4, atI_5, atI_6, atI_7, atI_8, atI_9, atI_10, atI_11, atI_12, atI_m1, ev_gT, setAll_nil, setAll_cons, iOp_int, ev_gN, ev_ret, List.map_cons, List.map_nil, List.length_cons, List.length_nil, rep_zero, rep_succ, List.cons_append, List.nil_append, List.getElem?_cons_zero, List.getElem?_cons_succ, List.set_cons_zero, List.set_cons_succ, Nat.sub_self, Nat.reduceAdd, Nat.reduceSub, Option.map_some, Option.bind_some, if_true, Bool.not_true, Bool.not_false, Bool.false_eq_true, if_false, decide_true, decide_false, Int.reduceBEq, Int.reduceEq, Int.reduceLT, Int.reduceLE, Int.reduceNeg, Int.reduceAdd, Int.reduceSub, Int.reduceMul, Int.reduceToNat, Nat.reduceLT, Nat.reduceLeDiff, beq_self_eq_true, reduceIte, eq_self, Int.reduceNe, Int.reduceBNe, not_true_eq_false, not_false_eq_true, true_and, and_true, true_or, or_true, false_or, or_false, and_false, false_and, decide_eq_true_eq, Bool.true_and, Bool.and_true, Bool.false_and, Bool.and_false, Bool.true_or, Bool.or_true, Bool.false_or, Bool.or_false, t_slash, isStr_str, h7, h8]
  refine seq_eq e9 ?_
  obtain ⟨m1, i1⟩ := ev_law_is_wish w s
  by_cases hg : isWish w = true ∧ isWish o = true
  · obtain ⟨hw, ho⟩ := hg
    obtain ⟨m2, i2⟩ := ev_law_is_wish o (s ++ [m1])
    rw [hw] at i1
    rw [ho] at i2
    have e10 : u_law_10 [a0, a1, a2, some (.str (mkS w)), some (.lst (lvs ps)), some (.obj j), some (.str (mkS o)), none, none, none, none] s = .fl (.nx [a0, a1, a2, some (.str (mkS w)), some (.lst (lvs ps)), some (.obj j), some (.str (mkS o)), none, none, none, none]) (s ++ [m1] ++ [m2]) := by
      unfold u_law_10
      simp only [fnOf, ev_seq, ev_asg, sBnd_def, ev_op, ev_un, bnd_def, ev_call, evs_cons, evs_nil, ev_var, ev_c, ev_if, ev_next, ev_expr, ev_tru, ev_bl, ev_and, ev_or, ev_not, ev_yes, ev_andE, ev_orE, ev_notE, ev_ifE, ev_chain, ofB_some, ofO_some, ofO_none, truD_non, truD_bl, truD_int, truD_str, truD_tup, truD_lst, truD_lsk, ev_tup, ev_lst, ev_nwF, ev_nwM, ev_meth, ev_make, ev_fld, ev_setF, ev_bm1, asQ_tup, asQ_lst, asQ_lsk, asL_lst, asL_lsk, dLen_tup, dLen_lst, dLen_lsk, dLen_str, dIx_tup, dIx_lst, dIx_lsk, dIx_str, dAdd_int, dNeg_int, isN_def, notN_def, isNon_non, isNon_int, isNon_bl, isNon_str, isNon_tup, isNon_lst, isNon_obj, isNon_exc, dEq_int, dNe_int, dEq_str, dNe_str, dEq_bl, atI_zero, atI_one, atI_2, atI_3, atI_4, atI_5, atI_6, atI_7, atI_8, atI_9, atI_10, atI_11, atI_12, atI_m1, ev_gT, setAll_nil, setAll_cons, iOp_int, ev_gN, ev_ret, List.map_cons, List.map_nil, List.length_cons, List.length_nil, rep_zero, rep_succ, List.cons_append, List.nil_append, List.getElem?_cons_zero, List.getElem?_cons_succ, List.set_cons_zero, List.set_cons_succ, Nat.sub_self, Nat.reduceAdd, Nat.reduceSub, Option.map_some, Option.bind_some, if_true, Bool.not_true, Bool.not_false, Bool.false_eq_true, if_false, decide_true, decide_false, Int.reduceBEq, Int.reduceEq, Int.reduceLT, Int.reduceLE, Int.reduceNeg, Int.reduceAdd, Int.reduceSub, Int.reduceMul, Int.reduceToNat, Nat.reduceLT, Nat.reduceLeDiff, beq_self_eq_true, reduceIte, eq_self, Int.reduceNe, Int.reduceBNe, not_true_eq_false, not_false_eq_true, true_and, and_true, true_or, or_true, false_or, or_false, and_false, false_and, decide_eq_true_eq, Bool.true_and, Bool.and_true, Bool.false_and, Bool.and_false, Bool.true_or, Bool.or_true, Bool.false_or, Bool.or_false, i1, i2]
    refine seq_eq e10 ?_
    generalize s ++ [m1] ++ [m2] = s2
    have t1 := told1 w o s2
    rw [if_pos ⟨hw, ho⟩] at t1
    have e11 : u_law_11 [a0, a1, a2, some (.str (mkS w)), some (.lst (lvs ps)), some (.obj j), some (.str (mkS o)), none, none, none, none] s2 = .fl (.nx [a0, a1, a2, some (.str (mkS w)), some (.lst (lvs ps)), some (.obj j), some (.str (mkS o)), some (optS (meetC w o)), none, none, none]) s2 := by
      unfold u_law_11
      simp only [fnOf, ev_seq, ev_asg, sBnd_def, ev_op, ev_un, bnd_def, ev_call, evs_cons, evs_nil, ev_var, ev_c, ev_if, ev_next, ev_expr, ev_tru, ev_bl, ev_and, ev_or, ev_not, ev_yes, ev_andE, ev_orE, ev_notE, ev_ifE, ev_chain, ofB_some, ofO_some, ofO_none, truD_non, truD_bl, truD_int, truD_str, truD_tup, truD_lst, truD_lsk, ev_tup, ev_lst, ev_nwF, ev_nwM, ev_meth, ev_make, ev_fld, ev_setF, ev_bm1, asQ_tup, asQ_lst, asQ_lsk, asL_lst, asL_lsk, dLen_tup, dLen_lst, dLen_lsk, dLen_str, dIx_tup, dIx_lst, dIx_lsk, dIx_str, dAdd_int, dNeg_int, isN_def, notN_def, isNon_non, isNon_int, isNon_bl, isNon_str, isNon_tup, isNon_lst, isNon_obj, isNon_exc, dEq_int, dNe_int, dEq_str, dNe_str, dEq_bl, atI_zero, atI_one, atI_2, atI_3, atI_4, atI_5, atI_6, atI_7, atI_8, atI_9, atI_10, atI_11, atI_12, atI_m1, ev_gT, setAll_nil, setAll_cons, iOp_int, ev_gN, ev_ret, List.map_cons, List.map_nil, List.length_cons, List.length_nil, rep_zero, rep_succ, List.cons_append, List.nil_append, List.getElem?_cons_zero, List.getElem?_cons_succ, List.set_cons_zero, List.set_cons_succ, Nat.sub_self, Nat.reduceAdd, Nat.reduceSub, Option.map_some, Option.bind_some, if_true, Bool.not_true, Bool.not_false, Bool.false_eq_true, if_false, decide_true, decide_false, Int.reduceBEq, Int.reduceEq, Int.reduceLT, Int.reduceLE, Int.reduceNeg, Int.reduceAdd, Int.reduceSub, Int.reduceMul, Int.reduceToNat, Nat.reduceLT, Nat.reduceLeDiff, beq_self_eq_true, reduceIte, eq_self, Int.reduceNe, Int.reduceBNe, not_true_eq_false, not_false_eq_true, true_and, and_true, true_or, or_true, false_or, or_false, and_false, false_and, decide_eq_true_eq, Bool.true_and, Bool.and_true, Bool.false_and, Bool.and_false, Bool.true_or, Bool.or_true, Bool.false_or, Bool.or_false, t1]
    refine seq_eq e11 ?_
    have tww := told0 w w s2
    rw [if_pos ⟨hw, hw⟩, covers_self] at tww
    have too := told0 o o s2
    rw [if_pos ⟨ho, ho⟩, covers_self] at too
    have inb : dIsNotB (.bl true) (.bl true) s2 = .ok (.bl false) s2 := rfl
    have e12 : u_law_12 [a0, a1, a2, some (.str (mkS w)), some (.lst (lvs ps)), some (.obj j), some (.str (mkS o)), some (optS (meetC w o)), none, none, none] s2 = .fl (.nx [a0, a1, a2, some (.str (mkS w)), some (.lst (lvs ps)), some (.obj j), some (.str (mkS o)), some (optS (meetC w o)), none, none, none]) s2 := by
      unfold u_law_12
      simp only [fnOf, ev_seq, ev_asg, sBnd_def, ev_op, ev_un, bnd_def, ev_call, evs_cons, evs_nil, ev_var, ev_c, ev_if, ev_next, ev_expr, ev_tru, ev_bl, ev_and, ev_or, ev_not, ev_yes, ev_andE, ev_orE, ev_notE, ev_ifE, ev_chain, ofB_some, ofO_some, ofO_none, truD_non, truD_bl, truD_int, truD_str, truD_tup, truD_lst, truD_lsk, ev_tup, ev_lst, ev_nwF, ev_nwM, ev_meth, ev_make, ev_fld, ev_setF, ev_bm1, asQ_tup, asQ_lst, asQ_lsk, asL_lst, asL_lsk, dLen_tup, dLen_lst, dLen_lsk, dLen_str, dIx_tup, dIx_lst, dIx_lsk, dIx_str, dAdd_int, dNeg_int, isN_def, notN_def, isNon_non, isNon_int, isNon_bl, isNon_str, isNon_tup, isNon_lst, isNon_obj, isNon_exc, dEq_int, dNe_int, dEq_str, dNe_str, dEq_bl, atI_zero, atI_one, atI_2, atI_3, atI_4, atI_5, atI_6, atI_7, atI_8, atI_9, atI_10, atI_11, atI_12, atI_m1, ev_gT, setAll_nil, setAll_cons, iOp_int, ev_gN, ev_ret, List.map_cons, List.map_nil, List.length_cons, List.length_nil, rep_zero, rep_succ, List.cons_append, List.nil_append, List.getElem?_cons_zero, List.getElem?_cons_succ, List.set_cons_zero, List.set_cons_succ, Nat.sub_self, Nat.reduceAdd, Nat.reduceSub, Option.map_some, Option.bind_some, if_true, Bool.not_true, Bool.not_false, Bool.false_eq_true, if_false, decide_true, decide_false, Int.reduceBEq, Int.reduceEq, Int.reduceLT, Int.reduceLE, Int.reduceNeg, Int.reduceAdd, Int.reduceSub, Int.reduceMul, Int.reduceToNat, Nat.reduceLT, Nat.reduceLeDiff, beq_self_eq_true, reduceIte, eq_self, Int.reduceNe, Int.reduceBNe, not_true_eq_false, not_false_eq_true, true_and, and_true, true_or, or_true, false_or, or_false, and_false, false_and, decide_eq_true_eq, Bool.true_and, Bool.and_true, Bool.false_and, Bool.and_false, Bool.true_or, Bool.or_true, Bool.false_or, Bool.or_false, tww, too, inb]
    refine seq_eq e12 ?_
    have e13 : u_law_13 [a0, a1, a2, some (.str (mkS w)), some (.lst (lvs ps)), some (.obj j), some (.str (mkS o)), some (optS (meetC w o)), none, none, none] s2 = .fl (.nx [a0, a1, a2, some (.str (mkS w)), some (.lst (lvs ps)), some (.obj j), some (.str (mkS o)), some (optS (meetC w o)), none, none, none]) s2 := by
      unfold u_law_13
      cases hme : meetC w o with
      | none => simp only [fnOf, ev_seq, ev_asg, sBnd_def, ev_op, ev_un, bnd_def, ev_call, evs_cons, evs_nil, ev_var, ev_c, ev_if, ev_next, ev_expr, ev_tru, ev_bl, ev_and, ev_or, ev_not, ev_yes, ev_andE, ev_orE, ev_notE, ev_ifE, ev_chain, ofB_some, ofO_some, ofO_none, truD_non, truD_bl, truD_int, truD_str, truD_tup, truD_lst, truD_lsk, ev_tup, ev_lst, ev_nwF, ev_nwM, ev_meth, ev_make, ev_fld, ev_setF, ev_bm1, asQ_tup, asQ_lst, asQ_lsk, asL_lst, asL_lsk, dLen_tup, dLen_lst, dLen_lsk, dLen_str, dIx_tup, dIx_lst, dIx_lsk, dIx_str, dAdd_int, dNeg_int, isN_def, notN_def, isNon_non, isNon_int, isNon_bl, isNon_str, isNon_tup, isNon_lst, isNon_obj, isNon_exc, dEq_int, dNe_int, dEq_str, dNe_str, dEq_bl, atI_zero, atI_one, atI_2, atI_3, atI_4, atI_5, atI_6, atI_7, atI_8, atI_9, atI_10, atI_11, atI_12, atI_m1, ev_gT, setAll_nil, setAll_cons, iOp_int, ev_gN, ev_ret, List.map_cons, List.map_nil, List.length_cons, List.length_nil, rep_zero, rep_succ, List.cons_append, List.nil_append, List.getElem?_cons_zero, List.getElem?_cons_succ, List.set_cons_zero, List.set_cons_succ, Nat.sub_self, Nat.reduceAdd, Nat.reduceSub, Option.map_some, Option.bind_some, if_true, Bool.not_true, Bool.not_false, Bool.false_eq_true, if_false, decide_true, decide_false, Int.reduceBEq, Int.reduceEq, Int.reduceLT, Int.reduceLE, Int.reduceNeg, Int.reduceAdd, Int.reduceSub, Int.reduceMul, Int.reduceToNat, Nat.reduceLT, Nat.reduceLeDiff, beq_self_eq_true, reduceIte, eq_self, Int.reduceNe, Int.reduceBNe, not_true_eq_false, not_false_eq_true, true_and, and_true, true_or, or_true, false_or, or_false, and_false, false_and, decide_eq_true_eq, Bool.true_and, Bool.and_true, Bool.false_and, Bool.and_false, Bool.true_or, Bool.or_true, Bool.false_or, Bool.or_false, optS]
      | some m =>
        obtain ⟨g1, g2, g3⟩ := meet_fits hw ho hme
        have f1 := ev_law_is_name m s2
        rw [g1] at f1
        have f2 := ev_law_fits (l := m) hw s2
        rw [g2] at f2
        have f3 := ev_law_fits (l := m) ho s2
        rw [g3] at f3
        simp only [fnOf, ev_seq, ev_asg, sBnd_def, ev_op, ev_un, bnd_def, ev_call, evs_cons, evs_nil, ev_var, ev_c, ev_if, ev_next, ev_expr, ev_tru, ev_bl, ev_and, ev_or, ev_not, ev_yes, ev_andE, ev_orE, ev_notE, ev_ifE, ev_chain, ofB_some, ofO_some, ofO_none, truD_non, truD_bl, truD_int, truD_str, truD_tup, truD_lst, truD_lsk, ev_tup, ev_lst, ev_nwF, ev_nwM, ev_meth, ev_make, ev_fld, ev_setF, ev_bm1, asQ_tup, asQ_lst, asQ_lsk, asL_lst, asL_lsk, dLen_tup, dLen_lst, dLen_lsk, dLen_str, dIx_tup, dIx_lst, dIx_lsk, dIx_str, dAdd_int, dNeg_int, isN_def, notN_def, isNon_non, isNon_int, isNon_bl, isNon_str, isNon_tup, isNon_lst, isNon_obj, isNon_exc, dEq_int, dNe_int, dEq_str, dNe_str, dEq_bl, atI_zero, atI_one, atI_2, atI_3, atI_4, atI_5, atI_6, atI_7, atI_8, atI_9, atI_10, atI_11, atI_12, atI_m1, ev_gT, setAll_nil, setAll_cons, iOp_int, ev_gN, ev_ret, List.map_cons, List.map_nil, List.length_cons, List.length_nil, rep_zero, rep_succ, List.cons_append, List.nil_append, List.getElem?_cons_zero, List.getElem?_cons_succ, List.set_cons_zero, List.set_cons_succ, Nat.sub_self, Nat.reduceAdd, Nat.reduceSub, Option.map_some, Option.bind_some, if_true, Bool.not_true, Bool.not_false, Bool.false_eq_true, if_false, decide_true, decide_false, Int.reduceBEq, Int.reduceEq, Int.reduceLT, Int.reduceLE, Int.reduceNeg, Int.reduceAdd, Int.reduceSub, Int.reduceMul, Int.reduceToNat, Nat.reduceLT, Nat.reduceLeDiff, beq_self_eq_true, reduceIte, eq_self, Int.reduceNe, Int.reduceBNe, not_true_eq_false, not_false_eq_true, true_and, and_true, true_or, or_true, false_or, or_false, and_false, false_and, decide_eq_true_eq, Bool.true_and, Bool.and_true, Bool.false_and, Bool.and_false, Bool.true_or, Bool.or_true, Bool.false_or, Bool.or_false, optS, f1, f2, f3]
    refine seq_eq e13 ?_
    have two := told0 w o s2
    rw [if_pos ⟨hw, ho⟩] at two
    have tow := told0 o w s2
    rw [if_pos ⟨ho, hw⟩] at tow
    refine ⟨.bl true, s2, ?_, rfl⟩
    cases hme : meetC w o with
    | none =>
      have c1 : coversC w o = false := by
        cases h : coversC w o with
        | false => rfl
        | true => exact absurd hme (covers_meet hw ho h)
      have c2 : coversC o w = false := by
        cases h : coversC o w with
        | false => rfl
        | true =>
          have := covers_meet ho hw h
          rw [meet_symm ho hw] at this
          exact absurd hme this
      rw [c1] at two
      rw [c2] at tow
      unfold u_law_14 u_law_15
      simp only [fnOf, ev_seq, ev_asg, sBnd_def, ev_op, ev_un, bnd_def, ev_call, evs_cons, evs_nil, ev_var, ev_c, ev_if, ev_next, ev_expr, ev_tru, ev_bl, ev_and, ev_or, ev_not, ev_yes, ev_andE, ev_orE, ev_notE, ev_ifE, ev_chain, ofB_some, ofO_some, ofO_none, truD_non, truD_bl, truD_int, truD_str, truD_tup, truD_lst, truD_lsk, ev_tup, ev_lst, ev_nwF, ev_nwM, ev_meth, ev_make, ev_fld, ev_setF, ev_bm1, asQ_tup, asQ_lst, asQ_lsk, asL_lst, asL_lsk, dLen_tup, dLen_lst, dLen_lsk, dLen_str, dIx_tup, dIx_lst, dIx_lsk, dIx_str, dAdd_int, dNeg_int, isN_def, notN_def, isNon_non, isNon_int, isNon_bl, isNon_str, isNon_tup, isNon_lst, isNon_obj, isNon_exc, dEq_int, dNe_int, dEq_str, dNe_str, dEq_bl, atI_zero, atI_one, atI_2, atI_3, atI_4, atI_5, atI_6, atI_7, atI_8, atI_9, atI_10, atI_11, atI_12, atI_m1, ev_gT, setAll_nil, setAll_cons, iOp_int, ev_gN, ev_ret, List.map_cons, List.map_nil, List.length_cons, List.length_nil, rep_zero, rep_succ, List.cons_append, List.nil_append, List.getElem?_cons_zero, List.getElem?_cons_succ, List.set_cons_zero, List.set_cons_succ, Nat.sub_self, Nat.reduceAdd, Nat.reduceSub, Option.map_some, Option.bind_some, if_true, Bool.not_true, Bool.not_false, Bool.false_eq_true, if_false, decide_true, decide_false, Int.reduceBEq, Int.reduceEq, Int.reduceLT, Int.reduceLE, Int.reduceNeg, Int.reduceAdd, Int.reduceSub, Int.reduceMul, Int.reduceToNat, Nat.reduceLT, Nat.reduceLeDiff, beq_self_eq_true, reduceIte, eq_self, Int.reduceNe, Int.reduceBNe, not_true_eq_false, not_false_eq_true, true_and, and_true, true_or, or_true, false_or, or_false, and_false, false_and, decide_eq_true_eq, Bool.true_and, Bool.and_true, Bool.false_and, Bool.and_false, Bool.true_or, Bool.or_true, Bool.false_or, Bool.or_false, two, tow, optS, dEq_bb]
    | some m =>
      unfold u_law_14 u_law_15
      simp only [fnOf, ev_seq, ev_asg, sBnd_def, ev_op, ev_un, bnd_def, ev_call, evs_cons, evs_nil, ev_var, ev_c, ev_if, ev_next, ev_expr, ev_tru, ev_bl, ev_and, ev_or, ev_not, ev_yes, ev_andE, ev_orE, ev_notE, ev_ifE, ev_chain, ofB_some, ofO_some, ofO_none, truD_non, truD_bl, truD_int, truD_str, truD_tup, truD_lst, truD_lsk, ev_tup, ev_lst, ev_nwF, ev_nwM, ev_meth, ev_make, ev_fld, ev_setF, ev_bm1, asQ_tup, asQ_lst, asQ_lsk, asL_lst, asL_lsk, dLen_tup, dLen_lst, dLen_lsk, dLen_str, dIx_tup, dIx_lst, dIx_lsk, dIx_str, dAdd_int, dNeg_int, isN_def, notN_def, isNon_non, isNon_int, isNon_bl, isNon_str, isNon_tup, isNon_lst, isNon_obj, isNon_exc, dEq_int, dNe_int, dEq_str, dNe_str, dEq_bl, atI_zero, atI_one, atI_2, atI_3, atI_4, atI_5, atI_6, atI_7, atI_8, atI_9, atI_10, atI_11, atI_12, atI_m1, ev_gT, setAll_nil, setAll_cons, iOp_int, ev_gN, ev_ret, List.map_cons, List.map_nil, List.length_cons, List.length_nil, rep_zero, rep_succ, List.cons_append, List.nil_append, List.getElem?_cons_zero, List.getElem?_cons_succ, List.set_cons_zero, List.set_cons_succ, Nat.sub_self, Nat.reduceAdd, Nat.reduceSub, Option.map_some, Option.bind_some, if_true, Bool.not_true, Bool.not_false, Bool.false_eq_true, if_false, decide_true, decide_false, Int.reduceBEq, Int.reduceEq, Int.reduceLT, Int.reduceLE, Int.reduceNeg, Int.reduceAdd, Int.reduceSub, Int.reduceMul, Int.reduceToNat, Nat.reduceLT, Nat.reduceLeDiff, beq_self_eq_true, reduceIte, eq_self, Int.reduceNe, Int.reduceBNe, not_true_eq_false, not_false_eq_true, true_and, and_true, true_or, or_true, false_or, or_false, and_false, false_and, decide_eq_true_eq, Bool.true_and, Bool.and_true, Bool.false_and, Bool.and_false, Bool.true_or, Bool.or_true, Bool.false_or, Bool.or_false, two, tow, optS]
  · -- one of them is no wish
    have t0 : ∀ s', m_law_told [.int 0, .str (mkS w), .str (mkS o)] s' = .ok refd s' := fun s' => by rw [told0, if_neg hg]
    have t1 : ∀ s', m_law_told [.int 1, .str (mkS w), .str (mkS o)] s' = .ok refd s' := fun s' => by rw [told1, if_neg hg]
    have lc : ∀ s', lcGo (gN 10) Pd.tYes (eCall m_law_told [eVar 10, eVar 3, eVar 6]) (fun _ => True) ([0, 1].map fun (k : Nat) => .int (k : Int)) [a0, a1, a2, some (.str (mkS w)), some (.lst (lvs ps)), some (.obj j), some (.str (mkS o)), none, none, none, none] s' = .ok ([0, 1].map fun (k : Nat) => refd) s' := fun s' => by
      refine lc_map ?_ fun k hk => ⟨[a0, a1, a2, some (.str (mkS w)), some (.lst (lvs ps)), some (.obj j), some (.str (mkS o)), none, none, none, some (.int (k : Int))], rfl, rfl, ?_⟩
      · trivial
      · simp only [List.mem_cons, List.not_mem_nil, or_false] at hk
        rcases hk with hk | hk
        · subst hk; simp only [fnOf, ev_seq, ev_asg, sBnd_def, ev_op, ev_un, bnd_def, ev_call, evs_cons, evs_nil, ev_var, ev_c, ev_if, ev_next, ev_expr, ev_tru, ev_bl, ev_and, ev_or, ev_not, ev_yes, ev_andE, ev_orE, ev_notE, ev_ifE, ev_chain, ofB_some, ofO_some, ofO_none, truD_non, truD_bl, truD_int, truD_str, truD_tup, truD_lst, truD_lsk, ev_tup, ev_lst, ev_nwF, ev_nwM, ev_meth, ev_make, ev_fld, ev_setF, ev_bm1, asQ_tup, asQ_lst, asQ_lsk, asL_lst, asL_lsk, dLen_tup, dLen_lst, dLen_lsk, dLen_str, dIx_tup, dIx_lst, dIx_lsk, dIx_str, dAdd_int, dNeg_int, isN_def, notN_def, isNon_non, isNon_int, isNon_bl, isNon_str, isNon_tup, isNon_lst, isNon_obj, isNon_exc, dEq_int, dNe_int, dEq_str, dNe_str, dEq_bl, atI_zero, atI_one, atI_2, atI_3, atI_4, atI_5, atI_6, atI_7, atI_8, atI_9, atI_10, atI_11, atI_12, atI_m1, ev_gT, setAll_nil, setAll_cons, iOp_int, ev_gN, ev_ret, List.map_cons, List.map_nil, List.length_cons, List.length_nil, rep_zero, rep_succ, List.cons_append, List.nil_append, List.getElem?_cons_zero, List.getElem?_cons_succ, List.set_cons_zero, List.set_cons_succ, Nat.sub_self, Nat.reduceAdd, Nat.reduceSub, Option.map_some, Option.bind_some, if_true, Bool.not_true, Bool.not_false, Bool.false_eq_true, if_false, decide_true, decide_false, Int.reduceBEq, Int.reduceEq, Int.reduceLT, Int.reduceLE, Int.reduceNeg, Int.reduceAdd, Int.reduceSub, Int.reduceMul, Int.reduceToNat, Nat.reduceLT, Nat.reduceLeDiff, beq_self_eq_true, reduceIte, eq_self, Int.reduceNe, Int.reduceBNe, not_true_eq_false, not_false_eq_true, true_and, and_true, true_or, or_true, false_or, or_false, and_false, false_and, decide_eq_true_eq, Bool.true_and, Bool.and_true, Bool.false_and, Bool.and_false, Bool.true_or, Bool.or_true, Bool.false_or, Bool.or_false, t0, Int.natCast_zero, Int.ofNat_zero]
        · subst hk; simp only [fnOf, ev_seq, ev_asg, sBnd_def, ev_op, ev_un, bnd_def, ev_call, evs_cons, evs_nil, ev_var, ev_c, ev_if, ev_next, ev_expr, ev_tru, ev_bl, ev_and, ev_or, ev_not, ev_yes, ev_andE, ev_orE, ev_notE, ev_ifE, ev_chain, ofB_some, ofO_some, ofO_none, truD_non, truD_bl, truD_int, truD_str, truD_tup, truD_lst, truD_lsk, ev_tup, ev_lst, ev_nwF, ev_nwM, ev_meth, ev_make, ev_fld, ev_setF, ev_bm1, asQ_tup, asQ_lst, asQ_lsk, asL_lst, asL_lsk, dLen_tup, dLen_lst, dLen_lsk, dLen_str, dIx_tup, dIx_lst, dIx_lsk, dIx_str, dAdd_int, dNeg_int, isN_def, notN_def, isNon_non, isNon_int, isNon_bl, isNon_str, isNon_tup, isNon_lst, isNon_obj, isNon_exc, dEq_int, dNe_int, dEq_str, dNe_str, dEq_bl, atI_zero, atI_one, atI_2, atI_3, atI_4, atI_5, atI_6, atI_7, atI_8, atI_9, atI_10, atI_11, atI_12, atI_m1, ev_gT, setAll_nil, setAll_cons, iOp_int, ev_gN, ev_ret, List.map_cons, List.map_nil, List.length_cons, List.length_nil, rep_zero, rep_succ, List.cons_append, List.nil_append, List.getElem?_cons_zero, List.getElem?_cons_succ, List.set_cons_zero, List.set_cons_succ, Nat.sub_self, Nat.reduceAdd, Nat.reduceSub, Option.map_some, Option.bind_some, if_true, Bool.not_true, Bool.not_false, Bool.false_eq_true, if_false, decide_true, decide_false, Int.reduceBEq, Int.reduceEq, Int.reduceLT, Int.reduceLE, Int.reduceNeg, Int.reduceAdd, Int.reduceSub, Int.reduceMul, Int.reduceToNat, Nat.reduceLT, Nat.reduceLeDiff, beq_self_eq_true, reduceIte, eq_self, Int.reduceNe, Int.reduceBNe, not_true_eq_false, not_false_eq_true, true_and, and_true, true_or, or_true, false_or, or_false, and_false, false_and, decide_eq_true_eq, Bool.true_and, Bool.and_true, Bool.false_and, Bool.and_false, Bool.true_or, Bool.or_true, Bool.false_or, Bool.or_false, t1, Int.natCast_one]
    have hr : (2 : Int) ≤ 16777216 ∧ -(2 ^ 62) ≤ (2 : Int) := by decide
    have rng : (List.range (2 : Int).toNat).map (fun (k : Nat) => Dt.int (k : Int)) = [0, 1].map fun (k : Nat) => Dt.int (k : Int) := rfl
    have rp : ∀ s', dRep nwF (.lst [refd]) (.int 2) s' = .ok (.lst [refd, refd]) s' := fun s' => by
      simp only [dRep, trkL]
      rw [if_pos (by rw [sizeLine_eq]; decide)]
      rfl
    have de : ∀ s', dEq (.lst [refd, refd]) (.lst [refd, refd]) s' = .ok (.bl true) s' := fun s' => (dEq_self (n := 2) rfl (by decide)).1
    have fin : ∀ s', (sRet (eOp dEq (eLc nwF [10] (iRange (eC (.int 2))) (gN 10) (Pd.tYes) (eCall m_law_told [eVar 10, eVar 3, eVar 6])) (eOp (dRep nwF) (eLst nwF [eTup [eC (.str (Str.ofString "refused")), eC (.str (Str.ofString "name"))]]) (eC (.int 2))))) [a0, a1, a2, some (.str (mkS w)), some (.lst (lvs ps)), some (.obj j), some (.str (mkS o)), none, none, none, none] s' = .fl (.rt (.bl true)) s' := fun s' => by
      have l := lc s'
      have r := rp s'
      have d := de s'
      simp only [List.map_cons, List.map_nil] at l rng
      simp only [fnOf, ev_seq, ev_asg, sBnd_def, ev_op, ev_un, bnd_def, ev_call, evs_cons, evs_nil, ev_var, ev_c, ev_if, ev_next, ev_expr, ev_tru, ev_bl, ev_and, ev_or, ev_not, ev_yes, ev_andE, ev_orE, ev_notE, ev_ifE, ev_chain, ofB_some, ofO_some, ofO_none, truD_non, truD_bl, truD_int, truD_str, truD_tup, truD_lst, truD_lsk, ev_tup, ev_lst, ev_nwF, ev_nwM, ev_meth, ev_make, ev_fld, ev_setF, ev_bm1, asQ_tup, asQ_lst, asQ_lsk, asL_lst, asL_lsk, dLen_tup, dLen_lst, dLen_lsk, dLen_str, dIx_tup, dIx_lst, dIx_lsk, dIx_str, dAdd_int, dNeg_int, isN_def, notN_def, isNon_non, isNon_int, isNon_bl, isNon_str, isNon_tup, isNon_lst, isNon_obj, isNon_exc, dEq_int, dNe_int, dEq_str, dNe_str, dEq_bl, atI_zero, atI_one, atI_2, atI_3, atI_4, atI_5, atI_6, atI_7, atI_8, atI_9, atI_10, atI_11, atI_12, atI_m1, ev_gT, setAll_nil, setAll_cons, iOp_int, ev_gN, ev_ret, List.map_cons, List.map_nil, List.length_cons, List.length_nil, rep_zero, rep_succ, List.cons_append, List.nil_append, List.getElem?_cons_zero, List.getElem?_cons_succ, List.set_cons_zero, List.set_cons_succ, Nat.sub_self, Nat.reduceAdd, Nat.reduceSub, Option.map_some, Option.bind_some, if_true, Bool.not_true, Bool.not_false, Bool.false_eq_true, if_false, decide_true, ev_lc, ev_iRange, hr, and_self, rng, wipeD_nil, wipeD_cons, bndN, l, r, d]
    have fin' := fin
    simp only [ev_ret] at fin'
    cases hw : isWish w with
    | false =>
      rw [hw] at i1
      have e10 : u_law_10 [a0, a1, a2, some (.str (mkS w)), some (.lst (lvs ps)), some (.obj j), some (.str (mkS o)), none, none, none, none] s = .fl (.rt (.bl true)) (s ++ [m1]) := by
        unfold u_law_10
        rw [ev_if]
        have ht : (tOr (tNot (tTru (eCall m_law_is_wish [eVar 3]))) (tNot (tTru (eCall m_law_is_wish [eVar 6])))) [a0, a1, a2, some (.str (mkS w)), some (.lst (lvs ps)), some (.obj j), some (.str (mkS o)), none, none, none, none] s = .ok true (s ++ [m1]) := by simp only [fnOf, ev_seq, ev_asg, sBnd_def, ev_op, ev_un, bnd_def, ev_call, evs_cons, evs_nil, ev_var, ev_c, ev_if, ev_next, ev_expr, ev_tru, ev_bl, ev_and, ev_or, ev_not, ev_yes, ev_andE, ev_orE, ev_notE, ev_ifE, ev_chain, ofB_some, ofO_some, ofO_none, truD_non, truD_bl, truD_int, truD_str, truD_tup, truD_lst, truD_lsk, ev_tup, ev_lst, ev_nwF, ev_nwM, ev_meth, ev_make, ev_fld, ev_setF, ev_bm1, asQ_tup, asQ_lst, asQ_lsk, asL_lst, asL_lsk, dLen_tup, dLen_lst, dLen_lsk, dLen_str, dIx_tup, dIx_lst, dIx_lsk, dIx_str, dAdd_int, dNeg_int, isN_def, notN_def, isNon_non, isNon_int, isNon_bl, isNon_str, isNon_tup, isNon_lst, isNon_obj, isNon_exc, dEq_int, dNe_int, dEq_str, dNe_str, dEq_bl, atI_zero, atI_one, atI_2, atI_3, atI_4, atI_5, atI_6, atI_7, atI_8, atI_9, atI_10, atI_11, atI_12, atI_m1, ev_gT, setAll_nil, setAll_cons, iOp_int, ev_gN, ev_ret, List.map_cons, List.map_nil, List.length_cons, List.length_nil, rep_zero, rep_succ, List.cons_append, List.nil_append, List.getElem?_cons_zero, List.getElem?_cons_succ, List.set_cons_zero, List.set_cons_succ, Nat.sub_self, Nat.reduceAdd, Nat.reduceSub, Option.map_some, Option.bind_some, if_true, Bool.not_true, Bool.not_false, Bool.false_eq_true, if_false, decide_true, decide_false, Int.reduceBEq, Int.reduceEq, Int.reduceLT, Int.reduceLE, Int.reduceNeg, Int.reduceAdd, Int.reduceSub, Int.reduceMul, Int.reduceToNat, Nat.reduceLT, Nat.reduceLeDiff, beq_self_eq_true, reduceIte, eq_self, Int.reduceNe, Int.reduceBNe, not_true_eq_false, not_false_eq_true, true_and, and_true, true_or, or_true, false_or, or_false, and_false, false_and, decide_eq_true_eq, Bool.true_and, Bool.and_true, Bool.false_and, Bool.and_false, Bool.true_or, Bool.or_true, Bool.false_or, Bool.or_false, i1]
        rw [sBnd_def, ht]
        exact fin _
      exact ⟨.bl true, s ++ [m1], seq_rt1 e10, rfl⟩
    | true =>
      have ho : isWish o = false := by
        cases h : isWish o with
        | false => rfl
        | true => exact absurd ⟨hw, h⟩ hg
      obtain ⟨m2, i2⟩ := ev_law_is_wish o (s ++ [m1])
      rw [hw] at i1
      rw [ho] at i2
      have e10 : u_law_10 [a0, a1, a2, some (.str (mkS w)), some (.lst (lvs ps)), some (.obj j), some (.str (mkS o)), none, none, none, none] s = .fl (.rt (.bl true)) (s ++ [m1] ++ [m2]) := by
        unfold u_law_10
        rw [ev_if]
        have ht : (tOr (tNot (tTru (eCall m_law_is_wish [eVar 3]))) (tNot (tTru (eCall m_law_is_wish [eVar 6])))) [a0, a1, a2, some (.str (mkS w)), some (.lst (lvs ps)), some (.obj j), some (.str (mkS o)), none, none, none, none] s = .ok true (s ++ [m1] ++ [m2]) := by simp only [fnOf, ev_seq, ev_asg, sBnd_def, ev_op, ev_un, bnd_def, ev_call, evs_cons, evs_nil, ev_var, ev_c, ev_if, ev_next, ev_expr, ev_tru, ev_bl, ev_and, ev_or, ev_not, ev_yes, ev_andE, ev_orE, ev_notE, ev_ifE, ev_chain, ofB_some, ofO_some, ofO_none, truD_non, truD_bl, truD_int, truD_str, truD_tup, truD_lst, truD_lsk, ev_tup, ev_lst, ev_nwF, ev_nwM, ev_meth, ev_make, ev_fld, ev_setF, ev_bm1, asQ_tup, asQ_lst, asQ_lsk, asL_lst, asL_lsk, dLen_tup, dLen_lst, dLen_lsk, dLen_str, dIx_tup, dIx_lst, dIx_lsk, dIx_str, dAdd_int, dNeg_int, isN_def, notN_def, isNon_non, isNon_int, isNon_bl, isNon_str, isNon_tup, isNon_lst, isNon_obj, isNon_exc, dEq_int, dNe_int, dEq_str, dNe_str, dEq_bl, atI_zero, atI_one, atI_2, atI_3, atI_4, atI_5, atI_6, atI_7, atI_8, atI_9, atI_10, atI_11, atI_12, atI_m1, ev_gT, setAll_nil, setAll_cons, iOp_int, ev_gN, ev_ret, List.map_cons, List.map_nil, List.length_cons, List.length_nil, rep_zero, rep_succ, List.cons_append, List.nil_append, List.getElem?_cons_zero, List.getElem?_cons_succ, List.set_cons_zero, List.set_cons_succ, Nat.sub_self, Nat.reduceAdd, Nat.reduceSub, Option.map_some, Option.bind_some, if_true, Bool.not_true, Bool.not_false, Bool.false_eq_true, if_false, decide_true, decide_false, Int.reduceBEq, Int.reduceEq, Int.reduceLT, Int.reduceLE, Int.reduceNeg, Int.reduceAdd, Int.reduceSub, Int.reduceMul, Int.reduceToNat, Nat.reduceLT, Nat.reduceLeDiff, beq_self_eq_true, reduceIte, eq_self, Int.reduceNe, Int.reduceBNe, not_true_eq_false, not_false_eq_true, true_and, and_true, true_or, or_true, false_or, or_false, and_false, false_and, decide_eq_true_eq, Bool.true_and, Bool.and_true, Bool.false_and, Bool.and_false, Bool.true_or, Bool.or_true, Bool.false_or, Bool.or_false, i1, i2]
        rw [sBnd_def, ht]
        exact fin _
      exact ⟨.bl true, s ++ [m1] ++ [m2], seq_rt1 e10, rfl⟩
def Ost (ns : List Int) (a2 : Option Dt) (ps : List (List Nat)) (k : Nat) (e : En) (s' : Sto) : Prop := ∃ (j : Nat) (qs : List (List Nat)) (s1 : Sto) (n1 : Nat), e = [some (sc ns), some (.obj 0), a2, none, some (.lst (lvs ps)), some (.obj j), none, none, none, none, none] ∧ s' = tw s1 n1 ∧ s1[j]? = some (.lst (lvs qs)) ∧ j ≠ 0 ∧ 0 < s1.length ∧ qs ≠ [] ∧ qs.length ≤ 8 ∧ (∀ q ∈ qs, q.length ≤ 12) ∧ n1 ≤ 300 + 10 * k
theorem law_true (ns : List Int) (hns : ns.length ≤ 63) : ∃ s, m_law [.lsk (ns.map .int)] [] = .ok (.bl true) s := by
  have main : ∃ d s', m_law [.lsk (ns.map .int)] [] = .ok d s' ∧ d = .bl true := by
    refine fn_RT (P := fun d _ => d = .bl true) ?_
    unfold b_law
    have e1 : u_law_1 [some (sc ns), none, none, none, none, none, none, none, none, none, none] [] = .fl (.nx [some (sc ns), some (.obj 0), none, none, none, none, none, none, none, none, none]) (tw [.lst []] 0) := by
      unfold u_law_1
      simp only [fnOf, ev_seq, ev_asg, sBnd_def, ev_op, ev_un, bnd_def, ev_call, evs_cons, evs_nil, ev_var, ev_c, ev_if, ev_next, ev_expr, ev_tru, ev_bl, ev_and, ev_or, ev_not, ev_yes, ev_andE, ev_orE, ev_notE, ev_ifE, ev_chain, ofB_some, ofO_some, ofO_none, truD_non, truD_bl, truD_int, truD_str, truD_tup, truD_lst, truD_lsk, ev_tup, ev_lst, ev_nwF, ev_nwM, ev_meth, ev_make, ev_fld, ev_setF, ev_bm1, asQ_tup, asQ_lst, asQ_lsk, asL_lst, asL_lsk, dLen_tup, dLen_lst, dLen_lsk, dLen_str, dIx_tup, dIx_lst, dIx_lsk, dIx_str, dAdd_int, dNeg_int, isN_def, notN_def, isNon_non, isNon_int, isNon_bl, isNon_str, isNon_tup, isNon_lst, isNon_obj, isNon_exc, dEq_int, dNe_int, dEq_str, dNe_str, dEq_bl, atI_zero, atI_one, atI_2, atI_3, atI_4, atI_5, atI_6, atI_7, atI_8, atI_9, atI_10, atI_11, atI_12, atI_m1, ev_gT, setAll_nil, setAll_cons, iOp_int, ev_gN, ev_ret, List.map_cons, List.map_nil, List.length_cons, List.length_nil, rep_zero, rep_succ, List.cons_append, List.nil_append, List.getElem?_cons_zero, List.getElem?_cons_succ, List.set_cons_zero, List.set_cons_succ, Nat.sub_self, Nat.reduceAdd, Nat.reduceSub, Option.map_some, Option.bind_some, if_true, Bool.not_true, Bool.not_false, Bool.false_eq_true, if_false, decide_true, decide_false, Int.reduceBEq, Int.reduceEq, Int.reduceLT, Int.reduceLE, Int.reduceNeg, Int.reduceAdd, Int.reduceSub, Int.reduceMul, Int.reduceToNat, Nat.reduceLT, Nat.reduceLeDiff, beq_self_eq_true, reduceIte, eq_self, Int.reduceNe, Int.reduceBNe, not_true_eq_false, not_false_eq_true, true_and, and_true, true_or, or_true, false_or, or_false, and_false, false_and, decide_eq_true_eq, Bool.true_and, Bool.and_true, Bool.false_and, Bool.and_false, Bool.true_or, Bool.or_true, Bool.false_or, Bool.or_false]
      rfl
    refine seq_eq e1 ?_
    have hs0 : 0 < ([Mo.lst []] : Sto).length := by decide
    have k1 := told0 [43, 47, 35] [35] (tw [.lst []] 0)
    rw [if_pos (by decide), show coversC [43, 47, 35] [35] = true by decide] at k1
    have k2 := told0 [47, 43, 47, 35] [47, 35] (tw [.lst []] 0)
    rw [if_pos (by decide), show coversC [47, 43, 47, 35] [47, 35] = true by decide] at k2
    have k3 := told0 [47, 35] [43] (tw [.lst []] 0)
    rw [if_pos (by decide), show coversC [47, 35] [43] = false by decide] at k3
    have k4 := told0 [43, 47, 43] [35] (tw [.lst []] 0)
    rw [if_pos (by decide), show coversC [43, 47, 43] [35] = false by decide] at k4
    have k5 := told1 [47, 35] [43] (tw [.lst []] 0)
    rw [if_pos (by decide), show meetC [47, 35] [43] = none by decide] at k5
    have e2 : u_law_2 [some (sc ns), some (.obj 0), none, none, none, none, none, none, none, none, none] (tw [.lst []] 0) = .fl (.nx [some (sc ns), some (.obj 0), some (.lst [.bl true, .bl true, .bl false, .bl false]), none, none, none, none, none, none, none, none]) (tw [.lst []] 0) := by
      unfold u_law_2
      simp only [fnOf, ev_seq, ev_asg, sBnd_def, ev_op, ev_un, bnd_def, ev_call, evs_cons, evs_nil, ev_var, ev_c, ev_if, ev_next, ev_expr, ev_tru, ev_bl, ev_and, ev_or, ev_not, ev_yes, ev_andE, ev_orE, ev_notE, ev_ifE, ev_chain, ofB_some, ofO_some, ofO_none, truD_non, truD_bl, truD_int, truD_str, truD_tup, truD_lst, truD_lsk, ev_tup, ev_lst, ev_nwF, ev_nwM, ev_meth, ev_make, ev_fld, ev_setF, ev_bm1, asQ_tup, asQ_lst, asQ_lsk, asL_lst, asL_lsk, dLen_tup, dLen_lst, dLen_lsk, dLen_str, dIx_tup, dIx_lst, dIx_lsk, dIx_str, dAdd_int, dNeg_int, isN_def, notN_def, isNon_non, isNon_int, isNon_bl, isNon_str, isNon_tup, isNon_lst, isNon_obj, isNon_exc, dEq_int, dNe_int, dEq_str, dNe_str, dEq_bl, atI_zero, atI_one, atI_2, atI_3, atI_4, atI_5, atI_6, atI_7, atI_8, atI_9, atI_10, atI_11, atI_12, atI_m1, ev_gT, setAll_nil, setAll_cons, iOp_int, ev_gN, ev_ret, List.map_cons, List.map_nil, List.length_cons, List.length_nil, rep_zero, rep_succ, List.cons_append, List.nil_append, List.getElem?_cons_zero, List.getElem?_cons_succ, List.set_cons_zero, List.set_cons_succ, Nat.sub_self, Nat.reduceAdd, Nat.reduceSub, Option.map_some, Option.bind_some, if_true, Bool.not_true, Bool.not_false, Bool.false_eq_true, if_false, decide_true, decide_false, Int.reduceBEq, Int.reduceEq, Int.reduceLT, Int.reduceLE, Int.reduceNeg, Int.reduceAdd, Int.reduceSub, Int.reduceMul, Int.reduceToNat, Nat.reduceLT, Nat.reduceLeDiff, beq_self_eq_true, reduceIte, eq_self, Int.reduceNe, Int.reduceBNe, not_true_eq_false, not_false_eq_true, true_and, and_true, true_or, or_true, false_or, or_false, and_false, false_and, decide_eq_true_eq, Bool.true_and, Bool.and_true, Bool.false_and, Bool.and_false, Bool.true_or, Bool.or_true, Bool.false_or, Bool.or_false, t_ph, t_hash, t_sph, t_sh, t_plus, t_pp, k1, k2, k3, k4]
    refine seq_eq e2 ?_
    have dn : dNe (.lst [.bl true, .bl true, .bl false, .bl false]) (.lst [.bl true, .bl true, .bl false, .bl false]) (tw [.lst []] 0) = .ok (.bl false) (tw [.lst []] 0) := (dEq_self (n := 1) rfl (by decide)).2
    have e3 : u_law_3 [some (sc ns), some (.obj 0), some (.lst [.bl true, .bl true, .bl false, .bl false]), none, none, none, none, none, none, none, none] (tw [.lst []] 0) = .fl (.nx [some (sc ns), some (.obj 0), some (.lst [.bl true, .bl true, .bl false, .bl false]), none, none, none, none, none, none, none, none]) (tw [.lst []] 0) := by
      unfold u_law_3
      simp only [fnOf, ev_seq, ev_asg, sBnd_def, ev_op, ev_un, bnd_def, ev_call, evs_cons, evs_nil, ev_var, ev_c, ev_if, ev_next, ev_expr, ev_tru, ev_bl, ev_and, ev_or, ev_not, ev_yes, ev_andE, ev_orE, ev_notE, ev_ifE, ev_chain, ofB_some, ofO_some, ofO_none, truD_non, truD_bl, truD_int, truD_str, truD_tup, truD_lst, truD_lsk, ev_tup, ev_lst, ev_nwF, ev_nwM, ev_meth, ev_make, ev_fld, ev_setF, ev_bm1, asQ_tup, asQ_lst, asQ_lsk, asL_lst, asL_lsk, dLen_tup, dLen_lst, dLen_lsk, dLen_str, dIx_tup, dIx_lst, dIx_lsk, dIx_str, dAdd_int, dNeg_int, isN_def, notN_def, isNon_non, isNon_int, isNon_bl, isNon_str, isNon_tup, isNon_lst, isNon_obj, isNon_exc, dEq_int, dNe_int, dEq_str, dNe_str, dEq_bl, atI_zero, atI_one, atI_2, atI_3, atI_4, atI_5, atI_6, atI_7, atI_8, atI_9, atI_10, atI_11, atI_12, atI_m1, ev_gT, setAll_nil, setAll_cons, iOp_int, ev_gN, ev_ret, List.map_cons, List.map_nil, List.length_cons, List.length_nil, rep_zero, rep_succ, List.cons_append, List.nil_append, List.getElem?_cons_zero, List.getElem?_cons_succ, List.set_cons_zero, List.set_cons_succ, Nat.sub_self, Nat.reduceAdd, Nat.reduceSub, Option.map_some, Option.bind_some, if_true, Bool.not_true, Bool.not_false, Bool.false_eq_true, if_false, decide_true, decide_false, Int.reduceBEq, Int.reduceEq, Int.reduceLT, Int.reduceLE, Int.reduceNeg, Int.reduceAdd, Int.reduceSub, Int.reduceMul, Int.reduceToNat, Nat.reduceLT, Nat.reduceLeDiff, beq_self_eq_true, reduceIte, eq_self, Int.reduceNe, Int.reduceBNe, not_true_eq_false, not_false_eq_true, true_and, and_true, true_or, or_true, false_or, or_false, and_false, false_and, decide_eq_true_eq, Bool.true_and, Bool.and_true, Bool.false_and, Bool.and_false, Bool.true_or, Bool.or_true, Bool.false_or, Bool.or_false, dn, t_sh, t_plus, k5, optS]
    refine seq_eq e3 ?_
    generalize (some (Dt.lst [.bl true, .bl true, .bl false, .bl false])) = a2
    obtain ⟨v, hv, d1⟩ := ex_draw ns (n := 0) (s := [.lst []]) (many := 3) hs0 (by omega) (by decide)
    by_cases hv0 : (0 : Int) < (v : Int)
    · obtain ⟨w, n1, q1, q2, q3⟩ := ex_small ns (n := 0 + 1) (s := [.lst []]) hs0 (by omega)
      obtain ⟨o, n2, p1, p2, p3⟩ := ex_small ns (n := n1) (s := [.lst []]) hs0 (by omega)
      have nm := ev_names (tw [.lst []] n2)
      have gd := ev_good (N := namesL) (s := tw [.lst []] n2) q2.1 p2.1 namesL_len (covers_due q2.2.1 p2.2.1 p2.1 p2.2.2) (meet_due q2.1 p2.1)
      have e4 : u_law_4 [some (sc ns), some (.obj 0), a2, none, none, none, none, none, none, none, none] (tw [.lst []] 0) = .fl (.rt (.bl true)) (tw [.lst []] n2) := by
        unfold u_law_4
        simp only [fnOf, ev_seq, ev_asg, sBnd_def, ev_op, ev_un, bnd_def, ev_call, evs_cons, evs_nil, ev_var, ev_c, ev_if, ev_next, ev_expr, ev_tru, ev_bl, ev_and, ev_or, ev_not, ev_yes, ev_andE, ev_orE, ev_notE, ev_ifE, ev_chain, ofB_some, ofO_some, ofO_none, truD_non, truD_bl, truD_int, truD_str, truD_tup, truD_lst, truD_lsk, ev_tup, ev_lst, ev_nwF, ev_nwM, ev_meth, ev_make, ev_fld, ev_setF, ev_bm1, asQ_tup, asQ_lst, asQ_lsk, asL_lst, asL_lsk, dLen_tup, dLen_lst, dLen_lsk, dLen_str, dIx_tup, dIx_lst, dIx_lsk, dIx_str, dAdd_int, dNeg_int, isN_def, notN_def, isNon_non, isNon_int, isNon_bl, isNon_str, isNon_tup, isNon_lst, isNon_obj, isNon_exc, dEq_int, dNe_int, dEq_str, dNe_str, dEq_bl, atI_zero, atI_one, atI_2, atI_3, atI_4, atI_5, atI_6, atI_7, atI_8, atI_9, atI_10, atI_11, atI_12, atI_m1, ev_gT, setAll_nil, setAll_cons, iOp_int, ev_gN, ev_ret, List.map_cons, List.map_nil, List.length_cons, List.length_nil, rep_zero, rep_succ, List.cons_append, List.nil_append, List.getElem?_cons_zero, List.getElem?_cons_succ, List.set_cons_zero, List.set_cons_succ, Nat.sub_self, Nat.reduceAdd, Nat.reduceSub, Option.map_some, Option.bind_some, if_true, Bool.not_true, Bool.not_false, Bool.false_eq_true, if_false, decide_true, decide_false, Int.reduceBEq, Int.reduceEq, Int.reduceLT, Int.reduceLE, Int.reduceNeg, Int.reduceAdd, Int.reduceSub, Int.reduceMul, Int.reduceToNat, Nat.reduceLT, Nat.reduceLeDiff, beq_self_eq_true, reduceIte, eq_self, Int.reduceNe, Int.reduceBNe, not_true_eq_false, not_false_eq_true, true_and, and_true, true_or, or_true, false_or, or_false, and_false, false_and, decide_eq_true_eq, Bool.true_and, Bool.and_true, Bool.false_and, Bool.and_false, Bool.true_or, Bool.or_true, Bool.false_or, Bool.or_false, d1, dGt, hv0, q3, p3, nm, gd]
      exact ⟨.bl true, _, seq_rt1 e4, rfl⟩
    · have e4 : u_law_4 [some (sc ns), some (.obj 0), a2, none, none, none, none, none, none, none, none] (tw [.lst []] 0) = .fl (.nx [some (sc ns), some (.obj 0), a2, none, none, none, none, none, none, none, none]) (tw [.lst []] (0 + 1)) := by
        unfold u_law_4
        simp only [fnOf, ev_seq, ev_asg, sBnd_def, ev_op, ev_un, bnd_def, ev_call, evs_cons, evs_nil, ev_var, ev_c, ev_if, ev_next, ev_expr, ev_tru, ev_bl, ev_and, ev_or, ev_not, ev_yes, ev_andE, ev_orE, ev_notE, ev_ifE, ev_chain, ofB_some, ofO_some, ofO_none, truD_non, truD_bl, truD_int, truD_str, truD_tup, truD_lst, truD_lsk, ev_tup, ev_lst, ev_nwF, ev_nwM, ev_meth, ev_make, ev_fld, ev_setF, ev_bm1, asQ_tup, asQ_lst, asQ_lsk, asL_lst, asL_lsk, dLen_tup, dLen_lst, dLen_lsk, dLen_str, dIx_tup, dIx_lst, dIx_lsk, dIx_str, dAdd_int, dNeg_int, isN_def, notN_def, isNon_non, isNon_int, isNon_bl, isNon_str, isNon_tup, isNon_lst, isNon_obj, isNon_exc, dEq_int, dNe_int, dEq_str, dNe_str, dEq_bl, atI_zero, atI_one, atI_2, atI_3, atI_4, atI_5, atI_6, atI_7, atI_8, atI_9, atI_10, atI_11, atI_12, atI_m1, ev_gT, setAll_nil, setAll_cons, iOp_int, ev_gN, ev_ret, List.map_cons, List.map_nil, List.length_cons, List.length_nil, rep_zero, rep_succ, List.cons_append, List.nil_append, List.getElem?_cons_zero, List.getElem?_cons_succ, List.set_cons_zero, List.set_cons_succ, Nat.sub_self, Nat.reduceAdd, Nat.reduceSub, Option.map_some, Option.bind_some, if_true, Bool.not_true, Bool.not_false, Bool.false_eq_true, if_false, decide_true, decide_false, Int.reduceBEq, Int.reduceEq, Int.reduceLT, Int.reduceLE, Int.reduceNeg, Int.reduceAdd, Int.reduceSub, Int.reduceMul, Int.reduceToNat, Nat.reduceLT, Nat.reduceLeDiff, beq_self_eq_true, reduceIte, eq_self, Int.reduceNe, Int.reduceBNe, not_true_eq_false, not_false_eq_true, true_and, and_true, true_or, or_true, false_or, or_false, and_false, false_and, decide_eq_true_eq, Bool.true_and, Bool.and_true, Bool.false_and, Bool.and_false, Bool.true_or, Bool.or_true, Bool.false_or, Bool.or_false, d1, dGt, hv0]
      refine seq_eq e4 ?_
      obtain ⟨ps, n1, g1, g2, g3, g4, g5⟩ := ex_great ns (n := 0 + 1) (s := [.lst []]) hs0 (by omega)
      have e5 : u_law_5 [some (sc ns), some (.obj 0), a2, none, none, none, none, none, none, none, none] (tw [.lst []] (0 + 1)) = .fl (.nx [some (sc ns), some (.obj 0), a2, none, some (.lst (lvs ps)), none, none, none, none, none, none]) (tw [.lst []] n1) := by
        unfold u_law_5
        simp only [fnOf, ev_seq, ev_asg, sBnd_def, ev_op, ev_un, bnd_def, ev_call, evs_cons, evs_nil, ev_var, ev_c, ev_if, ev_next, ev_expr, ev_tru, ev_bl, ev_and, ev_or, ev_not, ev_yes, ev_andE, ev_orE, ev_notE, ev_ifE, ev_chain, ofB_some, ofO_some, ofO_none, truD_non, truD_bl, truD_int, truD_str, truD_tup, truD_lst, truD_lsk, ev_tup, ev_lst, ev_nwF, ev_nwM, ev_meth, ev_make, ev_fld, ev_setF, ev_bm1, asQ_tup, asQ_lst, asQ_lsk, asL_lst, asL_lsk, dLen_tup, dLen_lst, dLen_lsk, dLen_str, dIx_tup, dIx_lst, dIx_lsk, dIx_str, dAdd_int, dNeg_int, isN_def, notN_def, isNon_non, isNon_int, isNon_bl, isNon_str, isNon_tup, isNon_lst, isNon_obj, isNon_exc, dEq_int, dNe_int, dEq_str, dNe_str, dEq_bl, atI_zero, atI_one, atI_2, atI_3, atI_4, atI_5, atI_6, atI_7, atI_8, atI_9, atI_10, atI_11, atI_12, atI_m1, ev_gT, setAll_nil, setAll_cons, iOp_int, ev_gN, ev_ret, List.map_cons, List.map_nil, List.length_cons, List.length_nil, rep_zero, rep_succ, List.cons_append, List.nil_append, List.getElem?_cons_zero, List.getElem?_cons_succ, List.set_cons_zero, List.set_cons_succ, Nat.sub_self, Nat.reduceAdd, Nat.reduceSub, Option.map_some, Option.bind_some, if_true, Bool.not_true, Bool.not_false, Bool.false_eq_true, if_false, decide_true, decide_false, Int.reduceBEq, Int.reduceEq, Int.reduceLT, Int.reduceLE, Int.reduceNeg, Int.reduceAdd, Int.reduceSub, Int.reduceMul, Int.reduceToNat, Nat.reduceLT, Nat.reduceLeDiff, beq_self_eq_true, reduceIte, eq_self, Int.reduceNe, Int.reduceBNe, not_true_eq_false, not_false_eq_true, true_and, and_true, true_or, or_true, false_or, or_false, and_false, false_and, decide_eq_true_eq, Bool.true_and, Bool.and_true, Bool.false_and, Bool.and_false, Bool.true_or, Bool.or_true, Bool.false_or, Bool.or_false, g5]
      refine seq_eq e5 ?_
      refine seq_NX (P := Ost ns a2 ps 0) ?_ fun e s' h => ?_
      · obtain ⟨zs, s', f1, f2, f3, f4⟩ := lc_inv (tg := gN 9) (fe := eCall m_law_pick [eVar 0, eVar 1, eLst nwF [eVar 9, eVar 9, eVar 9, eC (.str (mkS [43]))]]) (ok := fun _ => True) (env := [some (sc ns), some (.obj 0), a2, none, some (.lst (lvs ps)), none, none, none, none, none, none])
          (fun m s' => s' = tw [.lst []] (n1 + m)) (fun y => ∃ q, y = .str (mkS q) ∧ q.length ≤ 12) ps.length (fun _ _ _ => trivial) (l := lvs ps) (n := 0) (s := tw [.lst []] n1) (by rw [List.length_map]; omega) rfl (fun m s' d hd hm h => by
            obtain ⟨p, hp1, hp2⟩ := List.mem_map.mp hd
            subst hp2; subst h
            obtain ⟨d, hd, e⟩ := ex_pick ns (n := n1 + m) (s := [.lst []]) (l := [.str (mkS p), .str (mkS p), .str (mkS p), .str (mkS [43])]) hs0 (by omega) (by simp)
            refine ⟨_, rfl, d, tw [.lst []] (n1 + m + 1), by simp only [fnOf, ev_seq, ev_asg, sBnd_def, ev_op, ev_un, bnd_def, ev_call, evs_cons, evs_nil, ev_var, ev_c, ev_if, ev_next, ev_expr, ev_tru, ev_bl, ev_and, ev_or, ev_not, ev_yes, ev_andE, ev_orE, ev_notE, ev_ifE, ev_chain, ofB_some, ofO_some, ofO_none, truD_non, truD_bl, truD_int, truD_str, truD_tup, truD_lst, truD_lsk, ev_tup, ev_lst, ev_nwF, ev_nwM, ev_meth, ev_make, ev_fld, ev_setF, ev_bm1, asQ_tup, asQ_lst, asQ_lsk, asL_lst, asL_lsk, dLen_tup, dLen_lst, dLen_lsk, dLen_str, dIx_tup, dIx_lst, dIx_lsk, dIx_str, dAdd_int, dNeg_int, isN_def, notN_def, isNon_non, isNon_int, isNon_bl, isNon_str, isNon_tup, isNon_lst, isNon_obj, isNon_exc, dEq_int, dNe_int, dEq_str, dNe_str, dEq_bl, atI_zero, atI_one, atI_2, atI_3, atI_4, atI_5, atI_6, atI_7, atI_8, atI_9, atI_10, atI_11, atI_12, atI_m1, ev_gT, setAll_nil, setAll_cons, iOp_int, ev_gN, ev_ret, List.map_cons, List.map_nil, List.length_cons, List.length_nil, rep_zero, rep_succ, List.cons_append, List.nil_append, List.getElem?_cons_zero, List.getElem?_cons_succ, List.set_cons_zero, List.set_cons_succ, Nat.sub_self, Nat.reduceAdd, Nat.reduceSub, Option.map_some, Option.bind_some, if_true, Bool.not_true, Bool.not_false, Bool.false_eq_true, if_false, decide_true, decide_false, Int.reduceBEq, Int.reduceEq, Int.reduceLT, Int.reduceLE, Int.reduceNeg, Int.reduceAdd, Int.reduceSub, Int.reduceMul, Int.reduceToNat, Nat.reduceLT, Nat.reduceLeDiff, beq_self_eq_true, reduceIte, eq_self, Int.reduceNe, Int.reduceBNe, not_true_eq_false, not_false_eq_true, true_and, and_true, true_or, or_true, false_or, or_false, and_false, false_and, decide_eq_true_eq, Bool.true_and, Bool.and_true, Bool.false_and, Bool.and_false, Bool.true_or, Bool.or_true, Bool.false_or, Bool.or_false, e], ?_, by rw [Nat.add_assoc]⟩
            simp only [List.mem_cons, List.not_mem_nil, or_false] at hd
            rcases hd with hd | hd | hd | hd
            · exact ⟨p, hd, g4 p hp1⟩
            · exact ⟨p, hd, g4 p hp1⟩
            · exact ⟨p, hd, g4 p hp1⟩
            · exact ⟨_, hd, by decide⟩)
        obtain ⟨qs, hq1, hq2⟩ := lvs_of f4
        subst hq1; subst f2
        rw [List.length_map, List.length_map] at f3
        rw [List.length_map, Nat.zero_add] at f1
        refine ⟨[some (sc ns), some (.obj 0), a2, none, some (.lst (lvs ps)), some (.obj 1), none, none, none, none, none], tw [.lst [], .lst (lvs qs)] (n1 + ps.length), ?_, 1, qs, _, _, rfl, rfl, rfl, by decide, by simp, fun h => ?_, by omega, hq2, by omega⟩
        · unfold u_law_6
          simp only [fnOf, ev_seq, ev_asg, sBnd_def, ev_op, ev_un, bnd_def, ev_call, evs_cons, evs_nil, ev_var, ev_c, ev_if, ev_next, ev_expr, ev_tru, ev_bl, ev_and, ev_or, ev_not, ev_yes, ev_andE, ev_orE, ev_notE, ev_ifE, ev_chain, ofB_some, ofO_some, ofO_none, truD_non, truD_bl, truD_int, truD_str, truD_tup, truD_lst, truD_lsk, ev_tup, ev_lst, ev_nwF, ev_nwM, ev_meth, ev_make, ev_fld, ev_setF, ev_bm1, asQ_tup, asQ_lst, asQ_lsk, asL_lst, asL_lsk, dLen_tup, dLen_lst, dLen_lsk, dLen_str, dIx_tup, dIx_lst, dIx_lsk, dIx_str, dAdd_int, dNeg_int, isN_def, notN_def, isNon_non, isNon_int, isNon_bl, isNon_str, isNon_tup, isNon_lst, isNon_obj, isNon_exc, dEq_int, dNe_int, dEq_str, dNe_str, dEq_bl, atI_zero, atI_one, atI_2, atI_3, atI_4, atI_5, atI_6, atI_7, atI_8, atI_9, atI_10, atI_11, atI_12, atI_m1, ev_gT, setAll_nil, setAll_cons, iOp_int, ev_gN, ev_ret, List.map_cons, List.map_nil, List.length_cons, List.length_nil, rep_zero, rep_succ, List.cons_append, List.nil_append, List.getElem?_cons_zero, List.getElem?_cons_succ, List.set_cons_zero, List.set_cons_succ, Nat.sub_self, Nat.reduceAdd, Nat.reduceSub, Option.map_some, Option.bind_some, if_true, Bool.not_true, Bool.not_false, Bool.false_eq_true, if_false, decide_true, decide_false, Int.reduceBEq, Int.reduceEq, Int.reduceLT, Int.reduceLE, Int.reduceNeg, Int.reduceAdd, Int.reduceSub, Int.reduceMul, Int.reduceToNat, Nat.reduceLT, Nat.reduceLeDiff, beq_self_eq_true, reduceIte, eq_self, Int.reduceNe, Int.reduceBNe, not_true_eq_false, not_false_eq_true, true_and, and_true, true_or, or_true, false_or, or_false, and_false, false_and, decide_eq_true_eq, Bool.true_and, Bool.and_true, Bool.false_and, Bool.and_false, Bool.true_or, Bool.or_true, Bool.false_or, Bool.or_false, ev_lc, ev_iSeq, wipeD_nil, wipeD_cons, bndN, t_plus, f1]
          rfl
        · rw [h] at f3
          exact g2 (List.length_eq_zero_iff.mp f3.symm)
      obtain ⟨j, qs, s1, n2, z1, z2, z3, z4, z5, z6, z7, z8, z9⟩ := h
      subst z1; subst z2
      have hq0 : 0 < qs.length := List.length_pos_iff.mpr z6
      refine seq_NX (P := Ost ns a2 ps 1) ?_ fun e s' h => ?_
      · obtain ⟨v, hv, d1⟩ := ex_draw ns (n := n2) (s := s1) (many := 3) z5 (by omega) (by decide)
        unfold u_law_7
        have o2 : (tw s1 (n2 + 1))[j]? = some (.lst (lvs qs)) := by rw [tw_at z4]; exact z3
        cases hb : ((v : Int) == 0) with
        | true =>
          have l1 := dLen_obj o2
          rw [List.length_map] at l1
          obtain ⟨u, hu, d2⟩ := ex_draw ns (n := n2 + 1) (s := s1) (many := (qs.length : Int)) z5 (by omega) (by omega)
          have o3 : (tw s1 (n2 + 1 + 1))[j]? = some (.lst (lvs qs)) := by rw [tw_at z4]; exact z3
          have sl := dSl_obj (nw := nwF) (lo := none) (hi := some (u : Int)) o3
          rw [cut_take, ← List.map_take] at sl
          have ad : dAdd nwM (.lst (lvs (qs.take u))) (.lst [.str (mkS [35])]) (tw s1 (n2 + 1 + 1)) = nwM (lvs (qs.take u ++ [[35]])) (tw s1 (n2 + 1 + 1)) := by
            rw [dAdd_lst (by simp; omega)]
            simp [lvs]
          refine ⟨[some (sc ns), some (.obj 0), a2, none, some (.lst (lvs ps)), some (.obj s1.length), none, none, none, none, none], tw (s1 ++ [.lst (lvs (qs.take u ++ [[35]]))]) (n2 + 1 + 1), ?_, s1.length, qs.take u ++ [[35]], _, _, rfl, rfl, by simp, by omega, by simp, by simp, by simp; omega, fun q hq => ?_, by omega⟩
          · simp only [fnOf, ev_seq, ev_asg, sBnd_def, ev_op, ev_un, bnd_def, ev_call, evs_cons, evs_nil, ev_var, ev_c, ev_if, ev_next, ev_expr, ev_tru, ev_bl, ev_and, ev_or, ev_not, ev_yes, ev_andE, ev_orE, ev_notE, ev_ifE, ev_chain, ofB_some, ofO_some, ofO_none, truD_non, truD_bl, truD_int, truD_str, truD_tup, truD_lst, truD_lsk, ev_tup, ev_lst, ev_nwF, ev_nwM, ev_meth, ev_make, ev_fld, ev_setF, ev_bm1, asQ_tup, asQ_lst, asQ_lsk, asL_lst, asL_lsk, dLen_tup, dLen_lst, dLen_lsk, dLen_str, dIx_tup, dIx_lst, dIx_lsk, dIx_str, dAdd_int, dNeg_int, isN_def, notN_def, isNon_non, isNon_int, isNon_bl, isNon_str, isNon_tup, isNon_lst, isNon_obj, isNon_exc, dEq_int, dNe_int, dEq_str, dNe_str, dEq_bl, atI_zero, atI_one, atI_2, atI_3, atI_4, atI_5, atI_6, atI_7, atI_8, atI_9, atI_10, atI_11, atI_12, atI_m1, ev_gT, setAll_nil, setAll_cons, iOp_int, ev_gN, ev_ret, List.map_cons, List.map_nil, List.length_cons, List.length_nil, rep_zero, rep_succ, List.cons_append, List.nil_append, List.getElem?_cons_zero, List.getElem?_cons_succ, List.set_cons_zero, List.set_cons_succ, Nat.sub_self, Nat.reduceAdd, Nat.reduceSub, Option.map_some, Option.bind_some, if_true, Bool.not_true, Bool.not_false, Bool.false_eq_true, if_false, decide_true, decide_false, Int.reduceBEq, Int.reduceEq, Int.reduceLT, Int.reduceLE, Int.reduceNeg, Int.reduceAdd, Int.reduceSub, Int.reduceMul, Int.reduceToNat, Nat.reduceLT, Nat.reduceLeDiff, beq_self_eq_true, reduceIte, eq_self, Int.reduceNe, Int.reduceBNe, not_true_eq_false, not_false_eq_true, true_and, and_true, true_or, or_true, false_or, or_false, and_false, false_and, decide_eq_true_eq, Bool.true_and, Bool.and_true, Bool.false_and, Bool.and_false, Bool.true_or, Bool.or_true, Bool.false_or, Bool.or_false, d1, hb, ev_sl, evp_none, evp_some, l1, d2, sl, t_hash, ad, tw_len, tw_app z5]
          · rcases List.mem_append.mp hq with hq | hq
            · exact z8 q (List.mem_of_mem_take hq)
            · simp at hq; subst hq; decide
        | false =>
          refine ⟨[some (sc ns), some (.obj 0), a2, none, some (.lst (lvs ps)), some (.obj j), none, none, none, none, none], tw s1 (n2 + 1), ?_, j, qs, _, _, rfl, rfl, z3, z4, z5, z6, z7, z8, by omega⟩
          simp only [fnOf, ev_seq, ev_asg, sBnd_def, ev_op, ev_un, bnd_def, ev_call, evs_cons, evs_nil, ev_var, ev_c, ev_if, ev_next, ev_expr, ev_tru, ev_bl, ev_and, ev_or, ev_not, ev_yes, ev_andE, ev_orE, ev_notE, ev_ifE, ev_chain, ofB_some, ofO_some, ofO_none, truD_non, truD_bl, truD_int, truD_str, truD_tup, truD_lst, truD_lsk, ev_tup, ev_lst, ev_nwF, ev_nwM, ev_meth, ev_make, ev_fld, ev_setF, ev_bm1, asQ_tup, asQ_lst, asQ_lsk, asL_lst, asL_lsk, dLen_tup, dLen_lst, dLen_lsk, dLen_str, dIx_tup, dIx_lst, dIx_lsk, dIx_str, dAdd_int, dNeg_int, isN_def, notN_def, isNon_non, isNon_int, isNon_bl, isNon_str, isNon_tup, isNon_lst, isNon_obj, isNon_exc, dEq_int, dNe_int, dEq_str, dNe_str, dEq_bl, atI_zero, atI_one, atI_2, atI_3, atI_4, atI_5, atI_6, atI_7, atI_8, atI_9, atI_10, atI_11, atI_12, atI_m1, ev_gT, setAll_nil, setAll_cons, iOp_int, ev_gN, ev_ret, List.map_cons, List.map_nil, List.length_cons, List.length_nil, rep_zero, rep_succ, List.cons_append, List.nil_append, List.getElem?_cons_zero, List.getElem?_cons_succ, List.set_cons_zero, List.set_cons_succ, Nat.sub_self, Nat.reduceAdd, Nat.reduceSub, Option.map_some, Option.bind_some, if_true, Bool.not_true, Bool.not_false, Bool.false_eq_true, if_false, decide_true, decide_false, Int.reduceBEq, Int.reduceEq, Int.reduceLT, Int.reduceLE, Int.reduceNeg, Int.reduceAdd, Int.reduceSub, Int.reduceMul, Int.reduceToNat, Nat.reduceLT, Nat.reduceLeDiff, beq_self_eq_true, reduceIte, eq_self, Int.reduceNe, Int.reduceBNe, not_true_eq_false, not_false_eq_true, true_and, and_true, true_or, or_true, false_or, or_false, and_false, false_and, decide_eq_true_eq, Bool.true_and, Bool.and_true, Bool.false_and, Bool.and_false, Bool.true_or, Bool.or_true, Bool.false_or, Bool.or_false, d1, hb]
      obtain ⟨j, qs, s1, n2, z1, z2, z3, z4, z5, z6, z7, z8, z9⟩ := h
      subst z1; subst z2
      have hq0 : 0 < qs.length := List.length_pos_iff.mpr z6
      refine seq_NX (P := Ost ns a2 ps 2) ?_ fun e s' h => ?_
      · obtain ⟨v, hv, d1⟩ := ex_draw ns (n := n2) (s := s1) (many := 6) z5 (by omega) (by decide)
        unfold u_law_8
        cases hb : ((v : Int) == 0) with
        | true =>
          obtain ⟨d, hd, d2⟩ := ex_pick ns (n := n2 + 1) (s := s1) (l := [.str (mkS [122, 122]), .str (mkS [35, 97]), .str (mkS []), .str (mkS [36, 116])]) z5 (by omega) (by simp)
          have hx : ∃ l, d = .str (mkS l) ∧ l.length ≤ 12 := by
            simp only [List.mem_cons, List.not_mem_nil, or_false] at hd
            rcases hd with h | h | h | h <;> exact ⟨_, h, by decide⟩
          obtain ⟨l, e, hl⟩ := hx
          subst e
          have o2 : (tw s1 (n2 + 1 + 1))[j]? = some (.lst (lvs qs)) := by rw [tw_at z4]; exact z3
          have l1 := dLen_obj o2
          rw [List.length_map] at l1
          obtain ⟨u, hu, d3⟩ := ex_draw ns (n := n2 + 1 + 1) (s := s1) (many := (qs.length : Int)) z5 (by omega) (by omega)
          have o3 : (tw s1 (n2 + 1 + 1 + 1))[j]? = some (.lst (lvs qs)) := by rw [tw_at z4]; exact z3
          have pt := putAt_nat (d := .str (mkS l)) o3 (show u < (lvs qs).length by rw [List.length_map]; omega)
          rw [lvs_set, tw_set z4] at pt
          refine ⟨[some (sc ns), some (.obj 0), a2, none, some (.lst (lvs ps)), some (.obj j), none, none, none, none, none], tw (s1.set j (.lst (lvs (qs.set u l)))) (n2 + 1 + 1 + 1), ?_, j, qs.set u l, _, _, rfl, rfl, ?_, z4, by rw [List.length_set]; exact z5, ?_, by rw [List.length_set]; omega, mem_set_le z8 hl, by omega⟩
          · simp only [fnOf, ev_seq, ev_asg, sBnd_def, ev_op, ev_un, bnd_def, ev_call, evs_cons, evs_nil, ev_var, ev_c, ev_if, ev_next, ev_expr, ev_tru, ev_bl, ev_and, ev_or, ev_not, ev_yes, ev_andE, ev_orE, ev_notE, ev_ifE, ev_chain, ofB_some, ofO_some, ofO_none, truD_non, truD_bl, truD_int, truD_str, truD_tup, truD_lst, truD_lsk, ev_tup, ev_lst, ev_nwF, ev_nwM, ev_meth, ev_make, ev_fld, ev_setF, ev_bm1, asQ_tup, asQ_lst, asQ_lsk, asL_lst, asL_lsk, dLen_tup, dLen_lst, dLen_lsk, dLen_str, dIx_tup, dIx_lst, dIx_lsk, dIx_str, dAdd_int, dNeg_int, isN_def, notN_def, isNon_non, isNon_int, isNon_bl, isNon_str, isNon_tup, isNon_lst, isNon_obj, isNon_exc, dEq_int, dNe_int, dEq_str, dNe_str, dEq_bl, atI_zero, atI_one, atI_2, atI_3, atI_4, atI_5, atI_6, atI_7, atI_8, atI_9, atI_10, atI_11, atI_12, atI_m1, ev_gT, setAll_nil, setAll_cons, iOp_int, ev_gN, ev_ret, List.map_cons, List.map_nil, List.length_cons, List.length_nil, rep_zero, rep_succ, List.cons_append, List.nil_append, List.getElem?_cons_zero, List.getElem?_cons_succ, List.set_cons_zero, List.set_cons_succ, Nat.sub_self, Nat.reduceAdd, Nat.reduceSub, Option.map_some, Option.bind_some, if_true, Bool.not_true, Bool.not_false, Bool.false_eq_true, if_false, decide_true, decide_false, Int.reduceBEq, Int.reduceEq, Int.reduceLT, Int.reduceLE, Int.reduceNeg, Int.reduceAdd, Int.reduceSub, Int.reduceMul, Int.reduceToNat, Nat.reduceLT, Nat.reduceLeDiff, beq_self_eq_true, reduceIte, eq_self, Int.reduceNe, Int.reduceBNe, not_true_eq_false, not_false_eq_true, true_and, and_true, true_or, or_true, false_or, or_false, and_false, false_and, decide_eq_true_eq, Bool.true_and, Bool.and_true, Bool.false_and, Bool.and_false, Bool.true_or, Bool.or_true, Bool.false_or, Bool.or_false, d1, hb, t_zz, t_ha, t_nil, t_dt, ev_setI, d2, l1, d3, pt]
          · rw [List.getElem?_set_self (List.getElem?_eq_some_iff.mp z3).1]
          · intro h
            rw [List.set_eq_nil_iff] at h
            exact z6 h
        | false =>
          refine ⟨[some (sc ns), some (.obj 0), a2, none, some (.lst (lvs ps)), some (.obj j), none, none, none, none, none], tw s1 (n2 + 1), ?_, j, qs, _, _, rfl, rfl, z3, z4, z5, z6, z7, z8, by omega⟩
          simp only [fnOf, ev_seq, ev_asg, sBnd_def, ev_op, ev_un, bnd_def, ev_call, evs_cons, evs_nil, ev_var, ev_c, ev_if, ev_next, ev_expr, ev_tru, ev_bl, ev_and, ev_or, ev_not, ev_yes, ev_andE, ev_orE, ev_notE, ev_ifE, ev_chain, ofB_some, ofO_some, ofO_none, truD_non, truD_bl, truD_int, truD_str, truD_tup, truD_lst, truD_lsk, ev_tup, ev_lst, ev_nwF, ev_nwM, ev_meth, ev_make, ev_fld, ev_setF, ev_bm1, asQ_tup, asQ_lst, asQ_lsk, asL_lst, asL_lsk, dLen_tup, dLen_lst, dLen_lsk, dLen_str, dIx_tup, dIx_lst, dIx_lsk, dIx_str, dAdd_int, dNeg_int, isN_def, notN_def, isNon_non, isNon_int, isNon_bl, isNon_str, isNon_tup, isNon_lst, isNon_obj, isNon_exc, dEq_int, dNe_int, dEq_str, dNe_str, dEq_bl, atI_zero, atI_one, atI_2, atI_3, atI_4, atI_5, atI_6, atI_7, atI_8, atI_9, atI_10, atI_11, atI_12, atI_m1, ev_gT, setAll_nil, setAll_cons, iOp_int, ev_gN, ev_ret, List.map_cons, List.map_nil, List.length_cons, List.length_nil, rep_zero, rep_succ, List.cons_append, List.nil_append, List.getElem?_cons_zero, List.getElem?_cons_succ, List.set_cons_zero, List.set_cons_succ, Nat.sub_self, Nat.reduceAdd, Nat.reduceSub, Option.map_some, Option.bind_some, if_true, Bool.not_true, Bool.not_false, Bool.false_eq_true, if_false, decide_true, decide_false, Int.reduceBEq, Int.reduceEq, Int.reduceLT, Int.reduceLE, Int.reduceNeg, Int.reduceAdd, Int.reduceSub, Int.reduceMul, Int.reduceToNat, Nat.reduceLT, Nat.reduceLeDiff, beq_self_eq_true, reduceIte, eq_self, Int.reduceNe, Int.reduceBNe, not_true_eq_false, not_false_eq_true, true_and, and_true, true_or, or_true, false_or, or_false, and_false, false_and, decide_eq_true_eq, Bool.true_and, Bool.and_true, Bool.false_and, Bool.and_false, Bool.true_or, Bool.or_true, Bool.false_or, Bool.or_false, d1, hb]
      obtain ⟨j, qs, s1, n2, z1, z2, z3, z4, z5, z6, z7, z8, z9⟩ := h
      subst z1; subst z2
      exact ev_tail (by rw [tw_at z4]; exact z3) (fun p hp => Nat.le_trans (g4 p hp) (by decide)) (by omega) (fun p hp => Nat.le_trans (z8 p hp) (by decide)) (by omega)
  obtain ⟨d, s', h1, h2⟩ := main
  exact ⟨s', by rw [h1, h2]⟩
end Tx
open PySem PySem.W PyProof.Rows
set_option maxRecDepth 100000 in
set_option maxHeartbeats 0 in
theorem PySem.Challenge.cw_tidinghall_k02_whole_covers_holds : PySem.Challenge.rw_tidinghall_k02_whole_covers.Holds := by
  w_on; o_law; k_head; (case hw => w_witness2)
  k_fill
  refine Tx.walk Tx.law_true (l := PySem.Challenge.rw_tidinghall_k02_whole_covers) rfl rfl (fun w h Y => PySem.W.kIn_of Y) ?F
  case F =>
    intro w mg fa h KX G hmg
    refine' Tx.all_mk KX G hmg ?aC_TidingError ?kC_TidingError ?aC_BadName ?kC_BadName ?aC_BadPacket ?kC_BadPacket ?aC_BadBytes ?kC_BadBytes ?aC_BadLine ?kC_BadLine ?aC_BadText ?kC_BadText ?a_is_level ?l_is_level ?c_is_level ?k_is_level ?a_is_wide ?l_is_wide ?c_is_wide ?k_is_wide ?a_plain_levels ?l_plain_levels ?c_plain_levels ?k_plain_levels ?a_law_cell ?l_law_cell ?c_law_cell ?k_law_cell ?a_law_refusal ?l_law_refusal ?c_law_refusal ?k_law_refusal ?a_law_is_level ?l_law_is_level ?c_law_is_level ?k_law_is_level ?a_law_fits ?l_law_fits ?c_law_fits ?k_law_fits ?a_law_names ?l_law_names ?c_law_names ?k_law_names ?a_look_name ?l_look_name ?c_look_name ?k_look_name ?a_look_wish ?l_look_wish ?c_look_wish ?k_look_wish ?a_law_mix ?l_law_mix ?c_law_mix ?k_law_mix ?a_law_is_name ?l_law_is_name ?c_law_is_name ?k_law_is_name ?a_law_is_wish ?l_law_is_wish ?c_law_is_wish ?k_law_is_wish ?a_law_draw ?l_law_draw ?c_law_draw ?k_law_draw ?a_law_pick ?l_law_pick ?c_law_pick ?k_law_pick ?a_law_signs ?l_law_signs ?c_law_signs ?k_law_signs ?a_law_small ?l_law_small ?c_law_small ?k_law_small ?a_law_level ?l_law_level ?c_law_level ?k_law_level ?a_law_great ?l_law_great ?c_law_great ?k_law_great ?a_fits_levels ?l_fits_levels ?c_fits_levels ?k_fits_levels ?a_covers_levels ?l_covers_levels ?c_covers_levels ?k_covers_levels ?a_fits ?l_fits ?c_fits ?k_fits ?a_covers ?l_covers ?c_covers ?k_covers ?a_both_levels ?l_both_levels ?c_both_levels ?k_both_levels ?a_meeting ?l_meeting ?c_meeting ?k_meeting ?a_law_told ?l_law_told ?c_law_told ?k_law_told ?a_law_good ?l_law_good ?c_law_good ?k_law_good ?a_law ?l_law ?c_law ?k_law ?x_TidingError ?b_TidingError ?t_TidingError ?x_BadName ?b_BadName ?t_BadName ?x_BadPacket ?b_BadPacket ?t_BadPacket ?x_BadBytes ?b_BadBytes ?t_BadBytes ?x_BadLine ?b_BadLine ?t_BadLine ?x_BadText ?b_BadText ?t_BadText ?zm_TidingError_TidingError ?zm_BadName_TidingError ?zm_BadPacket_TidingError ?zm_BadBytes_TidingError ?zm_BadLine_TidingError ?zm_BadText_TidingError ?hn0 ?ht0 ?e1_TidingError ?e2_TidingError ?e3_TidingError ?e4_TidingError ?e5_TidingError ?e1_BadName ?e2_BadName ?e3_BadName ?e4_BadName ?e5_BadName ?e1_BadPacket ?e2_BadPacket ?e3_BadPacket ?e4_BadPacket ?e5_BadPacket ?e1_BadBytes ?e2_BadBytes ?e3_BadBytes ?e4_BadBytes ?e5_BadBytes ?e1_BadLine ?e2_BadLine ?e3_BadLine ?e4_BadLine ?e5_BadLine ?e1_BadText ?e2_BadText ?e3_BadText ?e4_BadText ?e5_BadText ?zk_TidingError_BadName ?zk_BadName_BadName ?zk_BadPacket_BadName ?zk_BadBytes_BadName ?zk_BadLine_BadName ?zk_BadText_BadName ?zk_TidingError_BadPacket ?zk_BadName_BadPacket ?zk_BadPacket_BadPacket ?zk_BadBytes_BadPacket ?zk_BadLine_BadPacket ?zk_BadText_BadPacket ?zk_TidingError_BadBytes ?zk_BadName_BadBytes ?zk_BadPacket_BadBytes ?zk_BadBytes_BadBytes ?zk_BadLine_BadBytes ?zk_BadText_BadBytes ?zk_TidingError_BadLine ?zk_BadName_BadLine ?zk_BadPacket_BadLine ?zk_BadBytes_BadLine ?zk_BadLine_BadLine ?zk_BadText_BadLine ?zk_TidingError_BadText ?zk_BadName_BadText ?zk_BadPacket_BadText ?zk_BadBytes_BadText ?zk_BadLine_BadText ?zk_BadText_BadText ?zk_TidingError_ValueError ?zk_BadName_ValueError ?zk_BadPacket_ValueError ?zk_BadBytes_ValueError ?zk_BadLine_ValueError ?zk_BadText_ValueError ?n_ValueError ?n_all ?n_any ?n_bool ?n_isinstance ?n_len ?n_ord ?n_range ?v_MOST_LEVELS ?v_MOST_SIGNS
    (case aC_TidingError => k_is)
    (case kC_TidingError => k_is)
    (case aC_BadName => k_is)
    (case kC_BadName => k_is)
    (case aC_BadPacket => k_is)
    (case kC_BadPacket => k_is)
    (case aC_BadBytes => k_is)
    (case kC_BadBytes => k_is)
    (case aC_BadLine => k_is)
    (case kC_BadLine => k_is)
    (case aC_BadText => k_is)
    (case kC_BadText => k_is)
    (case a_is_level => k_is)
    (case l_is_level => k_is)
    (case c_is_level => k_is)
    (case k_is_level => k_is)
    (case a_is_wide => k_is)
    (case l_is_wide => k_is)
    (case c_is_wide => k_is)
    (case k_is_wide => k_is)
    (case a_plain_levels => k_is)
    (case l_plain_levels => k_is)
    (case c_plain_levels => k_is)
    (case k_plain_levels => k_is)
    (case a_law_cell => k_is)
    (case l_law_cell => k_is)
    (case c_law_cell => k_is)
    (case k_law_cell => k_is)
    (case a_law_refusal => k_is)
    (case l_law_refusal => k_is)
    (case c_law_refusal => k_is)
    (case k_law_refusal => k_is)
    (case a_law_is_level => k_is)
    (case l_law_is_level => k_is)
    (case c_law_is_level => k_is)
    (case k_law_is_level => k_is)
    (case a_law_fits => k_is)
    (case l_law_fits => k_is)
    (case c_law_fits => k_is)
    (case k_law_fits => k_is)
    (case a_law_names => k_is)
    (case l_law_names => k_is)
    (case c_law_names => k_is)
    (case k_law_names => k_is)
    (case a_look_name => k_is)
    (case l_look_name => k_is)
    (case c_look_name => k_is)
    (case k_look_name => k_is)
    (case a_look_wish => k_is)
    (case l_look_wish => k_is)
    (case c_look_wish => k_is)
    (case k_look_wish => k_is)
    (case a_law_mix => k_is)
    (case l_law_mix => k_is)
    (case c_law_mix => k_is)
    (case k_law_mix => k_is)
    (case a_law_is_name => k_is)
    (case l_law_is_name => k_is)
    (case c_law_is_name => k_is)
    (case k_law_is_name => k_is)
    (case a_law_is_wish => k_is)
    (case l_law_is_wish => k_is)
    (case c_law_is_wish => k_is)
    (case k_law_is_wish => k_is)
    (case a_law_draw => k_is)
    (case l_law_draw => k_is)
    (case c_law_draw => k_is)
    (case k_law_draw => k_is)
    (case a_law_pick => k_is)
    (case l_law_pick => k_is)
    (case c_law_pick => k_is)
    (case k_law_pick => k_is)
    (case a_law_signs => k_is)
    (case l_law_signs => k_is)
    (case c_law_signs => k_is)
    (case k_law_signs => k_is)
    (case a_law_small => k_is)
    (case l_law_small => k_is)
    (case c_law_small => k_is)
    (case k_law_small => k_is)
    (case a_law_level => k_is)
    (case l_law_level => k_is)
    (case c_law_level => k_is)
    (case k_law_level => k_is)
    (case a_law_great => k_is)
    (case l_law_great => k_is)
    (case c_law_great => k_is)
    (case k_law_great => k_is)
    (case a_fits_levels => k_is)
    (case l_fits_levels => k_is)
    (case c_fits_levels => k_is)
    (case k_fits_levels => k_is)
    (case a_covers_levels => k_is)
    (case l_covers_levels => k_is)
    (case c_covers_levels => k_is)
    (case k_covers_levels => k_is)
    (case a_fits => k_is)
    (case l_fits => k_is)
    (case c_fits => k_is)
    (case k_fits => k_is)
    (case a_covers => k_is)
    (case l_covers => k_is)
    (case c_covers => k_is)
    (case k_covers => k_is)
    (case a_both_levels => k_is)
    (case l_both_levels => k_is)
    (case c_both_levels => k_is)
    (case k_both_levels => k_is)
    (case a_meeting => k_is)
    (case l_meeting => k_is)
    (case c_meeting => k_is)
    (case k_meeting => k_is)
    (case a_law_told => k_is)
    (case l_law_told => k_is)
    (case c_law_told => k_is)
    (case k_law_told => k_is)
    (case a_law_good => k_is)
    (case l_law_good => k_is)
    (case c_law_good => k_is)
    (case k_law_good => k_is)
    (case a_law => k_is)
    (case l_law => k_is)
    (case c_law => k_is)
    (case k_law => k_is)
    (case x_TidingError => k_exc)
    (case b_TidingError => k_is)
    (case t_TidingError => k_is)
    (case x_BadName => k_exc)
    (case b_BadName => k_is)
    (case t_BadName => k_is)
    (case x_BadPacket => k_exc)
    (case b_BadPacket => k_is)
    (case t_BadPacket => k_is)
    (case x_BadBytes => k_exc)
    (case b_BadBytes => k_is)
    (case t_BadBytes => k_is)
    (case x_BadLine => k_exc)
    (case b_BadLine => k_is)
    (case t_BadLine => k_is)
    (case x_BadText => k_exc)
    (case b_BadText => k_is)
    (case t_BadText => k_is)
    (case zm_TidingError_TidingError => kts_exm)
    (case zm_BadName_TidingError => kts_exm)
    (case zm_BadPacket_TidingError => kts_exm)
    (case zm_BadBytes_TidingError => kts_exm)
    (case zm_BadLine_TidingError => kts_exm)
    (case zm_BadText_TidingError => kts_exm)
    (case hn0 => k_is)
    (case ht0 => k_is)
    (case e1_TidingError => k_is)
    (case e2_TidingError => k_is)
    (case e3_TidingError => k_is)
    (case e4_TidingError => k_is)
    (case e5_TidingError => k_is)
    (case e1_BadName => k_is)
    (case e2_BadName => k_is)
    (case e3_BadName => k_is)
    (case e4_BadName => k_is)
    (case e5_BadName => k_is)
    (case e1_BadPacket => k_is)
    (case e2_BadPacket => k_is)
    (case e3_BadPacket => k_is)
    (case e4_BadPacket => k_is)
    (case e5_BadPacket => k_is)
    (case e1_BadBytes => k_is)
    (case e2_BadBytes => k_is)
    (case e3_BadBytes => k_is)
    (case e4_BadBytes => k_is)
    (case e5_BadBytes => k_is)
    (case e1_BadLine => k_is)
    (case e2_BadLine => k_is)
    (case e3_BadLine => k_is)
    (case e4_BadLine => k_is)
    (case e5_BadLine => k_is)
    (case e1_BadText => k_is)
    (case e2_BadText => k_is)
    (case e3_BadText => k_is)
    (case e4_BadText => k_is)
    (case e5_BadText => k_is)
    (case zk_TidingError_BadName => kit_is)
    (case zk_BadName_BadName => kit_is)
    (case zk_BadPacket_BadName => kit_is)
    (case zk_BadBytes_BadName => kit_is)
    (case zk_BadLine_BadName => kit_is)
    (case zk_BadText_BadName => kit_is)
    (case zk_TidingError_BadPacket => kit_is)
    (case zk_BadName_BadPacket => kit_is)
    (case zk_BadPacket_BadPacket => kit_is)
    (case zk_BadBytes_BadPacket => kit_is)
    (case zk_BadLine_BadPacket => kit_is)
    (case zk_BadText_BadPacket => kit_is)
    (case zk_TidingError_BadBytes => kit_is)
    (case zk_BadName_BadBytes => kit_is)
    (case zk_BadPacket_BadBytes => kit_is)
    (case zk_BadBytes_BadBytes => kit_is)
    (case zk_BadLine_BadBytes => kit_is)
    (case zk_BadText_BadBytes => kit_is)
    (case zk_TidingError_BadLine => kit_is)
    (case zk_BadName_BadLine => kit_is)
    (case zk_BadPacket_BadLine => kit_is)
    (case zk_BadBytes_BadLine => kit_is)
    (case zk_BadLine_BadLine => kit_is)
    (case zk_BadText_BadLine => kit_is)
    (case zk_TidingError_BadText => kit_is)
    (case zk_BadName_BadText => kit_is)
    (case zk_BadPacket_BadText => kit_is)
    (case zk_BadBytes_BadText => kit_is)
    (case zk_BadLine_BadText => kit_is)
    (case zk_BadText_BadText => kit_is)
    (case zk_TidingError_ValueError => kit_is)
    (case zk_BadName_ValueError => kit_is)
    (case zk_BadPacket_ValueError => kit_is)
    (case zk_BadBytes_ValueError => kit_is)
    (case zk_BadLine_ValueError => kit_is)
    (case zk_BadText_ValueError => kit_is)
    (case n_ValueError => k_is)
    (case n_all => k_is)
    (case n_any => k_is)
    (case n_bool => k_is)
    (case n_isinstance => k_is)
    (case n_len => k_is)
    (case n_ord => k_is)
    (case n_range => k_is)
    (case v_MOST_LEVELS => k_is)
    (case v_MOST_SIGNS => k_is)
