import PyProof.Rows.All
import Wide.All
import OpenK.AllK
import Wide.FinOn
import HandS.ForMost
import HandS.ForExc
import HandS.Flow
import HandS.TupAny
import HandS.Deep
import HandS.SetFor
import HandS.IsInst
import PySem.Challenge.RW_tidinghall_k31_whole_taker
set_option Elab.async false
set_option linter.all false
set_option autoImplicit false
set_option maxRecDepth 100000
set_option maxHeartbeats 4000000
/-! A layer of values over the hand layer: data that never changes is a plain value (Dt), what changes stands in a store (Mo) by number. -/
namespace Pd
open PySem L2

inductive Dt where
  | non | bl (b : Bool) | int (i : Int) | str (x : Str) | tup (l : List Dt) | lst (l : List Dt) | lsk (l : List Dt) | obj (i : Nat) | exc (c : Nat)
inductive Mo where
  | lst (l : List Dt) | ins (c : Nat) (fs : List Dt) | dic (kvs : List (Key × Dt)) | dit (kvs : List (List Key × Dt))
abbrev Sto := List Mo
inductive Out (α : Type) where
  | ok (a : α) (s : Sto) | exc (c : Nat) (s : Sto) | bad
/-- the classes by number: name, attributes in the order of their first store -/
abbrev Cn := Nat → Str × List Str
structure Wd where
  K : PySem.W.Frag
  mg : Str → Option Value
  J : Cn
abbrev Wd.cl (Γ : Wd) (c : Nat) (C : Addr) : Prop := Γ.mg (Γ.J c).1 = some (.ref C)
def ExH (C : Addr) (a : Addr) : HO := .ext fun h => ∃ (oe : Obj) (vs : Array Value), h.get? a = some oe ∧ Zc (.ref C) none oe ∧ oe.data = .fields vs
/-- texts as they may be here -/
def sok (x : Str) : Bool := PyData.strOk x && decide (x.length ≤ 1000000)
section
variable (Γ : Wd) (ρ : List Addr) (F : Hp)
mutual
def Den : Dt → V → Prop
  | .non, v => v = .non
  | .bl b, v => v = .bl b
  | .int i, v => v = .int i
  | .str x, v => v = .str x ∧ sok x = true
  | .tup l, v => l.length ≤ sizeLine ∧ ∃ a xs, v = .ref a ∧ SqT Γ.K F a xs ∧ Dens l xs
  | .lst l, v => l.length ≤ sizeLine ∧ ∃ a xs, v = .ref a ∧ F a = some (.lst xs) ∧ Dens l xs
  | .lsk l, v => l.length ≤ sizeLine ∧ ∃ a xs, v = .ref a ∧ SqL Γ.K F a xs ∧ Dens l xs
  | .obj i, v => ∃ a, v = .ref a ∧ ρ[i]? = some a
  | .exc c, v => ∃ a C, v = .ref a ∧ Γ.cl c C ∧ F a = some (ExH C a)
def Dens : List Dt → List V → Prop
  | [], vs => vs = []
  | d :: ds, vs => ∃ v r, vs = v :: r ∧ Den d v ∧ Dens ds r
end
def DenK {κ : Type} : List (κ × Dt) → List (κ × V) → Prop
  | [], vs => vs = []
  | (f, d) :: ds, vs => ∃ v r, vs = (f, v) :: r ∧ Den Γ ρ F d v ∧ DenK ds r
def MoOk (H : Hp) (a : Addr) : Mo → Prop
  | .lst l => l.length ≤ sizeLine ∧ ∃ xs, H a = some (.lst xs) ∧ Dens Γ ρ F l xs
  | .ins c fs => ∃ C dx vs, Γ.cl c C ∧ H a = some (.ins C dx ((Γ.J c).2.zip vs)) ∧ Dens Γ ρ F fs vs ∧ fs.length ≤ (Γ.J c).2.length ∧ (Γ.J c).2.length < 1000
  | .dic kvs => kvs.length ≤ sizeLine ∧ ∃ vs, H a = some (.dK vs) ∧ DenK Γ ρ F kvs vs
  | .dit kvs => kvs.length ≤ sizeLine ∧ ∃ vs, H a = some (.dT vs) ∧ DenK Γ ρ F kvs vs
end
structure LD (ρ : List Addr) (F : Hp) (ρ' : List Addr) (F' : Hp) : Prop where
  pre : ∃ r, ρ' = ρ ++ r
  sub : ∀ a o, F a = some o → F' a = some o
theorem LD.refl {ρ : List Addr} {F : Hp} : LD ρ F ρ F := ⟨⟨[], by simp⟩, fun _ _ h => h⟩
theorem LD.trans {ρ ρ1 ρ2 : List Addr} {F F1 F2 : Hp} (a : LD ρ F ρ1 F1) (b : LD ρ1 F1 ρ2 F2) : LD ρ F ρ2 F2 := by
  obtain ⟨⟨r, e⟩, h⟩ := a
  obtain ⟨⟨r2, e2⟩, h2⟩ := b
  exact ⟨⟨r ++ r2, by rw [e2, e, List.append_assoc]⟩, fun a o q => h2 a o (h a o q)⟩
theorem LD.get {ρ ρ1 : List Addr} {F F1 : Hp} (a : LD ρ F ρ1 F1) {i : Nat} {x : Addr} (h : ρ[i]? = some x) : ρ1[i]? = some x := by
  obtain ⟨⟨r, e⟩, _⟩ := a
  rw [e, List.getElem?_append_left (List.getElem?_eq_some_iff.mp h).1]
  exact h
theorem rd_sub {F F1 : Hp} {a : Addr} {u : HO} (h : ∀ a o, F a = some o → F1 a = some o) (r : Rd F a u) : Rd F1 a u := by
  rcases r with r | ⟨o, r⟩
  · exact .inl (h _ _ r)
  · exact .inr ⟨o, h _ _ r⟩
theorem sqL_sub {K : PySem.W.Frag} {F F1 : Hp} {a : Addr} {xs : List V} (h : ∀ a o, F a = some o → F1 a = some o) (r : SqL K F a xs) : SqL K F1 a xs := by
  rcases r with r | r
  · exact .inl (rd_sub h r)
  · exact .inr r
theorem sqT_sub {K : PySem.W.Frag} {F F1 : Hp} {a : Addr} {xs : List V} (h : ∀ a o, F a = some o → F1 a = some o) (r : SqT K F a xs) : SqT K F1 a xs := by
  rcases r with r | r
  · exact .inl (rd_sub h r)
  · exact .inr r
section
variable {Γ : Wd} {ρ ρ1 : List Addr} {F F1 : Hp}
mutual
theorem Den.monoD (l : LD ρ F ρ1 F1) : ∀ (d : Dt) (v : V), Den Γ ρ F d v → Den Γ ρ1 F1 d v
  | .non, v, h => by simpa only [Den] using h
  | .bl b, v, h => by simpa only [Den] using h
  | .int i, v, h => by simpa only [Den] using h
  | .str x, v, h => by simpa only [Den] using h
  | .tup ds, v, h => by
    simp only [Den] at h ⊢
    obtain ⟨z, a, xs, e, q, r⟩ := h
    exact ⟨z, a, xs, e, sqT_sub l.sub q, Dens.monoD l ds xs r⟩
  | .lst ds, v, h => by
    simp only [Den] at h ⊢
    obtain ⟨z, a, xs, e, q, r⟩ := h
    exact ⟨z, a, xs, e, l.sub _ _ q, Dens.monoD l ds xs r⟩
  | .lsk ds, v, h => by
    simp only [Den] at h ⊢
    obtain ⟨z, a, xs, e, q, r⟩ := h
    exact ⟨z, a, xs, e, sqL_sub l.sub q, Dens.monoD l ds xs r⟩
  | .obj i, v, h => by
    simp only [Den] at h ⊢
    obtain ⟨a, e, q⟩ := h
    exact ⟨a, e, l.get q⟩
  | .exc c, v, h => by
    simp only [Den] at h ⊢
    obtain ⟨a, C, e, q, r⟩ := h
    exact ⟨a, C, e, q, l.sub _ _ r⟩
theorem Dens.monoD (l : LD ρ F ρ1 F1) : ∀ (ds : List Dt) (vs : List V), Dens Γ ρ F ds vs → Dens Γ ρ1 F1 ds vs
  | [], vs, h => by simpa only [Dens] using h
  | d :: ds, vs, h => by
    simp only [Dens] at h ⊢
    obtain ⟨v, r, e, q, t⟩ := h
    exact ⟨v, r, e, Den.monoD l d v q, Dens.monoD l ds r t⟩
end
theorem DenK.monoD {κ : Type} (l : LD ρ F ρ1 F1) : ∀ {ds : List (κ × Dt)} {vs : List (κ × V)}, DenK Γ ρ F ds vs → DenK Γ ρ1 F1 ds vs
  | [], vs, h => h
  | (f, d) :: ds, vs, h => by
    obtain ⟨v, r, e, q, t⟩ := h
    exact ⟨v, r, e, Den.monoD l d v q, DenK.monoD l t⟩
theorem MoOk.mono (l : LD ρ F ρ1 F1) {H H1 : Hp} {a : Addr} (e : H1 a = H a) : ∀ {mo : Mo}, MoOk Γ ρ F H a mo → MoOk Γ ρ1 F1 H1 a mo
  | .lst ds, ⟨z, xs, h, q⟩ => ⟨z, xs, by rw [e]; exact h, Dens.monoD l _ _ q⟩
  | .ins c fs, ⟨C, dx, vs, g, h, q, z⟩ => ⟨C, dx, vs, g, by rw [e]; exact h, Dens.monoD l _ _ q, z⟩
  | .dic kvs, ⟨z, vs, h, q⟩ => ⟨z, vs, by rw [e]; exact h, DenK.monoD l q⟩
  | .dit kvs, ⟨z, vs, h, q⟩ => ⟨z, vs, by rw [e]; exact h, DenK.monoD l q⟩
end
theorem MoOk.there {Γ : Wd} {ρ : List Addr} {F H : Hp} {a : Addr} : ∀ {mo : Mo}, MoOk Γ ρ F H a mo → ∃ o, H a = some o
  | .lst ds, ⟨_, xs, h, q⟩ => ⟨_, h⟩
  | .ins c fs, ⟨C, dx, vs, g, h, q⟩ => ⟨_, h⟩
  | .dic kvs, ⟨_, vs, h, q⟩ => ⟨_, h⟩
  | .dit kvs, ⟨_, vs, h, q⟩ => ⟨_, h⟩
structure G (Γ : Wd) (ρ : List Addr) (F : Hp) (s : Sto) (H : Hp) : Prop where
  sub : ∀ a o, F a = some o → H a = some o
  len : ρ.length = s.length
  nd : ρ.Nodup
  sep : ∀ a ∈ ρ, F a = none
  at_ : ∀ (i : Nat) (a : Addr) (mo : Mo), ρ[i]? = some a → s[i]? = some mo → MoOk Γ ρ F H a mo
section
variable {Γ : Wd} {ρ ρ1 : List Addr} {F F1 H : Hp} {s : Sto}
theorem G.ex (g : G Γ ρ F s H) {a : Addr} (h : a ∈ ρ) : ∃ o, H a = some o := by
  obtain ⟨i, hi, e⟩ := List.mem_iff_getElem.mp h
  have hs : i < s.length := by rw [← g.len]; exact hi
  exact (g.at_ i a s[i] (by rw [← e]; exact List.getElem?_eq_getElem hi) (List.getElem?_eq_getElem hs)).there
theorem G.new_ne (g : G Γ ρ F s H) {p : Addr} (hp : H p = none) {a : Addr} (h : a ∈ ρ) : a ≠ p := fun e => by
  obtain ⟨o, q⟩ := g.ex h
  rw [e, hp] at q
  cases q
theorem G.fnone (g : G Γ ρ F s H) {p : Addr} (hp : H p = none) : F p = none := by
  cases e : F p with
  | none => rfl
  | some o => rw [g.sub _ _ e] at hp; cases hp
theorem LD.upd {p : Addr} {o : HO} (h : F p = none) : LD ρ F ρ (upd F p o) := ⟨⟨[], by simp⟩, fun a u e => by rw [upd_ne (fun z => by rw [z, h] at e; cases e)]; exact e⟩
theorem LD.push {p : Addr} : LD ρ F (ρ ++ [p]) F := ⟨⟨[p], rfl⟩, fun _ _ e => e⟩
/-- a new object that never changes -/
theorem G.frz (g : G Γ ρ F s H) {p : Addr} (o : HO) (hp : H p = none) : G Γ ρ (upd F p o) s (upd H p o) where
  sub := fun a u e => by
    by_cases h : a = p
    · subst h; rw [upd_same] at e ⊢; exact e
    · rw [upd_ne h] at e ⊢; exact g.sub _ _ e
  len := g.len
  nd := g.nd
  sep := fun a h => by rw [upd_ne (g.new_ne hp h)]; exact g.sep a h
  at_ := fun i a mo h1 h2 => (g.at_ i a mo h1 h2).mono (LD.upd (g.fnone hp)) (upd_ne (g.new_ne hp (List.mem_of_getElem? h1)))
/-- a new object that is forgotten at once -/
theorem G.skip (g : G Γ ρ F s H) {p : Addr} (o : HO) (hp : H p = none) : G Γ ρ F s (upd H p o) where
  sub := fun a u e => by
    rw [upd_ne (fun z => by rw [z, g.fnone hp] at e; cases e)]; exact g.sub _ _ e
  len := g.len
  nd := g.nd
  sep := g.sep
  at_ := fun i a mo h1 h2 => (g.at_ i a mo h1 h2).mono LD.refl (upd_ne (g.new_ne hp (List.mem_of_getElem? h1)))
/-- a new object of the store -/
theorem G.new (g : G Γ ρ F s H) {p : Addr} {o : HO} {mo : Mo} (hp : H p = none) (hm : MoOk Γ (ρ ++ [p]) F (upd H p o) p mo) : G Γ (ρ ++ [p]) F (s ++ [mo]) (upd H p o) where
  sub := fun a u e => by
    rw [upd_ne (fun z => by rw [z, g.fnone hp] at e; cases e)]; exact g.sub _ _ e
  len := by simp [g.len]
  nd := by
    refine List.nodup_append.mpr ⟨g.nd, by simp, fun a ha b hb => ?_⟩
    rw [List.mem_singleton] at hb
    rw [hb]
    exact g.new_ne hp ha
  sep := fun a h => by
    rcases List.mem_append.mp h with h | h
    · exact g.sep a h
    · rw [List.mem_singleton] at h; rw [h]; exact g.fnone hp
  at_ := fun i a m h1 h2 => by
    by_cases hi : i < ρ.length
    · rw [List.getElem?_append_left hi] at h1
      rw [List.getElem?_append_left (by rw [← g.len]; exact hi)] at h2
      exact (g.at_ i a m h1 h2).mono LD.push (upd_ne (g.new_ne hp (List.mem_of_getElem? h1)))
    · rw [List.getElem?_append_right (by omega)] at h1
      rw [List.getElem?_append_right (by rw [← g.len]; omega)] at h2
      have e0 : i - ρ.length = 0 := by
        have := (List.getElem?_eq_some_iff.mp h1).1
        simp at this
        omega
      rw [e0] at h1
      rw [← g.len, e0] at h2
      have e1 : p = a := Option.some.inj h1
      have e2 : mo = m := Option.some.inj h2
      subst e1; subst e2
      exact hm
/-- an object of the store is written -/
theorem G.put (g : G Γ ρ F s H) {i : Nat} {a : Addr} {o : HO} {mo : Mo} (hi : ρ[i]? = some a) (hm : MoOk Γ ρ F (upd H a o) a mo) : G Γ ρ F (s.set i mo) (upd H a o) where
  sub := fun b u e => by
    rw [upd_ne (fun z => by rw [z, g.sep a (List.mem_of_getElem? hi)] at e; cases e)]; exact g.sub _ _ e
  len := by rw [List.length_set]; exact g.len
  nd := g.nd
  sep := g.sep
  at_ := fun j b m h1 h2 => by
    by_cases hj : i = j
    · subst hj
      have e : a = b := Option.some.inj (hi.symm.trans h1)
      subst e
      have hl : i < s.length := by rw [← g.len]; exact (List.getElem?_eq_some_iff.mp hi).1
      rw [List.getElem?_set_self hl] at h2
      cases h2
      exact hm
    · rw [List.getElem?_set_ne hj] at h2
      refine (g.at_ j b m h1 h2).mono LD.refl (upd_ne fun z => hj ?_)
      subst z
      exact nd_ix g.nd hi h1
end
/-- what may have come to pass: more is known, what was not the store's stands as it stood -/
structure LE (ρ : List Addr) (F H : Hp) (ρ' : List Addr) (F' H' : Hp) : Prop where
  ld : LD ρ F ρ' F'
  fr : ∀ a, a ∈ ρ' → a ∈ ρ ∨ H a = none
  ff : ∀ a o, F' a = some o → (∃ u, F a = some u) ∨ H a = none
  keep : ∀ a o, H a = some o → a ∉ ρ → H' a = some o
  there : ∀ a o, H a = some o → ∃ u, H' a = some u
theorem LE.refl {ρ : List Addr} {F H : Hp} : LE ρ F H ρ F H := ⟨LD.refl, fun _ h => .inl h, fun _ o h => .inl ⟨o, h⟩, fun _ _ h _ => h, fun _ o h => ⟨o, h⟩⟩
theorem LE.gone {ρ ρ1 : List Addr} {F H F1 H1 : Hp} (l : LE ρ F H ρ1 F1 H1) {a : Addr} (h : H1 a = none) : H a = none := by
  cases e : H a with
  | none => rfl
  | some o =>
    obtain ⟨u, q⟩ := l.there a o e
    rw [h] at q
    cases q
theorem LE.sub {ρ ρ1 : List Addr} {F H F1 H1 : Hp} (l : LE ρ F H ρ1 F1 H1) {a : Addr} (h : a ∈ ρ) : a ∈ ρ1 := by
  obtain ⟨r, e⟩ := l.ld.pre
  rw [e]
  exact List.mem_append_left _ h
theorem LE.trans {ρ ρ1 ρ2 : List Addr} {F F1 F2 H H1 H2 : Hp} (a : LE ρ F H ρ1 F1 H1) (b : LE ρ1 F1 H1 ρ2 F2 H2) : LE ρ F H ρ2 F2 H2 where
  ld := a.ld.trans b.ld
  fr := fun x h => by
    rcases b.fr x h with h | h
    · exact a.fr x h
    · exact .inr (a.gone h)
  ff := fun x o h => by
    rcases b.ff x o h with ⟨u, h⟩ | h
    · exact a.ff x u h
    · exact .inr (a.gone h)
  keep := fun x o h n => b.keep x o (a.keep x o h n) fun z => by
    rcases a.fr x z with z | z
    · exact n z
    · rw [h] at z; cases z
  there := fun x o h => by
    obtain ⟨u, q⟩ := a.there x o h
    exact b.there x u q
theorem Den.mono {Γ : Wd} {ρ ρ1 : List Addr} {F F1 H H1 : Hp} (l : LE ρ F H ρ1 F1 H1) (d : Dt) (v : V) (h : Den Γ ρ F d v) : Den Γ ρ1 F1 d v := Den.monoD l.ld d v h
theorem Dens.mono {Γ : Wd} {ρ ρ1 : List Addr} {F F1 H H1 : Hp} (l : LE ρ F H ρ1 F1 H1) (d : List Dt) (v : List V) (h : Dens Γ ρ F d v) : Dens Γ ρ1 F1 d v := Dens.monoD l.ld d v h
section
variable {Γ : Wd} {ρ : List Addr} {F H : Hp} {s : Sto}
theorem upd_keep {a p : Addr} {o u : HO} (hp : H p = none) (h : H a = some o) : upd H p u a = some o := by rw [upd_ne (ne_of_none h hp)]; exact h
theorem LE.frz (g : G Γ ρ F s H) {p : Addr} {o : HO} (hp : H p = none) : LE ρ F H ρ (upd F p o) (upd H p o) where
  ld := LD.upd (g.fnone hp)
  fr := fun _ h => .inl h
  ff := fun a u h => by
    by_cases e : a = p
    · subst e; exact .inr hp
    · rw [upd_ne e] at h; exact .inl ⟨u, h⟩
  keep := fun a u h _ => upd_keep hp h
  there := fun a u h => ⟨u, upd_keep hp h⟩
theorem LE.new {p : Addr} {o : HO} (hp : H p = none) : LE ρ F H (ρ ++ [p]) F (upd H p o) where
  ld := LD.push
  fr := fun a h => by
    rcases List.mem_append.mp h with h | h
    · exact .inl h
    · rw [List.mem_singleton] at h; rw [h]; exact .inr hp
  ff := fun a u h => .inl ⟨u, h⟩
  keep := fun a u h _ => upd_keep hp h
  there := fun a u h => ⟨u, upd_keep hp h⟩
theorem LE.skip {p : Addr} {o : HO} (hp : H p = none) : LE ρ F H ρ F (upd H p o) where
  ld := LD.refl
  fr := fun _ h => .inl h
  ff := fun a u h => .inl ⟨u, h⟩
  keep := fun a u h _ => upd_keep hp h
  there := fun a u h => ⟨u, upd_keep hp h⟩
theorem LE.put {a : Addr} {o : HO} (ha : a ∈ ρ) : LE ρ F H ρ F (upd H a o) where
  ld := LD.refl
  fr := fun _ h => .inl h
  ff := fun a u h => .inl ⟨u, h⟩
  keep := fun b u h n => by rw [upd_ne (fun e => n (by rw [e]; exact ha))]; exact h
  there := fun b u h => by
    by_cases e : b = a
    · subst e; exact ⟨o, upd_same⟩
    · exact ⟨u, by rw [upd_ne e]; exact h⟩
/-- an object that is neither the store's nor known is written -/
theorem G.other (g : G Γ ρ F s H) {p : Addr} (o : HO) (hp : p ∉ ρ) (hf : F p = none) : G Γ ρ F s (upd H p o) where
  sub := fun a u e => by
    rw [upd_ne (fun z => by rw [z, hf] at e; cases e)]; exact g.sub _ _ e
  len := g.len
  nd := g.nd
  sep := g.sep
  at_ := fun i a mo h1 h2 => (g.at_ i a mo h1 h2).mono LD.refl (upd_ne fun z => hp (by rw [← z]; exact List.mem_of_getElem? h1))
end
/-! ### meanings -/
abbrev En := List (Option Dt)
abbrev Ex := En → Sto → Out Dt
abbrev Tx := En → Sto → Out Bool
inductive Fl where
  | nx (e : En) | rt (d : Dt) | bk (e : En) | ct (e : En)
inductive Res where
  | fl (f : Fl) (s : Sto) | exc (c : Nat) (e : En) (s : Sto) | bad
abbrev Sx := En → Sto → Res
structure Sl (Γ : Wd) (ρ : List Addr) (F : Hp) (env : En) (σ : St) : Prop where
  len : env.length = σ.length
  at_ : ∀ (i : Nat) (d : Dt), env[i]? = some (some d) → ∃ v : V, σ[i]? = some (some v) ∧ Den Γ ρ F d v
theorem Sl.mono {Γ : Wd} {ρ ρ1 : List Addr} {F F1 H H1 : Hp} {env : En} {σ : St} (h : Sl Γ ρ F env σ) (l : LE ρ F H ρ1 F1 H1) : Sl Γ ρ1 F1 env σ :=
  ⟨h.len, fun i d e => by obtain ⟨v, q, r⟩ := h.at_ i d e; exact ⟨v, q, Den.mono l d v r⟩⟩
theorem Sl.set {Γ : Wd} {ρ : List Addr} {F : Hp} {env : En} {σ : St} (h : Sl Γ ρ F env σ) {d : Dt} {v : V} (r : Den Γ ρ F d v) (i : Nat) : Sl Γ ρ F (env.set i (some d)) (σ.set i (some v)) := by
  refine ⟨by rw [List.length_set, List.length_set]; exact h.len, fun j e q => ?_⟩
  by_cases hj : i = j
  · subst hj
    have hl : i < env.length := by
      have := (List.getElem?_eq_some_iff.mp q).1
      rw [List.length_set] at this
      exact this
    rw [List.getElem?_set_self hl] at q
    have e1 : d = e := by injection q with q; injection q
    subst e1
    exact ⟨v, List.getElem?_set_self (by rw [← h.len]; exact hl), r⟩
  · rw [List.getElem?_set_ne hj] at q
    rw [List.getElem?_set_ne hj]
    exact h.at_ j e q
theorem Sl.unset {Γ : Wd} {ρ : List Addr} {F : Hp} {env : En} {σ : St} (h : Sl Γ ρ F env σ) (i : Nat) : Sl Γ ρ F (env.set i none) (σ.set i none) := by
  refine ⟨by rw [List.length_set, List.length_set]; exact h.len, fun j e q => ?_⟩
  by_cases hj : i = j
  · subst hj
    have hl : i < env.length := by
      have := (List.getElem?_eq_some_iff.mp q).1
      rw [List.length_set] at this
      exact this
    rw [List.getElem?_set_self hl] at q
    injection q with q
    cases q
  · rw [List.getElem?_set_ne hj] at q
    rw [List.getElem?_set_ne hj]
    exact h.at_ j e q
/-- what is to be shown behind an outcome -/
def Po {α β : Type} (Γ : Wd) (Rl : List Addr → Hp → α → β → Prop) (ρ : List Addr) (F H : Hp) (Q : β → Hp → Prop) (E : Value → Hp → Prop) : Out α → Prop
  | .ok d s => ∀ ρ' F' H' v, LE ρ F H ρ' F' H' → G Γ ρ' F' s H' → Rl ρ' F' d v → Q v H'
  | .exc c s => ∀ ρ' F' H' C, LE ρ F H ρ' F' H' → G Γ ρ' F' s H' → Γ.cl c C → E (.ref C) H'
  | .bad => False
abbrev EPo (Γ : Wd) := Po Γ (Den Γ)
abbrev APo (Γ : Wd) := Po Γ (Dens Γ)
abbrev BPo (Γ : Wd) := Po Γ (fun _ _ (a : Bool) (b : Bool) => a = b)
theorem Po.mono {α β : Type} {Γ : Wd} {Rl : List Addr → Hp → α → β → Prop} {ρ ρ1 : List Addr} {F F1 H H1 : Hp} {Q Q' : β → Hp → Prop} {E E' : Value → Hp → Prop} (l : LE ρ F H ρ1 F1 H1) (hq : ∀ v H, Q v H → Q' v H) (he : ∀ v H, E v H → E' v H) :
    ∀ {o : Out α}, Po Γ Rl ρ F H Q E o → Po Γ Rl ρ1 F1 H1 Q' E' o
  | .ok d s, h => fun ρ' F' H' v l' g r => hq _ _ (h ρ' F' H' v (l.trans l') g r)
  | .exc c s, h => fun ρ' F' H' C l' g r => he _ _ (h ρ' F' H' C (l.trans l') g r)
  | .bad, h => h
/-- one computation behind another -/
def bnd {α β : Type} (m : Sto → Out α) (k : α → Sto → Out β) (s : Sto) : Out β := match m s with
  | .ok a s' => k a s'
  | .exc c s' => .exc c s'
  | .bad => .bad
@[simp] theorem bnd_ok {α β : Type} {m : Sto → Out α} {k : α → Sto → Out β} {s s' : Sto} {a : α} (h : m s = .ok a s') : bnd m k s = k a s' := by unfold bnd; rw [h]
theorem Po.bind {α β γ δ : Type} {Γ : Wd} {R1 : List Addr → Hp → α → β → Prop} {R2 : List Addr → Hp → γ → δ → Prop} {ρ : List Addr} {F H : Hp} {Q : δ → Hp → Prop} {Q1 : β → Hp → Prop} {E : Value → Hp → Prop} {m : Sto → Out α} {k : α → Sto → Out γ} {s : Sto}
    (h : Po Γ R2 ρ F H Q E (bnd m k s)) (hk : ∀ a s' ρ' F' H' v, m s = .ok a s' → LE ρ F H ρ' F' H' → G Γ ρ' F' s' H' → R1 ρ' F' a v → Po Γ R2 ρ' F' H' Q E (k a s') → Q1 v H') : Po Γ R1 ρ F H Q1 E (m s) := by
  unfold bnd at h
  cases e : m s with
  | ok a s' =>
    rw [e] at h
    exact fun ρ' F' H' v l g r => hk a s' ρ' F' H' v e l g r (h.mono l (fun _ _ q => q) fun _ _ q => q)
  | exc c s' => rw [e] at h; exact h
  | bad => rw [e] at h; exact h
/-- the readings that a meaning gives -/
def tE (Γ : Wd) (W : WX) (f : Ex) : TE := fun σ H Q => ∃ env ρ F s, G Γ ρ F s H ∧ Sl Γ ρ F env σ ∧ EPo Γ ρ F H Q (fun c H' => W c none σ H') (f env s)
def tT (Γ : Wd) (W : WX) (f : Tx) : TT := fun σ H Q => ∃ env ρ F s, G Γ ρ F s H ∧ Sl Γ ρ F env σ ∧ BPo Γ ρ F H Q (fun c H' => W c none σ H') (f env s)
/-- several, from the left -/
def evs : List Ex → En → Sto → Out (List Dt)
  | [], _, s => .ok [] s
  | f :: fs, env, s => bnd (f env) (fun d => bnd (evs fs env) fun ds s => .ok (d :: ds) s) s
def tA (Γ : Wd) (W : WX) (f : List Ex) : TA := fun σ H Q => ∃ env ρ F s, G Γ ρ F s H ∧ Sl Γ ρ F env σ ∧ APo Γ ρ F H Q (fun c H' => W c none σ H') (evs f env s)
def FPo (Γ : Wd) (W : WX) (ρ : List Addr) (F H : Hp) (D : Ends) : Res → Prop
  | .fl (.nx e) s => ∀ ρ' F' H' σ, LE ρ F H ρ' F' H' → G Γ ρ' F' s H' → Sl Γ ρ' F' e σ → D.nx σ H'
  | .fl (.rt d) s => ∀ ρ' F' H' v, LE ρ F H ρ' F' H' → G Γ ρ' F' s H' → Den Γ ρ' F' d v → D.rt v H'
  | .fl (.bk e) s => ∀ ρ' F' H' σ, LE ρ F H ρ' F' H' → G Γ ρ' F' s H' → Sl Γ ρ' F' e σ → D.bk σ H'
  | .fl (.ct e) s => ∀ ρ' F' H' σ, LE ρ F H ρ' F' H' → G Γ ρ' F' s H' → Sl Γ ρ' F' e σ → D.ct σ H'
  | .exc c e s => ∀ ρ' F' H' σ C, LE ρ F H ρ' F' H' → G Γ ρ' F' s H' → Sl Γ ρ' F' e σ → Γ.cl c C → W (.ref C) none σ H'
  | .bad => False
def tS (Γ : Wd) (W : WX) (f : Sx) : TS := fun D σ H => ∃ env ρ F s, G Γ ρ F s H ∧ Sl Γ ρ F env σ ∧ FPo Γ W ρ F H D (f env s)
theorem FPo.le {Γ : Wd} {W : WX} {ρ ρ1 : List Addr} {F F1 H H1 : Hp} {D : Ends} (l : LE ρ F H ρ1 F1 H1) : ∀ {r : Res}, FPo Γ W ρ F H D r → FPo Γ W ρ1 F1 H1 D r
  | .fl (.nx e) s, h => fun ρ' F' H' σ l' g r => h ρ' F' H' σ (l.trans l') g r
  | .fl (.rt d) s, h => fun ρ' F' H' σ l' g r => h ρ' F' H' σ (l.trans l') g r
  | .fl (.bk e) s, h => fun ρ' F' H' σ l' g r => h ρ' F' H' σ (l.trans l') g r
  | .fl (.ct e) s, h => fun ρ' F' H' σ l' g r => h ρ' F' H' σ (l.trans l') g r
  | .exc c e s, h => fun ρ' F' H' σ C l' g r => h ρ' F' H' σ C (l.trans l') g r
  | .bad, h => h
theorem PE.imp {X : Cx} {e : Expr} {t t' : TE} (h : PE X e t) (k : ∀ σ H Q, t' σ H Q → t σ H Q) : PE X e t' := ⟨fun pins s σ H Q I q => h.run pins s σ H Q I (k σ H Q q)⟩
theorem PT.imp {X : Cx} {e : Expr} {t t' : TT} (h : PT X e t) (k : ∀ σ H Q, t' σ H Q → t σ H Q) : PT X e t' := ⟨fun pins s σ H Q I q => h.run pins s σ H Q I (k σ H Q q)⟩
theorem PW.imp {X : Cx} {e : Expr} {t t' : TT} (h : PW X e t) (k : ∀ σ H Q, t' σ H Q → t σ H Q) : PW X e t' := ⟨fun wh pins s σ H Q I q => h.run wh pins s σ H Q I (k σ H Q q)⟩
theorem PA.imp {X : Cx} {e : List Expr} {t t' : TA} (h : PA X e t) (k : ∀ σ H Q, t' σ H Q → t σ H Q) : PA X e t' := ⟨fun pos pins s σ H Q I q => h.run pos pins s σ H Q I (k σ H Q q)⟩
theorem PS.imp {X : Cx} {e : Stmt} {t t' : TS} (h : PS X e t) (k : ∀ D σ H, t' D σ H → t D σ H) : PS X e t' := ⟨fun pins s σ H D I q => h.run pins s σ H D I (k D σ H q)⟩
theorem PSs.imp {X : Cx} {e : List Stmt} {t t' : TS} (h : PSs X e t) (k : ∀ D σ H, t' D σ H → t D σ H) : PSs X e t' := ⟨fun pins s σ H D I q => h.run pins s σ H D I (k D σ H q)⟩
abbrev wd (J : Cn) (X : Cx) : Wd := ⟨X.K, X.mg, J⟩
abbrev ES (J : Cn) (X : Cx) (W : WX) (e : Expr) (f : Ex) : Prop := PE X e (tE (wd J X) W f)
abbrev TSo (J : Cn) (X : Cx) (W : WX) (e : Expr) (f : Tx) : Prop := PT X e (tT (wd J X) W f)
abbrev WSo (J : Cn) (X : Cx) (W : WX) (e : Expr) (f : Tx) : Prop := PW X e (tT (wd J X) W f)
abbrev ASo (J : Cn) (X : Cx) (W : WX) (e : List Expr) (f : List Ex) : Prop := PA X e (tA (wd J X) W f)
abbrev SS (J : Cn) (X : Cx) (W : WX) (e : Stmt) (f : Sx) : Prop := PS X e (tS (wd J X) W f)
abbrev SSs (J : Cn) (X : Cx) (W : WX) (e : List Stmt) (f : Sx) : Prop := PSs X e (tS (wd J X) W f)
end Pd
namespace Pd
open PySem L2
/-! ### reading data -/
def asL (s : Sto) : Dt → Option (List Dt)
  | .lst l => some l
  | .lsk l => some l
  | .obj i => match s[i]? with
    | some (.lst l) => some l
    | _ => none
  | _ => none
def asT : Dt → Option (List Dt)
  | .tup l => some l
  | _ => none
def asQ (s : Sto) (d : Dt) : Option (List Dt) := match d with
  | .tup l => some l
  | _ => asL s d
section
variable {Γ : Wd} {ρ : List Addr} {F H : Hp} {s : Sto}
theorem G.sqL (g : G Γ ρ F s H) {d : Dt} {v : V} {l : List Dt} (r : Den Γ ρ F d v) (h : asL s d = some l) : ∃ a xs, v = .ref a ∧ SqL Γ.K H a xs ∧ Dens Γ ρ F l xs ∧ l.length ≤ sizeLine := by
  cases d with
  | lst l' =>
    simp only [Den] at r
    simp only [asL, Option.some.injEq] at h
    subst h
    obtain ⟨z, a, xs, e, q, t⟩ := r
    exact ⟨a, xs, e, SqL.of (g.sub _ _ q), t, z⟩
  | lsk l' =>
    simp only [Den] at r
    simp only [asL, Option.some.injEq] at h
    subst h
    obtain ⟨z, a, xs, e, q, t⟩ := r
    exact ⟨a, xs, e, sqL_sub g.sub q, t, z⟩
  | obj i =>
    simp only [Den] at r
    obtain ⟨a, e, q⟩ := r
    simp only [asL] at h
    split at h
    · rename_i l' hs
      cases h
      obtain ⟨z, xs, ha, t⟩ := g.at_ i a _ q hs
      exact ⟨a, xs, e, SqL.of ha, t, z⟩
    · cases h
  | _ => simp [asL] at h
theorem G.sqT (g : G Γ ρ F s H) {d : Dt} {v : V} {l : List Dt} (r : Den Γ ρ F d v) (h : asT d = some l) : ∃ a xs, v = .ref a ∧ SqT Γ.K H a xs ∧ Dens Γ ρ F l xs ∧ l.length ≤ sizeLine := by
  cases d with
  | tup l' =>
    simp only [Den] at r
    simp only [asT, Option.some.injEq] at h
    subst h
    obtain ⟨z, a, xs, e, q, t⟩ := r
    exact ⟨a, xs, e, sqT_sub g.sub q, t, z⟩
  | _ => simp [asT] at h
theorem G.sqQ (g : G Γ ρ F s H) {d : Dt} {v : V} {l : List Dt} (r : Den Γ ρ F d v) (h : asQ s d = some l) : ∃ a xs, v = .ref a ∧ (SqL Γ.K H a xs ∨ SqT Γ.K H a xs) ∧ Dens Γ ρ F l xs ∧ l.length ≤ sizeLine := by
  cases d with
  | tup l' =>
    obtain ⟨a, xs, e, q, t⟩ := g.sqT r (l := l) (by simpa [asQ, asT] using h)
    exact ⟨a, xs, e, .inr q, t⟩
  | _ =>
    obtain ⟨a, xs, e, q, t⟩ := g.sqL r (l := l) (by simpa [asQ] using h)
    exact ⟨a, xs, e, .inl q, t⟩
theorem Dens.length : ∀ {ds : List Dt} {vs : List V}, Dens Γ ρ F ds vs → ds.length = vs.length
  | [], vs, h => by simp only [Dens] at h; rw [h]; rfl
  | d :: ds, vs, h => by
    simp only [Dens] at h
    obtain ⟨v, r, e, q, t⟩ := h
    rw [e, List.length_cons, List.length_cons, Dens.length t]
theorem Dens.get : ∀ {ds : List Dt} {vs : List V} {i : Nat} {d : Dt}, Dens Γ ρ F ds vs → ds[i]? = some d → ∃ v, vs[i]? = some v ∧ Den Γ ρ F d v
  | [], vs, i, d, h, e => by simp at e
  | d' :: ds, vs, i, d, h, e => by
    simp only [Dens] at h
    obtain ⟨v, r, e', q, t⟩ := h
    subst e'
    cases i with
    | zero => simp at e; subst e; exact ⟨v, rfl, q⟩
    | succ i =>
      obtain ⟨u, hu, q2⟩ := Dens.get (i := i) (d := d) t (by simpa using e)
      exact ⟨u, by simpa using hu, q2⟩
theorem Dens.back : ∀ {ds : List Dt} {vs : List V} {i : Nat} {v : V}, Dens Γ ρ F ds vs → vs[i]? = some v → ∃ d, ds[i]? = some d ∧ Den Γ ρ F d v
  | [], vs, i, d, h, e => by simp only [Dens] at h; subst h; simp at e
  | d' :: ds, vs, i, d, h, e => by
    simp only [Dens] at h
    obtain ⟨v, r, e', q, t⟩ := h
    subst e'
    cases i with
    | zero => simp at e; subst e; exact ⟨d', rfl, q⟩
    | succ i =>
      obtain ⟨u, hu, q2⟩ := Dens.back (i := i) (v := d) t (by simpa using e)
      exact ⟨u, by simpa using hu, q2⟩
theorem Dens.append : ∀ {ds es : List Dt} {vs us : List V}, Dens Γ ρ F ds vs → Dens Γ ρ F es us → Dens Γ ρ F (ds ++ es) (vs ++ us)
  | [], es, vs, us, h, k => by simp only [Dens] at h; subst h; exact k
  | d :: ds, es, vs, us, h, k => by
    simp only [Dens] at h
    obtain ⟨v, r, e, q, t⟩ := h
    subst e
    show Dens Γ ρ F (d :: (ds ++ es)) (v :: (r ++ us))
    simp only [Dens]
    exact ⟨v, _, rfl, q, Dens.append t k⟩
theorem Dens.one {d : Dt} {v : V} (h : Den Γ ρ F d v) : Dens Γ ρ F [d] [v] := by
  simp only [Dens]
  exact ⟨v, [], rfl, h, rfl⟩
theorem Dens.drop : ∀ {ds : List Dt} {vs : List V} (n : Nat), Dens Γ ρ F ds vs → Dens Γ ρ F (ds.drop n) (vs.drop n)
  | [], vs, n, h => by simp only [Dens] at h; subst h; simp [Dens]
  | d :: ds, vs, 0, h => h
  | d :: ds, vs, n + 1, h => by
    simp only [Dens] at h
    obtain ⟨v, r, e, q, t⟩ := h
    subst e
    exact Dens.drop n t
theorem Dens.take : ∀ {ds : List Dt} {vs : List V} (n : Nat), Dens Γ ρ F ds vs → Dens Γ ρ F (ds.take n) (vs.take n)
  | [], vs, n, h => by simp only [Dens] at h; subst h; simp [Dens]
  | d :: ds, vs, 0, h => by simp [Dens]
  | d :: ds, vs, n + 1, h => by
    simp only [Dens] at h
    obtain ⟨v, r, e, q, t⟩ := h
    subst e
    show Dens Γ ρ F (d :: ds.take n) (v :: r.take n)
    simp only [Dens]
    exact ⟨v, _, rfl, q, Dens.take n t⟩
theorem Dens.set {d : Dt} {v : V} (hd : Den Γ ρ F d v) : ∀ {ds : List Dt} {vs : List V} (n : Nat), Dens Γ ρ F ds vs → Dens Γ ρ F (ds.set n d) (vs.set n v)
  | [], vs, n, h => by simp only [Dens] at h; subst h; simp [Dens]
  | d' :: ds, vs, 0, h => by
    simp only [Dens] at h
    obtain ⟨v', r, e, q, t⟩ := h
    subst e
    show Dens Γ ρ F (d :: ds) (v :: r)
    simp only [Dens]
    exact ⟨v, _, rfl, hd, t⟩
  | d' :: ds, vs, n + 1, h => by
    simp only [Dens] at h
    obtain ⟨v', r, e, q, t⟩ := h
    subst e
    show Dens Γ ρ F (d' :: ds.set n d) (v' :: r.set n v)
    simp only [Dens]
    exact ⟨v', _, rfl, q, Dens.set hd n t⟩
theorem Dens.eraseIdx : ∀ {ds : List Dt} {vs : List V} (n : Nat), Dens Γ ρ F ds vs → Dens Γ ρ F (ds.eraseIdx n) (vs.eraseIdx n)
  | [], vs, n, h => by simp only [Dens] at h; subst h; simp [Dens]
  | d' :: ds, vs, 0, h => by
    simp only [Dens] at h
    obtain ⟨v', r, e, q, t⟩ := h
    subst e
    exact t
  | d' :: ds, vs, n + 1, h => by
    simp only [Dens] at h
    obtain ⟨v', r, e, q, t⟩ := h
    subst e
    show Dens Γ ρ F (d' :: ds.eraseIdx n) (v' :: r.eraseIdx n)
    simp only [Dens]
    exact ⟨v', _, rfl, q, Dens.eraseIdx n t⟩
end
/-! ### expressions -/
section
variable {J : Cn} {X : Cx} {W : WX} {a b c e : Expr} {es : List Expr} {fa fb fc : Ex} {pos : Pos}
def eVar (i : Nat) : Ex := fun env s => match env[i]? with
  | some (some d) => .ok d s
  | _ => .bad
theorem es_var {i : Nat} (h : PE X e (tVar i)) : ES J X W e (eVar i) := by
  refine PE.imp h fun σ H Q ⟨env, ρ, F, s, g, l, k⟩ => ?_
  unfold eVar at k
  split at k
  · rename_i d hd
    obtain ⟨v, q, r⟩ := l.at_ i d hd
    exact ⟨v, q, k ρ F H v LE.refl g r⟩
  · exact k.elim
def eC (d : Dt) : Ex := fun _ s => .ok d s
theorem es_c {d : Dt} {v : V} (h : PE X e (tC v)) (hd : ∀ ρ F, Den (wd J X) ρ F d v) : ES J X W e (eC d) :=
  PE.imp h fun σ H Q ⟨env, ρ, F, s, g, l, k⟩ => k ρ F H v LE.refl g (hd ρ F)
theorem es_int {i : Int} {j} : ES J X W (.Constant (.int i) j pos) (eC (.int i)) := es_c pe_int fun _ _ => by simp only [Den]
theorem es_bl {i : Bool} {j} : ES J X W (.Constant (.bool i) j pos) (eC (.bl i)) := es_c pe_bl fun _ _ => by simp only [Den]
theorem es_non {j} : ES J X W (.Constant .none j pos) (eC .non) := es_c pe_non fun _ _ => by simp only [Den]
theorem es_str {x : Str} {j} (h : sok x = true := by decide +kernel) : ES J X W (.Constant (.str x) j pos) (eC (.str x)) := es_c pe_str fun _ _ => by simp only [Den]; exact ⟨trivial, h⟩
theorem es_gint {x : Str} {i : Int} {t : Tok} (hg : Gl X x) (hm : X.mg x = some (.int i t)) (hd : (x == ("__debug__" : Str)) = false := by decide) : ES J X W (.Name x pos) (eC (.int i)) := es_c (v := .int i) (pe_glob hg hm ⟨t, rfl⟩ hd) fun _ _ => by simp only [Den]
theorem es_gstr {x z : Str} {t : Tok} (hg : Gl X x) (hm : X.mg x = some (.str z t)) (hz : sok z = true := by decide +kernel) (hd : (x == ("__debug__" : Str)) = false := by decide) : ES J X W (.Name x pos) (eC (.str z)) := es_c (v := .str z) (pe_glob hg hm ⟨t, rfl⟩ hd) fun _ _ => by simp only [Den]; exact ⟨trivial, hz⟩
/-- an operation of two places -/
def eOp (op : Dt → Dt → Sto → Out Dt) (fa fb : Ex) : Ex := fun env => bnd (fa env) fun x => bnd (fb env) fun y => op x y
def OpS (Γ : Wd) (r : R2) (op : Dt → Dt → Sto → Out Dt) : Prop := ∀ ρ F s H x y dx dy Q E, G Γ ρ F s H → Den Γ ρ F dx x → Den Γ ρ F dy y → EPo Γ ρ F H Q E (op dx dy s) → r x y H Q
theorem tE_op {Γ : Wd} {r : R2} {op : Dt → Dt → Sto → Out Dt} (ho : OpS Γ r op) {σ : St} {H : Hp} {Q : VK} (h : tE Γ W (eOp op fa fb) σ H Q) : tOp r (tE Γ W fa) (tE Γ W fb) σ H Q := by
  obtain ⟨env, ρ, F, s, g, l, k⟩ := h
  refine ⟨env, ρ, F, s, g, l, Po.bind k fun x s1 ρ1 F1 H1 v e1 l1 g1 r1 k1 => ?_⟩
  refine ⟨env, ρ1, F1, s1, g1, l.mono l1, Po.bind k1 fun y s2 ρ2 F2 H2 u e2 l2 g2 r2 k2 => ?_⟩
  exact ho ρ2 F2 s2 H2 v u x y Q _ g2 (Den.mono l2 _ _ r1) r2 k2
theorem es_op {op : Operator} {r : R2} {f : Dt → Dt → Sto → Out Dt} (hr : OpR X (binaryOp op) r) (ho : OpS (wd J X) r f) (ha : ES J X W a fa) (hb : ES J X W b fb) : ES J X W (.BinOp a op b pos) (eOp f fa fb) :=
  PE.imp (pe_op hr ha hb) fun _ _ _ h => tE_op ho h
/-- an operation of one place -/
def eUn (op : Dt → Sto → Out Dt) (fa : Ex) : Ex := fun env => bnd (fa env) op
def UnS (Γ : Wd) (r : V → Hp → VK → Prop) (op : Dt → Sto → Out Dt) : Prop := ∀ ρ F s H x dx Q E, G Γ ρ F s H → Den Γ ρ F dx x → EPo Γ ρ F H Q E (op dx s) → r x H Q
theorem es_un {op : UnaryOp} {r : V → Hp → VK → Prop} {f : Dt → Sto → Out Dt} (hr : UnR X (unaryOp op) r) (ho : UnS (wd J X) r f) (ha : ES J X W a fa) : ES J X W (.UnaryOp op a pos) (eUn f fa) :=
  PE.imp (pe_un hr ha) fun σ H Q ⟨env, ρ, F, s, g, l, k⟩ => ⟨env, ρ, F, s, g, l, Po.bind k fun x s1 ρ1 F1 H1 v e1 l1 g1 r1 k1 => ho ρ1 F1 s1 H1 v x Q _ g1 r1 k1⟩
/-! ints -/
def iOp (g : Int → Int → Dt) (ok : Int → Int → Bool) : Dt → Dt → Sto → Out Dt
  | .int i, .int j, s => if ok i j then .ok (g i j) s else .bad
  | _, _, _ => .bad
theorem iOp_some {Γ : Wd} {C : Int → Int → Prop} {gv : Int → Int → V} {gd : Int → Int → Dt} {ok : Int → Int → Bool} (hc : ∀ i j, ok i j = true → C i j) (hd : ∀ ρ F i j, Den Γ ρ F (gd i j) (gv i j)) : OpS Γ (rI C gv) (iOp gd ok) := by
  intro ρ F s H x y dx dy Q E g rx ry k
  cases dx with
  | int i =>
    cases dy with
    | int j =>
      simp only [Den] at rx ry
      simp only [iOp] at k
      split at k
      · rename_i h
        exact ⟨i, j, rx, ry, hc _ _ h, k ρ F H _ LE.refl g (hd ρ F i j)⟩
      · exact k.elim
    | _ => exact False.elim k
  | _ => exact False.elim k
theorem iOp_all {Γ : Wd} {gv : Int → Int → V} {gd : Int → Int → Dt} (hd : ∀ ρ F i j, Den Γ ρ F (gd i j) (gv i j)) : OpS Γ (rI0 gv) (iOp gd fun _ _ => true) := by
  intro ρ F s H x y dx dy Q E g rx ry k
  cases dx with
  | int i =>
    cases dy with
    | int j =>
      simp only [Den] at rx ry
      exact ⟨i, j, rx, ry, k ρ F H _ LE.refl g (hd ρ F i j)⟩
    | _ => exact False.elim k
  | _ => exact False.elim k
abbrev dSub := iOp (fun i j => .int (i - j)) fun _ _ => true
abbrev dMul := iOp (fun i j => .int (i * j)) fun i j => decide ((-(2 ^ 64) < i ∧ i < 2 ^ 64) ∨ (-(2 ^ 64) < j ∧ j < 2 ^ 64))
abbrev dFdv := iOp (fun i j => .int (i / j)) fun _ j => decide (0 < j ∧ j < 1073741824)
abbrev dMod := iOp (fun i j => .int (i % j)) fun _ j => decide (0 < j)
abbrev dPow := iOp (fun i j => .int (i ^ j.toNat)) fun i j => decide (0 ≤ j ∧ j ≤ 1000000 ∧ i.natAbs < 2 ^ 64)
abbrev dLt := iOp (fun i j => .bl (decide (i < j))) fun _ _ => true
abbrev dLe := iOp (fun i j => .bl (decide (i ≤ j))) fun _ _ => true
abbrev dGt := iOp (fun i j => .bl (decide (j < i))) fun _ _ => true
abbrev dGe := iOp (fun i j => .bl (decide (j ≤ i))) fun _ _ => true
theorem es_sub (ha : ES J X W a fa) (hb : ES J X W b fb) : ES J X W (.BinOp a .Sub b pos) (eOp dSub fa fb) := es_op op_sub (iOp_all fun _ _ _ _ => by simp only [Den]) ha hb
theorem es_mul (ha : ES J X W a fa) (hb : ES J X W b fb) : ES J X W (.BinOp a .Mult b pos) (eOp dMul fa fb) := es_op op_mul (iOp_some (fun _ _ h => by simpa [CMul] using h) fun _ _ _ _ => by simp only [Den]) ha hb
theorem es_fdv (ha : ES J X W a fa) (hb : ES J X W b fb) : ES J X W (.BinOp a .FloorDiv b pos) (eOp dFdv fa fb) := es_op op_fdiv (iOp_some (fun _ _ h => by simpa [CDiv] using h) fun _ _ _ _ => by simp only [Den]) ha hb
theorem es_mod (ha : ES J X W a fa) (hb : ES J X W b fb) : ES J X W (.BinOp a .Mod b pos) (eOp dMod fa fb) := es_op op_mod (iOp_some (fun _ _ h => of_decide_eq_true h) fun _ _ _ _ => by simp only [Den]) ha hb
theorem es_pow (ha : ES J X W a fa) (hb : ES J X W b fb) : ES J X W (.BinOp a .Pow b pos) (eOp dPow fa fb) := es_op op_pow (iOp_some (fun _ _ h => by simpa [CPow] using h) fun _ _ _ _ => by simp only [Den]) ha hb
/-- a comparison that is known -/
def CmpOk (J : Cn) (X : Cx) (op : CmpOp) (f : Dt → Dt → Sto → Out Dt) : Prop := ∃ r, OpR X (compareOp op) r ∧ OpS (wd J X) r f
theorem c_lt : CmpOk J X .Lt dLt := ⟨_, op_lt, iOp_all fun _ _ _ _ => by simp only [Den]⟩
theorem c_le : CmpOk J X .LtE dLe := ⟨_, op_le, iOp_all fun _ _ _ _ => by simp only [Den]⟩
theorem c_gt : CmpOk J X .Gt dGt := ⟨_, op_gt, iOp_all fun _ _ _ _ => by simp only [Den]⟩
theorem c_ge : CmpOk J X .GtE dGe := ⟨_, op_ge, iOp_all fun _ _ _ _ => by simp only [Den]⟩
theorem es_cmp {op : CmpOp} {f : Dt → Dt → Sto → Out Dt} (h : CmpOk J X op f) (ha : ES J X W a fa) (hb : ES J X W b fb) (hm : behindInMarks op b = false := by rfl) : ES J X W (.Compare a [op] [b] pos) (eOp f fa fb) := by
  obtain ⟨r, hr, ho⟩ := h
  exact PE.imp (pe_cmpR hr ha hb hm) fun _ _ _ h => tE_op ho h
def dNeg : Dt → Sto → Out Dt
  | .int i, s => .ok (.int (-i)) s
  | _, _ => .bad
theorem es_neg (ha : ES J X W a fa) : ES J X W (.UnaryOp .USub a pos) (eUn dNeg fa) := es_un un_neg (fun ρ F s H x dx Q E g rx k => by
  unfold dNeg at k
  split at k
  · rename_i i
    simp only [Den] at rx
    exact ⟨i, rx, k ρ F H _ LE.refl g (by simp only [Den])⟩
  · exact k.elim) ha
/-! None -/
def isNon : Dt → Bool
  | .non => true
  | _ => false
theorem Den.isNon {Γ : Wd} {ρ : List Addr} {F : Hp} {d : Dt} {v : V} (r : Den Γ ρ F d v) : decide (v = .non) = Pd.isNon d := by
  cases d <;> simp only [Den] at r
  case tup => obtain ⟨_, a, xs, e, _⟩ := r; subst e; rfl
  case lst => obtain ⟨_, a, xs, e, _⟩ := r; subst e; rfl
  case lsk => obtain ⟨_, a, xs, e, _⟩ := r; subst e; rfl
  case obj => obtain ⟨a, e, _⟩ := r; subst e; rfl
  case exc => obtain ⟨a, xs, e, _⟩ := r; subst e; rfl
  case str => obtain ⟨e, _⟩ := r; subst e; rfl
  all_goals (subst r; rfl)
def dIsN (d : Dt) (s : Sto) : Out Dt := .ok (.bl (isNon d)) s
def dNotN (d : Dt) (s : Sto) : Out Dt := .ok (.bl (!isNon d)) s
theorem es_isN {j pos'} (ha : ES J X W a fa) : ES J X W (.Compare a [.Is] [.Constant .none j pos'] pos) (eUn dIsN fa) :=
  PE.imp (pe_cmp (pc_isN ha) (nobehind _ (by decide) (by decide))) fun σ H Q ⟨env, ρ, F, s, g, l, k⟩ => ⟨env, ρ, F, s, g, l, Po.bind k fun x s1 ρ1 F1 H1 v e1 l1 g1 r1 k1 => by
    rw [r1.isNon]
    exact k1 ρ1 F1 H1 _ LE.refl g1 (by simp only [Den])⟩
theorem es_notN {j pos'} (ha : ES J X W a fa) : ES J X W (.Compare a [.IsNot] [.Constant .none j pos'] pos) (eUn dNotN fa) :=
  PE.imp (pe_cmp (pc_notN ha) (nobehind _ (by decide) (by decide))) fun σ H Q ⟨env, ρ, F, s, g, l, k⟩ => ⟨env, ρ, F, s, g, l, Po.bind k fun x s1 ρ1 F1 H1 v e1 l1 g1 r1 k1 => by
    rw [r1.isNon]
    exact k1 ρ1 F1 H1 _ LE.refl g1 (by simp only [Den])⟩
end
end Pd
namespace Pd
open PySem L2
/-! ### data as the model compares it -/
mutual
def toPy : Dt → Option PyData
  | .non => some .none
  | .bl b => some (.bool b)
  | .int i => some (.int i)
  | .str x => some (.str x)
  | .tup l => (toPys l).map .tuple
  | .lst l => (toPys l).map .list
  | .lsk l => (toPys l).map .list
  | .obj _ => none
  | .exc _ => none
def toPys : List Dt → Option (List PyData)
  | [] => some []
  | d :: ds => match toPy d, toPys ds with
    | some a, some b => some (a :: b)
    | _, _ => none
end
def toPyS (s : Sto) (d : Dt) : Option PyData := match d with
  | .obj i => match s[i]? with
    | some (.lst l) => (toPys l).map .list
    | _ => none
  | d => toPy d
section
variable {Γ : Wd} {ρ : List Addr} {F H : Hp} {s : Sto}
mutual
theorem Den.dp (g : ∀ a o, F a = some o → H a = some o) : ∀ (d : Dt) (v : V) (p : PyData), Den Γ ρ F d v → toPy d = some p → Dp Γ.K H v p ∧ p.canLay0 = true
  | .non, v, p, h, e => by simp only [Den] at h; simp only [toPy, Option.some.injEq] at e; subst h; subst e; exact ⟨.non, rfl⟩
  | .bl b, v, p, h, e => by simp only [Den] at h; simp only [toPy, Option.some.injEq] at e; subst h; subst e; exact ⟨.bl b, rfl⟩
  | .int i, v, p, h, e => by simp only [Den] at h; simp only [toPy, Option.some.injEq] at e; subst h; subst e; exact ⟨.int i, rfl⟩
  | .str x, v, p, h, e => by
    simp only [Den] at h; simp only [toPy, Option.some.injEq] at e
    obtain ⟨h, k⟩ := h
    subst h; subst e
    unfold sok at k
    simp only [Bool.and_eq_true] at k
    exact ⟨.str x, k.1⟩
  | .tup l, v, p, h, e => by
    simp only [Den] at h; simp only [toPy, Option.map_eq_some_iff] at e
    obtain ⟨z, a, xs, e1, q, t⟩ := h
    obtain ⟨ps, e2, e3⟩ := e
    subst e1; subst e3
    obtain ⟨r1, r2⟩ := Dens.dp g l xs ps t e2
    exact ⟨.tup (sqT_sub g q) r1, r2⟩
  | .lst l, v, p, h, e => by
    simp only [Den] at h; simp only [toPy, Option.map_eq_some_iff] at e
    obtain ⟨z, a, xs, e1, q, t⟩ := h
    obtain ⟨ps, e2, e3⟩ := e
    subst e1; subst e3
    obtain ⟨r1, r2⟩ := Dens.dp g l xs ps t e2
    exact ⟨.lst (SqL.of (g _ _ q)) r1, r2⟩
  | .lsk l, v, p, h, e => by
    simp only [Den] at h; simp only [toPy, Option.map_eq_some_iff] at e
    obtain ⟨z, a, xs, e1, q, t⟩ := h
    obtain ⟨ps, e2, e3⟩ := e
    subst e1; subst e3
    obtain ⟨r1, r2⟩ := Dens.dp g l xs ps t e2
    exact ⟨.lst (sqL_sub g q) r1, r2⟩
  | .obj _, v, p, h, e => by simp [toPy] at e
  | .exc _, v, p, h, e => by simp [toPy] at e
theorem Dens.dp (g : ∀ a o, F a = some o → H a = some o) : ∀ (d : List Dt) (v : List V) (p : List PyData), Dens Γ ρ F d v → toPys d = some p → DpAll Γ.K H v p ∧ PyData.canLayAll0 p = true
  | [], v, p, h, e => by
    simp only [Dens] at h; simp only [toPys, Option.some.injEq] at e
    subst h; subst e
    exact ⟨.nil, rfl⟩
  | d :: ds, v, p, h, e => by
    simp only [Dens] at h; simp only [toPys] at e
    obtain ⟨w, r, e1, q, t⟩ := h
    subst e1
    split at e
    · rename_i a b ha hb
      cases e
      obtain ⟨r1, r2⟩ := Den.dp g d w a q ha
      obtain ⟨r3, r4⟩ := Dens.dp g ds r b t hb
      exact ⟨.cons r1 r3, by simp only [PyData.canLayAll0, r2, r4, Bool.and_self]⟩
    · cases e
end
theorem G.dp (g : G Γ ρ F s H) {d : Dt} {v : V} {p : PyData} (h : Den Γ ρ F d v) (e : toPyS s d = some p) : Dp Γ.K H v p ∧ p.canLay0 = true := by
  cases d with
  | obj i =>
    simp only [Den] at h
    obtain ⟨a, e1, q⟩ := h
    simp only [toPyS] at e
    split at e
    · rename_i l hs
      simp only [Option.map_eq_some_iff] at e
      obtain ⟨ps, e2, e3⟩ := e
      subst e3; subst e1
      obtain ⟨z, xs, hx, t⟩ := g.at_ i a _ q hs
      obtain ⟨r1, r2⟩ := Dens.dp g.sub l xs ps t e2
      exact ⟨.lst (SqL.of hx) r1, r2⟩
    · cases e
  | _ => exact Den.dp g.sub _ v p h e
end
theorem shaped_of {p : PyData} (h1 : p.canLay0 = true) (h2 : p.depth ≤ 64) : SeqAt.shaped p = true := by
  unfold SeqAt.shaped
  rw [h1, Bool.true_and]
  exact decide_eq_true h2
def dEqB (s : Sto) (x y : Dt) : Option Bool := match toPyS s x, toPyS s y with
  | some a, some b => if a.depth ≤ 64 ∧ b.depth ≤ 64 then some (PyData.eqv a b) else none
  | _, _ => none
def ofO (s : Sto) : Option Dt → Out Dt
  | some d => .ok d s
  | none => .bad
def dEq (x y : Dt) (s : Sto) : Out Dt := ofO s ((dEqB s x y).map .bl)
def dNe (x y : Dt) (s : Sto) : Out Dt := ofO s ((dEqB s x y).map fun b => .bl (!b))
theorem dEqB_of {Γ : Wd} {ρ : List Addr} {F H : Hp} {s : Sto} (g : G Γ ρ F s H) {x y : Dt} {u v : V} {c : Bool} (hx : Den Γ ρ F x u) (hy : Den Γ ρ F y v) (e : dEqB s x y = some c) :
    ∃ a b, Dp Γ.K H u a ∧ Dp Γ.K H v b ∧ SeqAt.shaped a = true ∧ SeqAt.shaped b = true ∧ c = PyData.eqv a b := by
  unfold dEqB at e
  split at e
  · rename_i a b ha hb
    split at e
    · rename_i hd
      cases e
      obtain ⟨r1, r2⟩ := g.dp hx ha
      obtain ⟨r3, r4⟩ := g.dp hy hb
      exact ⟨a, b, r1, r3, shaped_of r2 hd.1, shaped_of r4 hd.2, rfl⟩
    · cases e
  · cases e
section
variable {J : Cn} {X : Cx} {W : WX} {a b c e : Expr} {es : List Expr} {fa fb fc : Ex} {fs : List Ex} {ft fu : Tx} {pos : Pos}
theorem Po.ofO {Γ : Wd} {ρ : List Addr} {F H : Hp} {Q : VK} {E : Value → Hp → Prop} {s : Sto} {o : Option Dt} (h : EPo Γ ρ F H Q E (ofO s o)) : ∃ d, o = some d ∧ EPo Γ ρ F H Q E (.ok d s) := by
  cases o with
  | none => exact False.elim h
  | some d => exact ⟨d, rfl, h⟩
theorem c_eq (hu : X.A.units + 64 < cLine) : CmpOk J X .Eq dEq := ⟨_, op_eqD hu, fun ρ F s H x y dx dy Q E g rx ry k => by
  obtain ⟨d, e, k⟩ := k.ofO
  obtain ⟨c, e1, e2⟩ := Option.map_eq_some_iff.mp e
  subst e2
  obtain ⟨p, q, r1, r2, s1, s2, e3⟩ := dEqB_of g rx ry e1
  refine ⟨p, q, r1, r2, s1, s2, ?_⟩
  rw [← e3]
  exact k ρ F H _ LE.refl g (by simp only [Den])⟩
theorem c_ne (hu : X.A.units + 64 < cLine) : CmpOk J X .NotEq dNe := ⟨_, op_neD hu, fun ρ F s H x y dx dy Q E g rx ry k => by
  obtain ⟨d, e, k⟩ := k.ofO
  obtain ⟨c, e1, e2⟩ := Option.map_eq_some_iff.mp e
  subst e2
  obtain ⟨p, q, r1, r2, s1, s2, e3⟩ := dEqB_of g rx ry e1
  refine ⟨p, q, r1, r2, s1, s2, ?_⟩
  rw [← e3]
  exact k ρ F H _ LE.refl g (by simp only [Den])⟩
/-! truth -/
def truD (s : Sto) : Dt → Option Bool
  | .non => some false
  | .bl b => some b
  | .int i => some (i != 0)
  | .str x => some ((x.length : Int) != 0)
  | .tup l => some (!l.isEmpty)
  | .lst l => some (!l.isEmpty)
  | .lsk l => some (!l.isEmpty)
  | .obj i => match s[i]? with
    | some (.lst l) => some (!l.isEmpty)
    | some (.dic kvs) => some (!kvs.isEmpty)
    | _ => none
  | .exc _ => none
theorem Dens.isEmpty {Γ : Wd} {ρ : List Addr} {F : Hp} {l : List Dt} {xs : List V} (h : Dens Γ ρ F l xs) : xs.isEmpty = l.isEmpty := by
  have e := h.length
  cases l <;> cases xs <;> simp_all
theorem DenK.length {κ : Type} {Γ : Wd} {ρ : List Addr} {F : Hp} : ∀ {l : List (κ × Dt)} {xs : List (κ × V)}, DenK Γ ρ F l xs → l.length = xs.length
  | [], xs, h => by rw [show xs = [] from h]; rfl
  | (k, d) :: l, xs, h => by
    obtain ⟨v, r, e, q, t⟩ := h
    rw [e, List.length_cons, List.length_cons, DenK.length t]
theorem DenK.isEmpty {κ : Type} {Γ : Wd} {ρ : List Addr} {F : Hp} {l : List (κ × Dt)} {xs : List (κ × V)} (h : DenK Γ ρ F l xs) : xs.isEmpty = l.isEmpty := by
  have e := h.length
  cases l <;> cases xs <;> simp_all
theorem sok_len {x : Str} (h : sok x = true) : x.length ≤ sizeLine := by
  unfold sok at h
  simp only [Bool.and_eq_true, decide_eq_true_eq] at h
  rw [sizeLine_eq]
  omega
theorem G.tru {Γ : Wd} {ρ : List Addr} {F H : Hp} {s : Sto} (g : G Γ ρ F s H) {d : Dt} {v : V} {k : Bool} (h : Den Γ ρ F d v) (e : truD s d = some k) : TruV Γ.K v H k := by
  cases d with
  | non => simp only [Den] at h; simp only [truD, Option.some.injEq] at e; subst h; subst e; exact rfl
  | bl b => simp only [Den] at h; simp only [truD, Option.some.injEq] at e; subst h; subst e; exact rfl
  | int i => simp only [Den] at h; simp only [truD, Option.some.injEq] at e; subst h; subst e; exact rfl
  | str x =>
    simp only [Den] at h; simp only [truD, Option.some.injEq] at e
    obtain ⟨h, hk⟩ := h
    subst h; subst e
    exact ⟨sok_len hk, rfl⟩
  | tup l =>
    simp only [truD, Option.some.injEq] at e; subst e
    obtain ⟨a, xs, e1, q, t, _⟩ := g.sqT h (l := l) rfl
    subst e1
    exact .inr (.inl ⟨xs, q, by rw [t.isEmpty]⟩)
  | lst l =>
    simp only [truD, Option.some.injEq] at e; subst e
    obtain ⟨a, xs, e1, q, t, _⟩ := g.sqL h (l := l) rfl
    subst e1
    exact .inl ⟨xs, q, by rw [t.isEmpty]⟩
  | lsk l =>
    simp only [truD, Option.some.injEq] at e; subst e
    obtain ⟨a, xs, e1, q, t, _⟩ := g.sqL h (l := l) rfl
    subst e1
    exact .inl ⟨xs, q, by rw [t.isEmpty]⟩
  | obj i =>
    simp only [Den] at h
    obtain ⟨a, e1, q⟩ := h
    subst e1
    simp only [truD] at e
    split at e
    · rename_i l hs
      cases e
      obtain ⟨z, xs, hx, t⟩ := g.at_ i a _ q hs
      exact .inl ⟨xs, SqL.of hx, by rw [t.isEmpty]⟩
    · rename_i l hs
      cases e
      obtain ⟨z, xs, hx, t⟩ := g.at_ i a _ q hs
      exact .inr (.inr ⟨xs, hx, by rw [t.isEmpty]⟩)
    · cases e
  | exc c => simp [truD] at e
def ofB (s : Sto) : Option Bool → Out Bool
  | some d => .ok d s
  | none => .bad
def tTru (f : Ex) : Tx := fun env => bnd (f env) fun d s => ofB s (truD s d)
theorem ts_tru (ha : ES J X W a fa) (he : ∀ whole, isTrue a X.env whole = (do let v ← whole; standAt a.pos; holding [v] (truthy v)) := by intro _; rfl) : TSo J X W a (tTru fa) :=
  PT.imp (pt_truth ha he) fun σ H Q ⟨env, ρ, F, s, g, l, k⟩ => ⟨env, ρ, F, s, g, l, Po.bind k fun x s1 ρ1 F1 H1 v e1 l1 g1 r1 k1 => by
    cases e : truD s1 x with
    | none => rw [e] at k1; exact False.elim k1
    | some b => rw [e] at k1; exact ⟨b, g1.tru r1 e, k1 ρ1 F1 H1 b LE.refl g1 rfl⟩⟩
def tBl (f : Ex) : Tx := fun env => bnd (f env) fun d s => match d with
  | .bl b => .ok b s
  | _ => .bad
/-- a value that is a truth, as a test, by a rule of its own -/
theorem tT_bl {Γ : Wd} {σ : St} {H : Hp} {Q : Bool → Hp → Prop} (h : tT Γ W (tBl fa) σ H Q) : tE Γ W fa σ H fun x H' => ∃ k, x = .bl k ∧ Q k H' := by
  obtain ⟨env, ρ, F, s, g, l, k⟩ := h
  refine ⟨env, ρ, F, s, g, l, Po.bind k fun x s1 ρ1 F1 H1 v e1 l1 g1 r1 k1 => ?_⟩
  cases x with
  | bl b => simp only [Den] at r1; exact ⟨b, r1, k1 ρ1 F1 H1 b LE.refl g1 rfl⟩
  | _ => exact False.elim k1
theorem ts_cmp {op : CmpOp} {f : Dt → Dt → Sto → Out Dt} (h : CmpOk J X op f) (ha : ES J X W a fa) (hb : ES J X W b fb) (hm : behindInMarks op b = false := by rfl) : TSo J X W (.Compare a [op] [b] pos) (tBl (eOp f fa fb)) := by
  obtain ⟨r, hr, ho⟩ := h
  exact PT.imp (pt_cmpR hr ha hb hm) fun σ H Q h => tE_op (Q := fun x H' => ∃ k, x = .bl k ∧ Q k H') ho (tT_bl h)
theorem ts_isN {j pos'} (ha : ES J X W a fa) : TSo J X W (.Compare a [.Is] [.Constant .none j pos'] pos) (tBl (eUn dIsN fa)) :=
  PT.imp (pt_cmp (pc_isN ha) (nobehind _ (by decide) (by decide))) fun σ H Q h => by
    obtain ⟨env, ρ, F, s, g, l, k⟩ := tT_bl h
    exact ⟨env, ρ, F, s, g, l, Po.bind k fun x s1 ρ1 F1 H1 v e1 l1 g1 r1 k1 => by
      rw [r1.isNon]
      exact k1 ρ1 F1 H1 _ LE.refl g1 (by simp only [Den])⟩
theorem ts_notN {j pos'} (ha : ES J X W a fa) : TSo J X W (.Compare a [.IsNot] [.Constant .none j pos'] pos) (tBl (eUn dNotN fa)) :=
  PT.imp (pt_cmp (pc_notN ha) (nobehind _ (by decide) (by decide))) fun σ H Q h => by
    obtain ⟨env, ρ, F, s, g, l, k⟩ := tT_bl h
    exact ⟨env, ρ, F, s, g, l, Po.bind k fun x s1 ρ1 F1 H1 v e1 l1 g1 r1 k1 => by
      rw [r1.isNon]
      exact k1 ρ1 F1 H1 _ LE.refl g1 (by simp only [Den])⟩
def tAnd (ft fu : Tx) : Tx := fun env => bnd (ft env) fun c s => if c = true then fu env s else .ok false s
def tOr (ft fu : Tx) : Tx := fun env => bnd (ft env) fun c s => if c = true then .ok true s else fu env s
def tNot (ft : Tx) : Tx := fun env => bnd (ft env) fun c s => .ok (!c) s
theorem ws_and1 (ha : TSo J X W a ft) : WSo J X W (.BoolOp .And [a] pos) ft := pw_and1 ha
theorem ws_or1 (ha : TSo J X W a ft) : WSo J X W (.BoolOp .Or [a] pos) ft := pw_or1 ha
theorem ws_and {rest : List Expr} (ha : TSo J X W a ft) (hb : WSo J X W (.BoolOp .And (b :: rest) pos) fu) : WSo J X W (.BoolOp .And (a :: b :: rest) pos) (tAnd ft fu) :=
  PW.imp (pw_and ha hb) fun σ H Q ⟨env, ρ, F, s, g, l, k⟩ => ⟨env, ρ, F, s, g, l, Po.bind k fun x s1 ρ1 F1 H1 v e1 l1 g1 r1 k1 => by
    subst r1
    cases x with
    | true => exact ⟨env, ρ1, F1, s1, g1, l.mono l1, k1⟩
    | false => exact k1 ρ1 F1 H1 false LE.refl g1 rfl⟩
theorem ws_or {rest : List Expr} (ha : TSo J X W a ft) (hb : WSo J X W (.BoolOp .Or (b :: rest) pos) fu) : WSo J X W (.BoolOp .Or (a :: b :: rest) pos) (tOr ft fu) :=
  PW.imp (pw_or ha hb) fun σ H Q ⟨env, ρ, F, s, g, l, k⟩ => ⟨env, ρ, F, s, g, l, Po.bind k fun x s1 ρ1 F1 H1 v e1 l1 g1 r1 k1 => by
    subst r1
    cases x with
    | true => exact k1 ρ1 F1 H1 true LE.refl g1 rfl
    | false => exact ⟨env, ρ1, F1, s1, g1, l.mono l1, k1⟩⟩
theorem ts_w (h : WSo J X W e ft) : TSo J X W e ft := h.pt
theorem ts_not (ha : TSo J X W a ft) : TSo J X W (.UnaryOp .Not a pos) (tNot ft) :=
  PT.imp (pt_not ha) fun σ H Q ⟨env, ρ, F, s, g, l, k⟩ => ⟨env, ρ, F, s, g, l, Po.bind k fun x s1 ρ1 F1 H1 v e1 l1 g1 r1 k1 => by
    subst r1
    exact k1 ρ1 F1 H1 _ LE.refl g1 rfl⟩
/-! and, or, not as values -/
def eAnd (fa fb : Ex) : Ex := fun env => bnd (fa env) fun d s => match truD s d with
  | some true => fb env s
  | some false => .ok d s
  | none => .bad
def eOr (fa fb : Ex) : Ex := fun env => bnd (fa env) fun d s => match truD s d with
  | some true => .ok d s
  | some false => fb env s
  | none => .bad
def eNot (fa : Ex) : Ex := fun env => bnd (fa env) fun d s => ofO s ((truD s d).map fun b => .bl (!b))
theorem es_one {op} (h : ES J X W a fa) : ES J X W (.BoolOp op [a] pos) fa := pe_one h
theorem es_and {rest : List Expr} (ha : ES J X W a fa) (hb : ES J X W (.BoolOp .And (b :: rest) pos) fb) : ES J X W (.BoolOp .And (a :: b :: rest) pos) (eAnd fa fb) :=
  PE.imp (pe_andT ha hb) fun σ H Q ⟨env, ρ, F, s, g, l, k⟩ => ⟨env, ρ, F, s, g, l, Po.bind k fun x s1 ρ1 F1 H1 v e1 l1 g1 r1 k1 => by
    cases e : truD s1 x with
    | none => rw [e] at k1; exact False.elim k1
    | some b =>
      rw [e] at k1
      refine ⟨b, g1.tru r1 e, ?_⟩
      cases b with
      | true => exact ⟨env, ρ1, F1, s1, g1, l.mono l1, k1⟩
      | false => exact k1 ρ1 F1 H1 v LE.refl g1 r1⟩
theorem es_or {rest : List Expr} (ha : ES J X W a fa) (hb : ES J X W (.BoolOp .Or (b :: rest) pos) fb) : ES J X W (.BoolOp .Or (a :: b :: rest) pos) (eOr fa fb) :=
  PE.imp (pe_orT ha hb) fun σ H Q ⟨env, ρ, F, s, g, l, k⟩ => ⟨env, ρ, F, s, g, l, Po.bind k fun x s1 ρ1 F1 H1 v e1 l1 g1 r1 k1 => by
    cases e : truD s1 x with
    | none => rw [e] at k1; exact False.elim k1
    | some b =>
      rw [e] at k1
      refine ⟨b, g1.tru r1 e, ?_⟩
      cases b with
      | true => exact k1 ρ1 F1 H1 v LE.refl g1 r1
      | false => exact ⟨env, ρ1, F1, s1, g1, l.mono l1, k1⟩⟩
theorem es_not (ha : ES J X W a fa) : ES J X W (.UnaryOp .Not a pos) (eNot fa) :=
  PE.imp (pe_notT ha) fun σ H Q ⟨env, ρ, F, s, g, l, k⟩ => ⟨env, ρ, F, s, g, l, Po.bind k fun x s1 ρ1 F1 H1 v e1 l1 g1 r1 k1 => by
    obtain ⟨d, e, k1⟩ := Po.ofO k1
    obtain ⟨b, e2, e3⟩ := Option.map_eq_some_iff.mp e
    subst e3
    exact ⟨b, g1.tru r1 e2, k1 ρ1 F1 H1 _ LE.refl g1 (by simp only [Den])⟩⟩
def eIf (ft : Tx) (fa fb : Ex) : Ex := fun env => bnd (ft env) fun c s => if c = true then fa env s else fb env s
theorem es_if (hc : TSo J X W c ft) (ha : ES J X W a fa) (hb : ES J X W b fb) : ES J X W (.IfExp c a b pos) (eIf ft fa fb) :=
  PE.imp (pe_ifExp hc ha hb) fun σ H Q ⟨env, ρ, F, s, g, l, k⟩ => ⟨env, ρ, F, s, g, l, Po.bind k fun x s1 ρ1 F1 H1 v e1 l1 g1 r1 k1 => by
    subst r1
    cases x with
    | true => exact ⟨env, ρ1, F1, s1, g1, l.mono l1, k1⟩
    | false => exact ⟨env, ρ1, F1, s1, g1, l.mono l1, k1⟩⟩
/-- a op b op' c -/
def eChain (op op' : Dt → Dt → Sto → Out Dt) (fa fb fc : Ex) : Ex := fun env => bnd (fa env) fun x => bnd (fb env) fun y => bnd (op x y) fun z s => match z with
  | .bl true => bnd (fc env) (fun w => op' y w) s
  | .bl false => .ok (.bl false) s
  | _ => .bad
theorem tE_chain {Γ : Wd} {r r' : R2} {op op' : Dt → Dt → Sto → Out Dt} (ho : OpS Γ r op) (ho' : OpS Γ r' op') {σ : St} {H : Hp} {Q : VK} (h : tE Γ W (eChain op op' fa fb fc) σ H Q) : tChain r r' (tE Γ W fa) (tE Γ W fb) (tE Γ W fc) σ H Q := by
  obtain ⟨env, ρ, F, s, g, l, k⟩ := h
  refine ⟨env, ρ, F, s, g, l, Po.bind k fun x s1 ρ1 F1 H1 v e1 l1 g1 r1 k1 => ?_⟩
  refine ⟨env, ρ1, F1, s1, g1, l.mono l1, Po.bind k1 fun y s2 ρ2 F2 H2 u e2 l2 g2 r2 k2 => ?_⟩
  refine ho ρ2 F2 s2 H2 v u x y _ _ g2 (Den.mono l2 _ _ r1) r2 (Po.bind k2 fun z s3 ρ3 F3 H3 t e3 l3 g3 r3 k3 => ?_)
  cases z with
  | bl b =>
    simp only [Den] at r3
    refine ⟨b, r3, ?_⟩
    cases b with
    | true =>
      refine ⟨env, ρ3, F3, s3, g3, (l.mono l1).mono (l2.trans l3), Po.bind k3 fun w s4 ρ4 F4 H4 q e4 l4 g4 r4 k4 => ?_⟩
      exact ho' ρ4 F4 s4 H4 u q y w Q _ g4 (Den.mono (l3.trans l4) _ _ r2) r4 k4
    | false => exact k3 ρ3 F3 H3 _ LE.refl g3 (by simp only [Den])
  | _ => exact False.elim k3
theorem last_no {op op' : CmpOp} {b c : Expr} (h : op' ≠ .In) (h2 : op' ≠ .NotIn) : lastMarks [op, op'] [b, c] = false := nobehind c h h2
theorem es_leLt (ha : ES J X W a fa) (hb : ES J X W b fb) (hc : ES J X W c fc) : ES J X W (.Compare a [.LtE, .Lt] [b, c] pos) (eChain dLe dLt fa fb fc) := PE.imp (pe_chain op_le op_lt ha hb hc (last_no (by decide) (by decide))) fun _ _ _ h => tE_chain (iOp_all fun _ _ _ _ => by simp only [Den]) (iOp_all fun _ _ _ _ => by simp only [Den]) h
theorem es_leLe (ha : ES J X W a fa) (hb : ES J X W b fb) (hc : ES J X W c fc) : ES J X W (.Compare a [.LtE, .LtE] [b, c] pos) (eChain dLe dLe fa fb fc) := PE.imp (pe_chain op_le op_le ha hb hc (last_no (by decide) (by decide))) fun _ _ _ h => tE_chain (iOp_all fun _ _ _ _ => by simp only [Den]) (iOp_all fun _ _ _ _ => by simp only [Den]) h
theorem es_ltLt (ha : ES J X W a fa) (hb : ES J X W b fb) (hc : ES J X W c fc) : ES J X W (.Compare a [.Lt, .Lt] [b, c] pos) (eChain dLt dLt fa fb fc) := PE.imp (pe_chain op_lt op_lt ha hb hc (last_no (by decide) (by decide))) fun _ _ _ h => tE_chain (iOp_all fun _ _ _ _ => by simp only [Den]) (iOp_all fun _ _ _ _ => by simp only [Den]) h
theorem es_ltLe (ha : ES J X W a fa) (hb : ES J X W b fb) (hc : ES J X W c fc) : ES J X W (.Compare a [.Lt, .LtE] [b, c] pos) (eChain dLt dLe fa fb fc) := PE.imp (pe_chain op_lt op_le ha hb hc (last_no (by decide) (by decide))) fun _ _ _ h => tE_chain (iOp_all fun _ _ _ _ => by simp only [Den]) (iOp_all fun _ _ _ _ => by simp only [Den]) h
theorem ts_leLt (ha : ES J X W a fa) (hb : ES J X W b fb) (hc : ES J X W c fc) : TSo J X W (.Compare a [.LtE, .Lt] [b, c] pos) (tBl (eChain dLe dLt fa fb fc)) := PT.imp (pt_chain op_le op_lt ha hb hc (last_no (by decide) (by decide))) fun _ _ _ h => tE_chain (iOp_all fun _ _ _ _ => by simp only [Den]) (iOp_all fun _ _ _ _ => by simp only [Den]) (tT_bl h)
theorem ts_leLe (ha : ES J X W a fa) (hb : ES J X W b fb) (hc : ES J X W c fc) : TSo J X W (.Compare a [.LtE, .LtE] [b, c] pos) (tBl (eChain dLe dLe fa fb fc)) := PT.imp (pt_chain op_le op_le ha hb hc (last_no (by decide) (by decide))) fun _ _ _ h => tE_chain (iOp_all fun _ _ _ _ => by simp only [Den]) (iOp_all fun _ _ _ _ => by simp only [Den]) (tT_bl h)
theorem ts_ltLt (ha : ES J X W a fa) (hb : ES J X W b fb) (hc : ES J X W c fc) : TSo J X W (.Compare a [.Lt, .Lt] [b, c] pos) (tBl (eChain dLt dLt fa fb fc)) := PT.imp (pt_chain op_lt op_lt ha hb hc (last_no (by decide) (by decide))) fun _ _ _ h => tE_chain (iOp_all fun _ _ _ _ => by simp only [Den]) (iOp_all fun _ _ _ _ => by simp only [Den]) (tT_bl h)
theorem ts_ltLe (ha : ES J X W a fa) (hb : ES J X W b fb) (hc : ES J X W c fc) : TSo J X W (.Compare a [.Lt, .LtE] [b, c] pos) (tBl (eChain dLt dLe fa fb fc)) := PT.imp (pt_chain op_lt op_le ha hb hc (last_no (by decide) (by decide))) fun _ _ _ h => tE_chain (iOp_all fun _ _ _ _ => by simp only [Den]) (iOp_all fun _ _ _ _ => by simp only [Den]) (tT_bl h)
end
end Pd
namespace Pd
open PySem L2
/-! ### flat things -/
def flatD : Dt → Bool
  | .non => true
  | .bl _ => true
  | .int _ => true
  | .str _ => true
  | _ => false
def feq : Dt → Dt → Bool
  | .non, .non => true
  | .bl a, .bl b => a == b
  | .bl a, .int b => (if a then 1 else 0) == b
  | .int a, .bl b => a == (if b then 1 else 0)
  | .int a, .int b => a == b
  | .str a, .str b => a == b
  | _, _ => false
def toVd : Dt → V
  | .bl b => .bl b
  | .int i => .int i
  | .str x => .str x
  | _ => .non
theorem eqV_toVd {d e : Dt} (h : flatD d = true) (k : flatD e = true) : eqV (toVd d) (toVd e) = feq d e := by
  cases d <;> cases e <;> first | rfl | exact Bool.noConfusion h | exact Bool.noConfusion k
theorem flatV_toVd (d : Dt) : flatV (toVd d) = true := by cases d <;> rfl
section
variable {Γ : Wd} {ρ : List Addr} {F H : Hp} {s : Sto}
theorem Den.flat {d : Dt} {v : V} (h : Den Γ ρ F d v) (k : flatD d = true) : v = toVd d := by
  cases d with
  | non => simp only [Den] at h; exact h
  | bl b => simp only [Den] at h; exact h
  | int i => simp only [Den] at h; exact h
  | str x => simp only [Den] at h; exact h.1
  | _ => simp [flatD] at k
theorem Dens.flat : ∀ {ds : List Dt} {vs : List V}, Dens Γ ρ F ds vs → ds.all flatD = true → vs = ds.map toVd
  | [], vs, h, k => by simp only [Dens] at h; exact h
  | d :: ds, vs, h, k => by
    simp only [Dens] at h
    obtain ⟨v, r, e, q, t⟩ := h
    simp only [List.all_cons, Bool.and_eq_true] at k
    rw [e, List.map_cons, q.flat k.1, Dens.flat t k.2]
end
theorem any_toVd {x : Dt} (hx : flatD x = true) : ∀ {ds : List Dt}, ds.all flatD = true → inV (toVd x) (ds.map toVd) = ds.any fun e => feq e x
  | [], _ => rfl
  | d :: ds, k => by
    simp only [List.all_cons, Bool.and_eq_true] at k
    have ih := any_toVd hx k.2
    unfold inV at ih ⊢
    rw [List.map_cons, List.any_cons, List.any_cons, ih, eqV_toVd k.1 hx]
theorem all_flat_map : ∀ ds : List Dt, (ds.map toVd).all flatV = true
  | [] => rfl
  | d :: ds => by rw [List.map_cons, List.all_cons, flatV_toVd, all_flat_map ds]; rfl
/-- x in y -/
def inB (s : Sto) (x y : Dt) : Option Bool := match y with
  | .str z => match x with
    | .str w => match w.cps.toList with
      | [c] => some (decide (c ∈ z.cps.toList))
      | _ => none
    | _ => none
  | _ => match asQ s y with
    | some l => if flatD x && l.all flatD then some (l.any fun e => feq e x) else match toPyS s x, toPyS s y with
      | some d, some (.list ds) => if d.depth ≤ 64 ∧ (PyData.list ds).depth ≤ 64 then some (ds.any fun z => PyData.eqv z d) else none
      | _, _ => none
    | none => none
theorem str_one {w : Str} {c : Nat} (h : w.cps.toList = [c]) : w = ⟨#[c]⟩ := by
  cases w with
  | mk a =>
    have e : a = #[c] := by apply Array.toList_inj.mp; simpa using h
    rw [e]
def rInAll (K : PySem.W.Frag) (f : Bool → Bool) : R2 := fun x y H Q =>
  (∃ (c : Nat) (z : Str), x = .str ⟨#[c]⟩ ∧ y = .str z ∧ Q (.bl (f (decide (c ∈ z.cps.toList)))) H) ∨
  ((∃ p xs, y = .ref p ∧ (SqL K H p xs ∨ SqT K H p xs) ∧ flatV x = true ∧ xs.all flatV = true ∧ Q (.bl (f (inV x xs))) H) ∨
  ∃ d ds, Dp K H x d ∧ Dp K H y (.list ds) ∧ SeqAt.shaped d = true ∧ SeqAt.shaped (.list ds) = true ∧ Q (.bl (f (ds.any fun z => PyData.eqv z d))) H)
theorem inB_of {Γ : Wd} {f : Bool → Bool} : OpS Γ (rInAll Γ.K f) (fun x y s => ofO s ((inB s x y).map fun b => .bl (f b))) := by
  intro ρ F s H x y dx dy Q E g rx ry k
  obtain ⟨d, e, k⟩ := Po.ofO k
  obtain ⟨b, e1, e2⟩ := Option.map_eq_some_iff.mp e
  subst e2
  have fin : Q (.bl (f b)) H := k ρ F H _ LE.refl g (by simp only [Den])
  clear k e
  unfold inB at e1
  split at e1
  · rename_i z
    split at e1
    · rename_i w
      split at e1
      · rename_i c hc
        cases e1
        simp only [Den] at rx ry
        exact .inl ⟨c, z, by rw [rx.1, str_one hc], ry.1, fin⟩
      · cases e1
    · cases e1
  · split at e1
    · rename_i l hl
      split at e1
      · rename_i hf
        cases e1
        simp only [Bool.and_eq_true] at hf
        obtain ⟨a, xs, e3, q, t, _⟩ := g.sqQ ry hl
        have e4 := t.flat hf.2
        subst e4
        rw [← any_toVd hf.1 hf.2, ← rx.flat hf.1] at fin
        exact .inr (.inl ⟨a, _, e3, q, by rw [rx.flat hf.1]; exact flatV_toVd _, all_flat_map _, fin⟩)
      · split at e1
        · rename_i d' ds hd hds
          split at e1
          · rename_i hz
            cases e1
            obtain ⟨r1, r2⟩ := g.dp rx hd
            obtain ⟨r3, r4⟩ := g.dp ry hds
            exact .inr (.inr ⟨d', ds, r1, r3, shaped_of r2 hz.1, shaped_of r4 hz.2, fin⟩)
          · cases e1
        · cases e1
    · cases e1
def dIn (x y : Dt) (s : Sto) : Out Dt := ofO s ((inB s x y).map fun b => .bl b)
def dNotIn (x y : Dt) (s : Sto) : Out Dt := ofO s ((inB s x y).map fun b => .bl (!b))
section
variable {J : Cn} {X : Cx} {W : WX} {a b c e : Expr} {es : List Expr} {fa fb fc : Ex} {fs : List Ex} {ft fu : Tx} {pos : Pos}
theorem c_in (hu : X.A.units + 65 < cLine) : CmpOk J X .In dIn :=
  ⟨_, OpR.or op_in_sign (OpR.or op_in_seq (op_inD hu)), fun ρ F s H x y dx dy Q E g rx ry k => inB_of (f := fun b => b) ρ F s H x y dx dy Q E g rx ry k⟩
theorem c_notIn (hu : X.A.units + 65 < cLine) : CmpOk J X .NotIn dNotIn :=
  ⟨_, OpR.or op_notIn_sign (OpR.or op_notIn_seq (op_notInD hu)), fun ρ F s H x y dx dy Q E g rx ry k => inB_of (f := fun b => !b) ρ F s H x y dx dy Q E g rx ry k⟩
/-! ### displays -/
theorem evs_len : ∀ {fs : List Ex} {env : En} {s s' : Sto} {ds : List Dt}, evs fs env s = .ok ds s' → ds.length = fs.length
  | [], env, s, s', ds, h => by simp only [evs, Out.ok.injEq] at h; rw [← h.1]; rfl
  | f :: fs, env, s, s', ds, h => by
    simp only [evs, bnd] at h
    cases e1 : f env s with
    | ok d s1 =>
      rw [e1] at h
      simp only [] at h
      cases e2 : evs fs env s1 with
      | ok ds' s2 =>
        rw [e2] at h
        simp only [Out.ok.injEq] at h
        rw [← h.1, List.length_cons, List.length_cons, evs_len e2]
      | exc c s2 => rw [e2] at h; cases h
      | bad => rw [e2] at h; cases h
    | exc c s1 => rw [e1] at h; cases h
    | bad => rw [e1] at h; cases h
theorem as_nil : ASo J X W [] [] := PA.imp pa_nil fun σ H Q ⟨env, ρ, F, s, g, l, k⟩ => k ρ F H [] LE.refl g (by simp only [Dens])
theorem as_cons (ha : ES J X W e fa) (hr : ASo J X W es fs) (hs : starEach (e :: es) X.env = (false, eval e X.env) :: starEach es X.env := by rfl) : ASo J X W (e :: es) (fa :: fs) :=
  PA.imp (pa_cons ha hr hs) fun σ H Q ⟨env, ρ, F, s, g, l, k⟩ => ⟨env, ρ, F, s, g, l, Po.bind k fun x s1 ρ1 F1 H1 v e1 l1 g1 r1 k1 =>
    ⟨env, ρ1, F1, s1, g1, l.mono l1, Po.bind k1 fun xs s2 ρ2 F2 H2 vs e2 l2 g2 r2 k2 => k2 ρ2 F2 H2 _ LE.refl g2 (by simp only [Dens]; exact ⟨v, vs, rfl, Den.mono l2 _ _ r1, r2⟩)⟩⟩
def eTup (fs : List Ex) : Ex := fun env => bnd (evs fs env) fun ds s => .ok (.tup ds) s
theorem new_tup {Γ : Wd} {ρ : List Addr} {F H : Hp} {s : Sto} {ds : List Dt} {xs : List V} {p : Addr} {Q : VK} {E : Value → Hp → Prop} (g : G Γ ρ F s H) (t : Dens Γ ρ F ds xs) (hz : ds.length ≤ sizeLine) (hp : H p = none) (k : EPo Γ ρ F H Q E (.ok (.tup ds) s)) : Q (.ref p) (upd H p (.tup xs)) := by
  refine k ρ _ _ _ (LE.frz g hp) (g.frz _ hp) ?_
  simp only [Den]
  exact ⟨hz, p, xs, rfl, SqT.of upd_same, Dens.monoD (LD.upd (g.fnone hp)) _ _ t⟩
theorem es_tup {x1} (h : ASo J X W es fs) (hz : fs.length ≤ sizeLine := by decide) : ES J X W (.Tuple es x1 pos) (eTup fs) :=
  PE.imp (pe_tup h) fun σ H Q ⟨env, ρ, F, s, g, l, k⟩ => ⟨env, ρ, F, s, g, l, Po.bind k fun ds s1 ρ1 F1 H1 xs e1 l1 g1 r1 k1 => by
    have hl : ds.length ≤ sizeLine := by rw [evs_len e1]; exact hz
    exact ⟨by rw [← r1.length]; exact hl, fun p hp => new_tup g1 r1 hl hp k1⟩⟩
/-- a new list: one that never changes, or one of the store -/
def nwF (ds : List Dt) (s : Sto) : Out Dt := .ok (.lst ds) s
def nwM (ds : List Dt) (s : Sto) : Out Dt := .ok (.obj s.length) (s ++ [.lst ds])
def IsNw (nw : List Dt → Sto → Out Dt) : Prop := nw = nwF ∨ nw = nwM
theorem new_lst {nw : List Dt → Sto → Out Dt} (n : IsNw nw) {Γ : Wd} {ρ : List Addr} {F H : Hp} {s : Sto} {ds : List Dt} {xs : List V} {p : Addr} {Q : VK} {E : Value → Hp → Prop} (g : G Γ ρ F s H) (t : Dens Γ ρ F ds xs) (hz : ds.length ≤ sizeLine) (hp : H p = none) (k : EPo Γ ρ F H Q E (nw ds s)) : Q (.ref p) (upd H p (.lst xs)) := by
  rcases n with n | n
  · subst n
    refine k ρ _ _ _ (LE.frz g hp) (g.frz _ hp) ?_
    simp only [Den]
    exact ⟨hz, p, xs, rfl, upd_same, Dens.monoD (LD.upd (g.fnone hp)) _ _ t⟩
  · subst n
    refine k (ρ ++ [p]) F _ _ (LE.new hp) (g.new hp ⟨hz, xs, upd_same, Dens.monoD LD.push _ _ t⟩) ?_
    simp only [Den]
    exact ⟨p, rfl, by rw [← g.len, List.getElem?_append_right (Nat.le_refl _), Nat.sub_self]; rfl⟩
theorem isF : IsNw nwF := .inl rfl
theorem isM : IsNw nwM := .inr rfl
def eLst (nw : List Dt → Sto → Out Dt) (fs : List Ex) : Ex := fun env => bnd (evs fs env) nw
theorem es_lst {nw : List Dt → Sto → Out Dt} (n : IsNw nw) (h : ASo J X W es fs) (hz : fs.length ≤ sizeLine := by decide) : ES J X W (.List es pos) (eLst nw fs) :=
  PE.imp (pe_lst h) fun σ H Q ⟨env, ρ, F, s, g, l, k⟩ => ⟨env, ρ, F, s, g, l, Po.bind k fun ds s1 ρ1 F1 H1 xs e1 l1 g1 r1 k1 => by
    have hl : ds.length ≤ sizeLine := by rw [evs_len e1]; exact hz
    exact ⟨by rw [← r1.length]; exact hl, fun p hp => new_lst n g1 r1 hl hp k1⟩⟩
/-! ### a[b] -/
theorem strOk_mem {z : Str} {c : Nat} (h : PyData.strOk z = true) (hc : c ∈ z.cps.toList) : c < 0x110000 := by
  unfold PyData.strOk at h
  rw [Array.all_eq_true'] at h
  have := h c (Array.mem_toList_iff.mp hc)
  simpa using this
theorem strOk_of {z : Str} (h : ∀ c ∈ z.cps.toList, c < 0x110000) : PyData.strOk z = true := by
  unfold PyData.strOk
  rw [Array.all_eq_true']
  intro c hc
  simpa using h c (Array.mem_toList_iff.mpr hc)
theorem sok_of {z : Str} (h : ∀ c ∈ z.cps.toList, c < 0x110000) (k : z.length ≤ 1000000) : sok z = true := by
  unfold sok
  rw [strOk_of h, Bool.true_and]
  exact decide_eq_true k
theorem sok_mem {z : Str} {c : Nat} (h : sok z = true) (hc : c ∈ z.cps.toList) : c < 0x110000 := by
  unfold sok at h
  simp only [Bool.and_eq_true] at h
  exact strOk_mem h.1 hc
theorem sok_le {z : Str} (h : sok z = true) : z.length ≤ 1000000 := by
  unfold sok at h
  simp only [Bool.and_eq_true, decide_eq_true_eq] at h
  exact h.2
/-- a text made of signs of another one, not longer -/
theorem sok_sub {z y : Str} (h : sok z = true) (k : ∀ c ∈ y.cps.toList, c ∈ z.cps.toList) (l : y.length ≤ z.length) : sok y = true :=
  sok_of (fun c hc => sok_mem h (k c hc)) (Nat.le_trans l (sok_le h))
theorem sok_sign {z : Str} {c : Nat} (h : sok z = true) (hc : c ∈ z.cps.toList) : sok ⟨#[c]⟩ = true :=
  sok_of (fun d hd => by simp at hd; subst hd; exact sok_mem h hc) (by show 1 ≤ 1000000; decide)
def dIx (x y : Dt) (s : Sto) : Out Dt := match y with
  | .int i => match x with
    | .str z => ofO s ((atI z.cps.toList i).map fun c => .str ⟨#[c]⟩)
    | x => ofO s ((asQ s x).bind fun l => atI l i)
  | _ => .bad
theorem Dens.atI {Γ : Wd} {ρ : List Addr} {F : Hp} {ds : List Dt} {xs : List V} {i : Int} {d : Dt} (t : Dens Γ ρ F ds xs) (h : L2.atI ds i = some d) : ∃ v, L2.atI xs i = some v ∧ Den Γ ρ F d v := by
  unfold L2.atI at h ⊢
  rw [← t.length]
  obtain ⟨j, e1, e2⟩ := Option.bind_eq_some_iff.mp h
  obtain ⟨v, e3, r⟩ := t.get e2
  exact ⟨v, by rw [e1]; exact e3, r⟩
theorem atI_mem {α : Type} {l : List α} {i : Int} {d : α} (h : L2.atI l i = some d) : d ∈ l := by
  obtain ⟨j, _, e, _⟩ := atI_get h
  exact List.mem_of_getElem? e
theorem dIx_ok {Γ : Wd} : OpS Γ (rIx Γ.K) dIx := by
  intro ρ F s H x y dx dy Q E g rx ry k
  cases dy with
  | int i =>
    simp only [Den] at ry
    unfold dIx at k
    have gen : ∀ l, asQ s dx = some l → EPo Γ ρ F H Q E (ofO s (L2.atI l i)) → rIx Γ.K x y H Q := fun l hl k => by
      obtain ⟨d, e, k⟩ := Po.ofO k
      obtain ⟨a, xs, e1, q, t, _⟩ := g.sqQ rx hl
      obtain ⟨v, e2, r⟩ := t.atI e
      have fin := k ρ F H v LE.refl g r
      rcases q with q | q
      · exact .inl ⟨a, xs, i, v, e1, ry, q, e2, fin⟩
      · exact .inr (.inl ⟨a, xs, i, v, e1, ry, q, e2, fin⟩)
    cases dx with
    | str z =>
      obtain ⟨d, e, k⟩ := Po.ofO k
      obtain ⟨c, e1, e2⟩ := Option.map_eq_some_iff.mp e
      subst e2
      simp only [Den] at rx
      exact .inr (.inr ⟨z, i, c, rx.1, ry, sok_len rx.2, e1, k ρ F H _ LE.refl g (by simp only [Den]; exact ⟨trivial, sok_sign rx.2 (atI_mem e1)⟩)⟩)
    | tup l => exact gen l rfl k
    | lst l => exact gen l rfl k
    | lsk l => exact gen l rfl k
    | obj j =>
      simp only [] at k
      cases e : asQ s (.obj j) with
      | none => rw [e] at k; exact False.elim k
      | some l => rw [e] at k; exact gen l e k
    | _ => exact False.elim k
  | _ => exact False.elim k
theorem es_ix (ha : ES J X W a fa) (hb : ES J X W b fb) (hs : PlainIx b := by exact fun _ _ => rfl) : ES J X W (.Subscript a b pos) (eOp dIx fa fb) :=
  PE.imp (pe_ix ix_seq ha hb hs) fun _ _ _ h => tE_op dIx_ok h
/-! ### slices -/
def evp : Option Ex → En → Sto → Out (Option Int)
  | none, _, s => .ok none s
  | some f, env, s => bnd (f env) (fun d s => match d with | .int i => .ok (some i) s | _ => .bad) s
def tP (Γ : Wd) (W : WX) (f : Option Ex) : TO := fun σ H Q => ∃ env ρ F s, G Γ ρ F s H ∧ Sl Γ ρ F env σ ∧ Po Γ (fun _ _ (a b : Option Int) => a = b) ρ F H Q (fun c H' => W c none σ H') (evp f env s)
abbrev OS (J : Cn) (X : Cx) (W : WX) (e : Option Expr) (f : Option Ex) : Prop := PO X e (tP (wd J X) W f)
theorem PO.imp {X : Cx} {e : Option Expr} {t t' : TO} (h : PO X e t) (k : ∀ σ H Q, t' σ H Q → t σ H Q) : PO X e t' := ⟨fun pins s σ H Q I q => h.run pins s σ H Q I (k σ H Q q)⟩
theorem os_none : OS J X W none none := PO.imp po_none fun σ H Q ⟨env, ρ, F, s, g, l, k⟩ => k ρ F H none LE.refl g rfl
theorem os_some (h : ES J X W e fa) : OS J X W (some e) (some fa) := PO.imp (po_some h) fun σ H Q ⟨env, ρ, F, s, g, l, k⟩ => ⟨env, ρ, F, s, g, l, Po.bind k fun x s1 ρ1 F1 H1 v e1 l1 g1 r1 k1 => by
  cases x with
  | int i => simp only [Den] at r1; exact ⟨i, r1, k1 ρ1 F1 H1 _ LE.refl g1 rfl⟩
  | _ => exact False.elim k1⟩
def cutD {α : Type} (xs : List α) (lo hi : Option Int) : List α := (xs.drop (HT.sIx xs.length 0 lo)).take (HT.sIx xs.length xs.length hi - HT.sIx xs.length 0 lo)
theorem cutD_length {α : Type} (xs : List α) (lo hi : Option Int) : (cutD xs lo hi).length ≤ xs.length := by
  unfold cutD
  rw [List.length_take, List.length_drop]
  omega
theorem Dens.cut {Γ : Wd} {ρ : List Addr} {F : Hp} {ds : List Dt} {xs : List V} (t : Dens Γ ρ F ds xs) (lo hi : Option Int) : Dens Γ ρ F (cutD ds lo hi) (cutV xs lo hi) := by
  unfold cutD cutV
  rw [← t.length]
  exact Dens.take _ (Dens.drop _ t)
theorem sok_cut {z : Str} (h : sok z = true) (lo hi : Option Int) : sok (cutS z lo hi) = true :=
  sok_sub h (fun c hc => by
    unfold cutS at hc
    exact List.mem_of_mem_drop (List.mem_of_mem_take (by simpa using hc))) (cutS_length z lo hi)
def dSl (nw : List Dt → Sto → Out Dt) (x : Dt) (lo hi : Option Int) (s : Sto) : Out Dt := match x with
  | .str z => .ok (.str (cutS z lo hi)) s
  | .tup l => .ok (.tup (cutD l lo hi)) s
  | x => match asL s x with
    | some l => nw (cutD l lo hi) s
    | none => .bad
def eSl (nw : List Dt → Sto → Out Dt) (fa : Ex) (lo hi : Option Ex) : Ex := fun env => bnd (fa env) fun x => bnd (evp lo env) fun l => bnd (evp hi env) fun u => dSl nw x l u
theorem cut_whole {α : Type} {xs : List α} {lo hi : Option Int} (h : HT.sIx xs.length 0 lo = 0 ∧ HT.sIx xs.length xs.length hi = xs.length) : cutD xs lo hi = xs := by
  unfold cutD
  rw [h.1, h.2, List.drop_zero, Nat.sub_zero, List.take_length]
theorem dSl_ok {Γ : Wd} {nw : List Dt → Sto → Out Dt} (n : IsNw nw) {ρ : List Addr} {F H : Hp} {s : Sto} {x : V} {d : Dt} {lo hi : Option Int} {Q : VK} {E : Value → Hp → Prop} (g : G Γ ρ F s H) (r : Den Γ ρ F d x) (k : EPo Γ ρ F H Q E (dSl nw d lo hi s)) :
    rSlL Γ.K x lo hi H Q ∨ rSlA Γ.K x lo hi H Q ∨ rSlS x lo hi H Q := by
  have gen : ∀ l, asL s d = some l → EPo Γ ρ F H Q E (nw (cutD l lo hi) s) → rSlL Γ.K x lo hi H Q := fun l hl k => by
    obtain ⟨a, xs, e1, q, t, z⟩ := g.sqL r hl
    exact ⟨a, xs, e1, q, fun p hp => new_lst n g (t.cut lo hi) (Nat.le_trans (cutD_length _ _ _) z) hp k⟩
  cases d with
  | str z =>
    simp only [Den] at r
    exact .inr (.inr ⟨z, r.1, sok_len r.2, k ρ F H _ LE.refl g (by simp only [Den]; exact ⟨trivial, sok_cut r.2 lo hi⟩)⟩)
  | tup l =>
    obtain ⟨a, xs, e1, q, t, z⟩ := g.sqT r (l := l) rfl
    refine .inr (.inl ⟨a, xs, e1, q, fun hw => ?_, fun _ p hp => new_tup g (t.cut lo hi) (Nat.le_trans (cutD_length _ _ _) z) hp k⟩)
    rw [← t.length] at hw
    have e : dSl nw (.tup l) lo hi s = .ok (.tup l) s := by show Out.ok (Dt.tup (cutD l lo hi)) s = _; rw [cut_whole hw]
    rw [e] at k
    exact k ρ F H _ LE.refl g (by rw [← e1]; exact r)
  | lst l => exact .inl (gen l rfl k)
  | lsk l => exact .inl (gen l rfl k)
  | obj j =>
    cases e : asL s (.obj j) with
    | none => simp only [dSl, e] at k; exact False.elim k
    | some l => simp only [dSl, e] at k; exact .inl (gen l e k)
  | _ => exact False.elim k
theorem es_sl {nw : List Dt → Sto → Out Dt} (n : IsNw nw) {lo hi : Option Expr} {fl fh : Option Ex} {p2 : Pos} (ha : ES J X W a fa) (hl : OS J X W lo fl) (hh : OS J X W hi fh) : ES J X W (.Subscript a (.Slice lo hi none p2) pos) (eSl nw fa fl fh) :=
  PE.imp (pe_slice (SlR.or sl_list (SlR.or sl_tupA sl_str)) ha hl hh) fun σ H Q ⟨env, ρ, F, s, g, l, k⟩ => ⟨env, ρ, F, s, g, l, Po.bind k fun x s1 ρ1 F1 H1 v e1 l1 g1 r1 k1 =>
    ⟨env, ρ1, F1, s1, g1, l.mono l1, Po.bind k1 fun lo s2 ρ2 F2 H2 lo' e2 l2 g2 r2 k2 =>
      ⟨env, ρ2, F2, s2, g2, l.mono (l1.trans l2), Po.bind k2 fun hi s3 ρ3 F3 H3 hi' e3 l3 g3 r3 k3 => by
        subst r2; subst r3
        exact dSl_ok n g3 (Den.mono (l2.trans l3) _ _ r1) k3⟩⟩⟩
end
end Pd
namespace Pd
open PySem L2
section
variable {J : Cn} {X : Cx} {W : WX} {a b c e e2 : Expr} {es : List Expr} {fa fb fc fe : Ex} {fs : List Ex} {ft fu : Tx} {pos p : Pos}
/-! ### built-ins by their names -/
def C1S (Γ : Wd) (r : List V → Hp → VK → Prop) (op : Dt → Sto → Out Dt) : Prop := ∀ ρ F s H x dx Q E, G Γ ρ F s H → Den Γ ρ F dx x → EPo Γ ρ F H Q E (op dx s) → r [x] H Q
def C2S (Γ : Wd) (r : List V → Hp → VK → Prop) (op : Dt → Dt → Sto → Out Dt) : Prop := ∀ ρ F s H x y dx dy Q E, G Γ ρ F s H → Den Γ ρ F dx x → Den Γ ρ F dy y → EPo Γ ρ F H Q E (op dx dy s) → r [x, y] H Q
/-- a built-in of one argument that is known -/
def B1 (J : Cn) (X : Cx) (v : Value) (op : Dt → Sto → Out Dt) : Prop := ∃ r, CallR X v r ∧ C1S (wd J X) r op
def B2 (J : Cn) (X : Cx) (v : Value) (op : Dt → Dt → Sto → Out Dt) : Prop := ∃ r, CallR X v r ∧ C2S (wd J X) r op
theorem es_b1 {x : Str} {id : String} {op : Dt → Sto → Out Dt} (h : B1 J X (.builtin id) op) (hg : Gl X x) (hm : X.mg x = none) (hv : bootBuiltins x = some (.builtin id)) (ha : ES J X W e fe) (hn : x ≠ "__name__" := by decide) (hdb : (x == ("__debug__" : Str)) = false := by decide)
    (he : starEach (e :: []) X.env = (false, eval e X.env) :: starEach [] X.env := by rfl) : ES J X W (.Call (.Name x p) [e] [] pos) (eUn op fe) := by
  obtain ⟨r, hc, ho⟩ := h
  exact PE.imp (pe_callB hc hg hm hv (pa_cons ha pa_nil he) hn hdb he rfl) fun σ H Q ⟨env, ρ, F, s, g, l, k⟩ => ⟨env, ρ, F, s, g, l, Po.bind k fun x s1 ρ1 F1 H1 v e1 l1 g1 r1 k1 => ho ρ1 F1 s1 H1 v x Q _ g1 r1 k1⟩
theorem es_y1 {x : Str} {id : String} {op : Dt → Sto → Out Dt} (h : B1 J X (.type id) op) (hg : Gl X x) (hm : X.mg x = none) (hv : bootBuiltins x = some (.type id)) (ha : ES J X W e fe) (hn : x ≠ "__name__" := by decide) (hdb : (x == ("__debug__" : Str)) = false := by decide)
    (he : starEach (e :: []) X.env = (false, eval e X.env) :: starEach [] X.env := by rfl) : ES J X W (.Call (.Name x p) [e] [] pos) (eUn op fe) := by
  obtain ⟨r, hc, ho⟩ := h
  exact PE.imp (pe_callTy hc hg hm hv (pa_cons ha pa_nil he) hn hdb he rfl) fun σ H Q ⟨env, ρ, F, s, g, l, k⟩ => ⟨env, ρ, F, s, g, l, Po.bind k fun x s1 ρ1 F1 H1 v e1 l1 g1 r1 k1 => ho ρ1 F1 s1 H1 v x Q _ g1 r1 k1⟩
theorem es_b2 {x : Str} {id : String} {op : Dt → Dt → Sto → Out Dt} (h : B2 J X (.builtin id) op) (hg : Gl X x) (hm : X.mg x = none) (hv : bootBuiltins x = some (.builtin id)) (ha : ES J X W a fa) (hb : ES J X W b fb) (hn : x ≠ "__name__" := by decide) (hdb : (x == ("__debug__" : Str)) = false := by decide)
    (he : starEach [a, b] X.env = [(false, eval a X.env), (false, eval b X.env)] := by rfl) (he2 : starEach [b] X.env = [(false, eval b X.env)] := by rfl) : ES J X W (.Call (.Name x p) [a, b] [] pos) (eOp op fa fb) := by
  obtain ⟨r, hc, ho⟩ := h
  have h1 : starEach (a :: [b]) X.env = (false, eval a X.env) :: starEach [b] X.env := by rw [he2]; exact he
  have h2 : starEach (b :: []) X.env = (false, eval b X.env) :: starEach [] X.env := he2
  have h3 : (backTo pos (starEach [b] X.env)).any (·.1) = false := by rw [he2]; rfl
  exact PE.imp (pe_callB hc hg hm hv (pa_cons ha (pa_cons hb pa_nil h2) h1) hn hdb h1 h3) fun σ H Q ⟨env, ρ, F, s, g, l, k⟩ => ⟨env, ρ, F, s, g, l, Po.bind k fun x s1 ρ1 F1 H1 v e1 l1 g1 r1 k1 =>
    ⟨env, ρ1, F1, s1, g1, l.mono l1, Po.bind k1 fun y s2 ρ2 F2 H2 u e2 l2 g2 r2 k2 => ho ρ2 F2 s2 H2 v u x y Q _ g2 (Den.mono l2 _ _ r1) r2 k2⟩⟩
/-- len -/
def lenD (s : Sto) (d : Dt) : Option Nat := match d with
  | .str x => some x.length
  | .obj i => match s[i]? with
    | some (.lst l) => some l.length
    | some (.dic kvs) => some kvs.length
    | _ => none
  | d => (asQ s d).map (·.length)
def dLen (d : Dt) (s : Sto) : Out Dt := ofO s ((lenD s d).map fun (n : Nat) => .int n)
theorem len_dict {X : Cx} : CallR X (.builtin "len") (fun xs H Q => ∃ a kvs, xs = [.ref a] ∧ Rd H a (.dK kvs) ∧ Q (.int kvs.length) H) := by
  intro pins s σ H xs us Q I r h
  obtain ⟨a, kvs, e, hd, q⟩ := h
  subst e
  obtain ⟨u, e, ru⟩ := vals1 r
  subst e
  obtain rfl : u = Value.ref a := ru
  exact d_len I hd fun t s' I' => ⟨.int kvs.length, H, I', ⟨t, rfl⟩, q⟩
theorem b_len : B1 J X (.builtin "len") dLen := ⟨_, CallR.or call_len len_dict, fun ρ F s H x dx Q E g rx k => by
  obtain ⟨d, e, k⟩ := Po.ofO k
  obtain ⟨n, e1, e2⟩ := Option.map_eq_some_iff.mp e
  subst e2
  have fin : Q (.int n) H := k ρ F H _ LE.refl g (by simp only [Den])
  have gen : ∀ l, asQ s dx = some l → n = l.length → (∃ x' n', [x] = [x'] ∧ LenV X.K x' H n' ∧ Q (.int n') H) := fun l hl hn => by
    obtain ⟨a, xs, e1, q, t, _⟩ := g.sqQ rx hl
    subst e1
    refine ⟨_, n, rfl, ?_, fin⟩
    rw [hn, t.length]
    rcases q with q | q
    · exact .inl ⟨xs, q, rfl⟩
    · exact .inr ⟨xs, q, rfl⟩
  cases dx with
  | str z =>
    simp only [Den] at rx
    simp only [lenD, Option.some.injEq] at e1
    obtain ⟨rx, hk⟩ := rx
    subst rx; subst e1
    exact .inl ⟨_, _, rfl, ⟨sok_len hk, rfl⟩, fin⟩
  | tup l => simp [lenD, asQ] at e1; exact .inl (gen l rfl e1.symm)
  | lst l => simp [lenD, asQ, asL] at e1; exact .inl (gen l rfl e1.symm)
  | lsk l => simp [lenD, asQ, asL] at e1; exact .inl (gen l rfl e1.symm)
  | obj i =>
    simp only [lenD] at e1
    split at e1
    · rename_i l hs
      cases e1
      exact .inl (gen l (by simp only [asQ, asL, hs]) rfl)
    · rename_i l hs
      cases e1
      simp only [Den] at rx
      obtain ⟨a, e2, q⟩ := rx
      subst e2
      obtain ⟨z, vs, hx, t⟩ := g.at_ i a _ q hs
      exact .inr ⟨a, vs, rfl, .inl hx, by rw [← t.length]; exact fin⟩
    · cases e1
  | _ => simp [lenD, asQ, asL] at e1⟩
/-- ord -/
def dOrd (d : Dt) (s : Sto) : Out Dt := match d with
  | .str x => match x.cps.toList with
    | [c] => .ok (.int c) s
    | _ => .bad
  | _ => .bad
theorem b_ord : B1 J X (.builtin "ord") dOrd := ⟨_, call_ord, fun ρ F s H x dx Q E g rx k => by
  cases dx with
  | str z =>
    simp only [Den] at rx
    simp only [dOrd] at k
    split at k
    · rename_i c hc
      obtain ⟨rx, hk⟩ := rx
      have e := str_one hc
      subst e
      exact ⟨_, by rw [rx], rfl, k ρ F H _ LE.refl g (by simp only [Den]; rfl)⟩
    · exact False.elim k
  | _ => exact False.elim k⟩
/-- all, any of a list of truths -/
def asB : List Dt → Option (List Bool)
  | [] => some []
  | .bl b :: r => (asB r).map (b :: ·)
  | _ => none
theorem Dens.bools {Γ : Wd} {ρ : List Addr} {F : Hp} : ∀ {l : List Dt} {xs : List V} {bs : List Bool}, Dens Γ ρ F l xs → asB l = some bs → xs = bs.map V.bl
  | [], xs, bs, h, e => by simp only [Dens] at h; simp only [asB, Option.some.injEq] at e; subst e; exact h
  | d :: l, xs, bs, h, e => by
    simp only [Dens] at h
    obtain ⟨v, r, e1, q, t⟩ := h
    cases d with
    | bl b =>
      simp only [asB, Option.map_eq_some_iff] at e
      obtain ⟨bs', e2, e3⟩ := e
      simp only [Den] at q
      subst e3; subst e1; subst q
      rw [Dens.bools t e2]; rfl
    | _ => simp [asB] at e
def dAll (d : Dt) (s : Sto) : Out Dt := ofO s (((asL s d).bind asB).map fun bs => .bl (bs.all id))
def dAny (d : Dt) (s : Sto) : Out Dt := ofO s (((asL s d).bind asB).map fun bs => .bl (bs.any id))
theorem b_all (hc : X.calm = true) : B1 J X (.builtin "all") dAll := ⟨_, cr_all hc, fun ρ F s H x dx Q E g rx k => by
  obtain ⟨d, e, k⟩ := Po.ofO k
  obtain ⟨bs, e1, e2⟩ := Option.map_eq_some_iff.mp e
  obtain ⟨l, e3, e4⟩ := Option.bind_eq_some_iff.mp e1
  subst e2
  obtain ⟨a, xs, e5, q, t, _⟩ := g.sqL rx e3
  subst e5
  have e6 := t.bools e4
  subst e6
  exact ⟨a, bs, rfl, q, k ρ F H _ LE.refl g (by simp only [Den])⟩⟩
theorem b_any (hc : X.calm = true) : B1 J X (.builtin "any") dAny := ⟨_, cr_any hc, fun ρ F s H x dx Q E g rx k => by
  obtain ⟨d, e, k⟩ := Po.ofO k
  obtain ⟨bs, e1, e2⟩ := Option.map_eq_some_iff.mp e
  obtain ⟨l, e3, e4⟩ := Option.bind_eq_some_iff.mp e1
  subst e2
  obtain ⟨a, xs, e5, q, t, _⟩ := g.sqL rx e3
  subst e5
  have e6 := t.bools e4
  subst e6
  exact ⟨a, bs, rfl, q, k ρ F H _ LE.refl g (by simp only [Den])⟩⟩
def dMax := iOp (fun i j => .int (if j > i then j else i)) fun _ _ => true
def dMin := iOp (fun i j => .int (if j < i then j else i)) fun _ _ => true
theorem b_max (hc : X.calm = true) : B2 J X (.builtin "max") dMax := ⟨_, call_max2 hc, fun ρ F s H x y dx dy Q E g rx ry k => by
  obtain ⟨i, j, e1, e2, q⟩ := iOp_all (Γ := wd J X) (gv := fun i j => .int (if j > i then j else i)) (fun _ _ _ _ => by simp only [Den]) ρ F s H x y dx dy Q E g rx ry k
  subst e1; subst e2
  exact ⟨i, j, rfl, q⟩⟩
theorem b_min (hc : X.calm = true) : B2 J X (.builtin "min") dMin := ⟨_, call_min2 hc, fun ρ F s H x y dx dy Q E g rx ry k => by
  obtain ⟨i, j, e1, e2, q⟩ := iOp_all (Γ := wd J X) (gv := fun i j => .int (if j < i then j else i)) (fun _ _ _ _ => by simp only [Den]) ρ F s H x y dx dy Q E g rx ry k
  subst e1; subst e2
  exact ⟨i, j, rfl, q⟩⟩
def dInt (d : Dt) (s : Sto) : Out Dt := match d with
  | .int i => .ok (.int i) s
  | .bl b => .ok (.int (if b then 1 else 0)) s
  | _ => .bad
theorem b_int : B1 J X (.type "int") dInt := ⟨_, call_int1, fun ρ F s H x dx Q E g rx k => by
  cases dx with
  | int i => simp only [Den] at rx; subst rx; exact .inl ⟨i, rfl, k ρ F H _ LE.refl g (by simp only [Den])⟩
  | bl i => simp only [Den] at rx; subst rx; exact .inr ⟨i, rfl, k ρ F H _ LE.refl g (by simp only [Den])⟩
  | _ => exact False.elim k⟩
/-- list(x), tuple(x) of a list or a tuple -/
def dList (nw : List Dt → Sto → Out Dt) (d : Dt) (s : Sto) : Out Dt := match asQ s d with
  | some l => nw l s
  | none => .bad
theorem b_list {nw : List Dt → Sto → Out Dt} (n : IsNw nw) : B1 J X (.type "list") (dList nw) := ⟨_, call_list_of, fun ρ F s H x dx Q E g rx k => by
  unfold dList at k
  split at k
  · rename_i l hl
    obtain ⟨a, xs, e5, q, t, z⟩ := g.sqQ rx hl
    subst e5
    exact ⟨a, xs, rfl, q, fun p hp => new_lst n g t z hp k⟩
  · exact False.elim k⟩
def dTuple (d : Dt) (s : Sto) : Out Dt := ofO s ((asQ s d).map .tup)
theorem b_tuple : B1 J X (.type "tuple") dTuple := ⟨_, call_tuple_of, fun ρ F s H x dx Q E g rx k => by
  obtain ⟨d, e, k⟩ := Po.ofO k
  obtain ⟨l, e1, e2⟩ := Option.map_eq_some_iff.mp e
  subst e2
  have gen : asL s dx = some l → ∃ p ys, [x] = [V.ref p] ∧ ((SqL X.K H p ys ∧ ∀ l, H l = none → Q (.ref l) (upd H l (.tup ys))) ∨ (SqT X.K H p ys ∧ Q (.ref p) H)) := fun hl => by
    obtain ⟨a, xs, e5, q, t, z⟩ := g.sqL rx hl
    subst e5
    exact ⟨a, xs, rfl, .inl ⟨q, fun p hp => new_tup g t z hp k⟩⟩
  cases dx with
  | tup l' =>
    simp only [asQ, Option.some.injEq] at e1
    subst e1
    obtain ⟨a, xs, e6, q, t, z⟩ := g.sqT rx (l := l') rfl
    have fin := k ρ F H x LE.refl g rx
    subst e6
    exact ⟨a, xs, rfl, .inr ⟨q, fin⟩⟩
  | _ => exact gen e1⟩
end
end Pd
namespace Pd
open PySem L2
/-! ### statements -/
def sBnd {α : Type} (m : Sto → Out α) (env : En) (k : α → Sto → Res) (s : Sto) : Res := match m s with
  | .ok a s' => k a s'
  | .exc c s' => .exc c env s'
  | .bad => .bad
theorem FPo.bind {α β : Type} {Γ : Wd} {W : WX} {R1 : List Addr → Hp → α → β → Prop} {ρ : List Addr} {F H : Hp} {D : Ends} {Q1 : β → Hp → Prop} {m : Sto → Out α} {k : α → Sto → Res} {env : En} {σ : St} {s : Sto}
    (h : FPo Γ W ρ F H D (sBnd m env k s)) (sl : Sl Γ ρ F env σ) (hk : ∀ a s' ρ' F' H' v, m s = .ok a s' → LE ρ F H ρ' F' H' → G Γ ρ' F' s' H' → R1 ρ' F' a v → FPo Γ W ρ' F' H' D (k a s') → Q1 v H') : Po Γ R1 ρ F H Q1 (fun c H' => W c none σ H') (m s) := by
  unfold sBnd at h
  cases e : m s with
  | ok a s' =>
    rw [e] at h
    exact fun ρ' F' H' v l g r => hk a s' ρ' F' H' v e l g r (h.le l)
  | exc c s' =>
    rw [e] at h
    exact fun ρ' F' H' C l g r => h ρ' F' H' σ C l g (sl.mono l) r
  | bad => rw [e] at h; exact h
section
variable {J : Cn} {X : Cx} {W : WX} {a b c e e2 o : Expr} {es : List Expr} {fa fb fc fe fo : Ex} {fs : List Ex} {ft fu : Tx} {pos p : Pos} {st : Stmt} {rest : List Stmt} {f1 f2 : Sx}
def sNext : Sx := fun env s => .fl (.nx env) s
def sSeq (f g : Sx) : Sx := fun env s => match f env s with
  | .fl (.nx e) s' => g e s'
  | r => r
theorem ss_nil : SSs J X W [] sNext := PSs.imp pss_nil fun D σ H ⟨env, ρ, F, s, g, l, k⟩ => k ρ F H σ LE.refl g l
theorem ss_pass : SS J X W (.Pass pos) sNext := PS.imp ps_pass fun D σ H ⟨env, ρ, F, s, g, l, k⟩ => k ρ F H σ LE.refl g l
theorem ss_one (h : SS J X W st f1) : SSs J X W [st] f1 := pss_one h
theorem ss_cons (h1 : SS J X W st f1) (h2 : SSs J X W rest f2) : SSs J X W (st :: rest) (sSeq f1 f2) :=
  PSs.imp (pss_cons h1 h2) fun D σ H ⟨env, ρ, F, s, g, l, k⟩ => by
    refine ⟨env, ρ, F, s, g, l, ?_⟩
    unfold sSeq at k
    cases e : f1 env s with
    | fl f s1 =>
      rw [e] at k
      cases f with
      | nx e1 => exact fun ρ' F' H' σ' l' g' sl' => ⟨e1, ρ', F', s1, g', sl', k.le l'⟩
      | rt d => exact k
      | bk d => exact k
      | ct d => exact k
    | exc c e1 s1 => rw [e] at k; exact k
    | bad => rw [e] at k; exact k
def sBreak : Sx := fun env s => .fl (.bk env) s
theorem ss_break : SS J X W (.Break pos) sBreak := PS.imp ps_break fun D σ H ⟨env, ρ, F, s, g, l, k⟩ => k ρ F H σ LE.refl g l
def sCont : Sx := fun env s => .fl (.ct env) s
theorem ss_cont : SS J X W (.Continue pos) sCont := PS.imp ps_continue fun D σ H ⟨env, ρ, F, s, g, l, k⟩ => k ρ F H σ LE.refl g l
def sExpr (f : Ex) : Sx := fun env => sBnd (f env) env fun _ s => .fl (.nx env) s
theorem ss_expr (h : ES J X W e fe) (hs : swapsWith e none pos.line X.env = pure false := by rfl) : SS J X W (.Expr e pos) (sExpr fe) :=
  PS.imp (ps_expr h hs) fun D σ H ⟨env, ρ, F, s, g, l, k⟩ => ⟨env, ρ, F, s, g, l, FPo.bind k l fun d s1 ρ1 F1 H1 v e1 l1 g1 r1 k1 => k1 ρ1 F1 H1 σ LE.refl g1 (l.mono l1)⟩
def sRet (f : Ex) : Sx := fun env => sBnd (f env) env fun d s => .fl (.rt d) s
theorem ss_ret (h : ES J X W e fe) : SS J X W (.Return (some e) pos) (sRet fe) :=
  PS.imp (ps_ret h) fun D σ H ⟨env, ρ, F, s, g, l, k⟩ => ⟨env, ρ, F, s, g, l, FPo.bind k l fun d s1 ρ1 F1 H1 v e1 l1 g1 r1 k1 => k1 ρ1 F1 H1 v LE.refl g1 r1⟩
def sIf (t : Tx) (f g : Sx) : Sx := fun env => sBnd (t env) env fun c s => if c = true then f env s else g env s
theorem ss_if {x y : List Stmt} (hc : TSo J X W c ft) (ha : SSs J X W x f1) (hb : SSs J X W y f2) : SS J X W (.If c x y pos) (sIf ft f1 f2) :=
  PS.imp (ps_if hc ha hb) fun D σ H ⟨env, ρ, F, s, g, l, k⟩ => ⟨env, ρ, F, s, g, l, FPo.bind k l fun d s1 ρ1 F1 H1 v e1 l1 g1 r1 k1 => by
    subst r1
    cases d with
    | true => exact ⟨env, ρ1, F1, s1, g1, l.mono l1, k1⟩
    | false => exact ⟨env, ρ1, F1, s1, g1, l.mono l1, k1⟩⟩
/-! targets -/
abbrev Tg := Dt → En → Option En
def tG (Γ : Wd) (is : List Nat) (tg : Tg) : TG := fun v σ H Q => ∃ env ρ F s d env', G Γ ρ F s H ∧ Sl Γ ρ F env σ ∧ Den Γ ρ F d v ∧ tg d env = some env' ∧
  ∀ σ', Sl Γ ρ F env' σ' → σ'.length = σ.length → (∀ j, j ∉ is → σ'[j]? = σ[j]?) → Q σ' H
abbrev GS (J : Cn) (X : Cx) (tgt : Expr) (is : List Nat) (tg : Tg) : Prop := PG X tgt (tG (wd J X) is tg)
theorem PG.imp {X : Cx} {e : Expr} {t t' : TG} (h : PG X e t) (k : ∀ v σ H Q, t' v σ H Q → t v σ H Q) : PG X e t' := ⟨fun pins s σ H v u Q I r q => h.run pins s σ H v u Q I r (k v σ H Q q)⟩
def gN (i : Nat) : Tg := fun d env => some (env.set i (some d))
theorem gs_name {i : Nat} (h : PG X e (gName i)) : GS J X e [i] (gN i) := PG.imp h fun v σ H Q ⟨env, ρ, F, s, d, env', g, l, r, e, k⟩ => by
  unfold gN at e
  cases e
  exact k _ (l.set r i) (by rw [List.length_set]) fun j hj => by rw [List.getElem?_set_ne (fun z => hj (by rw [z]; exact List.mem_singleton_self _))]
def setAll : List Nat → List Dt → En → Option En
  | [], [], env => some env
  | i :: is, d :: ds, env => setAll is ds (env.set i (some d))
  | _, _, _ => none
def tGs (Γ : Wd) (is : List Nat) : TGs := fun vs σ H Q => ∃ env ρ F s ds env', G Γ ρ F s H ∧ Sl Γ ρ F env σ ∧ Dens Γ ρ F ds vs ∧ setAll is ds env = some env' ∧
  ∀ σ', Sl Γ ρ F env' σ' → σ'.length = σ.length → (∀ j, j ∉ is → σ'[j]? = σ[j]?) → Q σ' H
abbrev GSs (J : Cn) (X : Cx) (tgs : List Expr) (is : List Nat) : Prop := PGs X tgs (tGs (wd J X) is)
theorem PGs.imp {X : Cx} {e : List Expr} {t t' : TGs} (h : PGs X e t) (k : ∀ v σ H Q, t' v σ H Q → t v σ H Q) : PGs X e t' := ⟨fun pins s σ H v u Q I r q => h.run pins s σ H v u Q I r (k v σ H Q q)⟩
theorem gss_nil : GSs J X [] [] := PGs.imp pgs_nil fun v σ H Q ⟨env, ρ, F, s, ds, env', g, l, r, e, k⟩ => by
  cases ds with
  | nil =>
    simp only [Dens] at r
    simp only [setAll, Option.some.injEq] at e
    subst e
    exact ⟨r, k σ l rfl fun _ _ => rfl⟩
  | cons d ds => simp [setAll] at e
theorem gss_cons {i : Nat} {is : List Nat} (h : PG X e (gName i)) (hr : GSs J X es is) (hs : (assignEach (e :: es) X.env).map (·.2) = assign e X.env :: (assignEach es X.env).map (·.2) := by rfl) : GSs J X (e :: es) (i :: is) :=
  PGs.imp (pgs_cons h hr hs) fun v σ H Q ⟨env, ρ, F, s, ds, env', g, l, r, e, k⟩ => by
    cases ds with
    | nil => simp [setAll] at e
    | cons d ds =>
      simp only [Dens] at r
      obtain ⟨v', vr, e1, q, t⟩ := r
      simp only [setAll] at e
      refine ⟨v', vr, e1, ?_⟩
      refine ⟨_, ρ, F, s, ds, env', g, l.set q i, t, e, fun σ' l' z1 z2 => k σ' l' (by rw [z1, List.length_set]) fun j hj => ?_⟩
      rw [z2 j (fun z => hj (List.mem_cons_of_mem _ z)), List.getElem?_set_ne (fun z => hj (by rw [z]; exact List.mem_cons_self))]
def gT (is : List Nat) : Tg := fun d env => match d with
  | .tup l => setAll is l env
  | _ => none
theorem setAll_len : ∀ {is : List Nat} {ds : List Dt} {env env' : En}, setAll is ds env = some env' → ds.length = is.length
  | [], [], env, env', h => rfl
  | i :: is, d :: ds, env, env', h => by simp only [setAll] at h; rw [List.length_cons, List.length_cons, setAll_len h]
  | [], d :: ds, env, env', h => by simp [setAll] at h
  | i :: is, [], env, env', h => by simp [setAll] at h
theorem gs_tup {is : List Nat} {k : Nat} (hc : X.calm = true) (h : GSs J X es is) (hn : (assignEach es X.env).length = is.length := by rfl) (hst : (assignEach es X.env).findIdx? (·.1) = none := by rfl) : GS J X (.Tuple es k pos) is (gT is) :=
  PG.imp (pg_tup hc h hn hst) fun v σ H Q ⟨env, ρ, F, s, d, env', g, l, r, e, q⟩ => by
    cases d with
    | tup ds =>
      simp only [gT] at e
      obtain ⟨x, xs, e1, q1, t, _⟩ := g.sqT r (l := ds) rfl
      exact ⟨x, xs, e1, q1, by rw [← t.length, setAll_len e], env, ρ, F, s, ds, env', g, l, t, e, q⟩
    | _ => simp [gT] at e
/-- target = e -/
def sAsg (f : Ex) (tg : Tg) : Sx := fun env => sBnd (f env) env fun d s => match tg d env with
  | some e => .fl (.nx e) s
  | none => .bad
theorem asg_of {Γ : Wd} {is : List Nat} {tg : Tg} {D : Ends} {σ : St} {H : Hp} (h : tS Γ W (sAsg fe tg) D σ H) : tAsg (tE Γ W fe) (tG Γ is tg) D σ H := by
  obtain ⟨env, ρ, F, s, g, l, k⟩ := h
  refine ⟨env, ρ, F, s, g, l, FPo.bind k l fun d s1 ρ1 F1 H1 v e1 l1 g1 r1 k1 => ?_⟩
  cases e : tg d env with
  | none => rw [e] at k1; exact False.elim k1
  | some env' =>
    rw [e] at k1
    exact ⟨env, ρ1, F1, s1, d, env', g1, l.mono l1, r1, e, fun σ' sl _ _ => k1 ρ1 F1 H1 σ' LE.refl g1 sl⟩
theorem ss_asg {tgt : Expr} {is : List Nat} {tg : Tg} (he : ES J X W e fe) (hg : GS J X tgt is tg) (hs : swapsWithSole [tgt] e pos.line X.env = pure false := by rfl) (hw : swappedStores [tgt] e X.env = pure none := by rfl)
    (h1 : (assignEach [tgt] X.env).map (·.2) = [assign tgt X.env] := by rfl) : SS J X W (.Assign [tgt] e pos) (sAsg fe tg) := PS.imp (ps_asg he hg hs hw h1) fun D σ H h => asg_of h
/-! attributes -/
theorem zip_lookup : ∀ {names : List Str} {vs : List V} {i : Nat} {f : Str} {v : V}, names.Nodup → names[i]? = some f → vs[i]? = some v → (names.zip vs).lookup f = some v
  | [], vs, i, f, v, nd, h1, h2 => by simp at h1
  | n :: ns, [], i, f, v, nd, h1, h2 => by simp at h2
  | n :: ns, x :: xs, 0, f, v, nd, h1, h2 => by
    simp at h1 h2
    subst h1; subst h2
    simp [List.lookup]
  | n :: ns, x :: xs, i + 1, f, v, nd, h1, h2 => by
    have nd' := List.nodup_cons.mp nd
    have hne : (f == n) = false := by
      rw [beq_eq_false_iff_ne]
      intro z
      subst z
      exact nd'.1 (List.mem_of_getElem? (by simpa using h1))
    show (List.lookup f ((n, x) :: ns.zip xs)) = some v
    rw [List.lookup_cons, hne]
    exact zip_lookup nd'.2 (by simpa using h1) (by simpa using h2)
theorem zip_miss : ∀ {names : List Str} {vs : List V} {f : Str}, f ∉ names → (names.zip vs).lookup f = none
  | [], vs, f, h => by simp
  | n :: ns, [], f, h => by simp
  | n :: ns, x :: xs, f, h => by
    have hne : (f == n) = false := by
      rw [beq_eq_false_iff_ne]
      intro z
      subst z
      exact h List.mem_cons_self
    show (List.lookup f ((n, x) :: ns.zip xs)) = none
    rw [List.lookup_cons, hne]
    exact zip_miss fun z => h (List.mem_cons_of_mem _ z)
/-- a store at place i: in its place, or behind the last one -/
def putI {α : Type} (i : Nat) (d : α) (l : List α) : List α := if i < l.length then l.set i d else l ++ [d]
theorem zip_put : ∀ {names : List Str} {vs : List V} {i : Nat} {f : Str} {v : V}, names.Nodup → names[i]? = some f → i ≤ vs.length → putF f v (names.zip vs) = names.zip (putI i v vs)
  | [], vs, i, f, v, nd, h1, h2 => by simp at h1
  | n :: ns, [], i, f, v, nd, h1, h2 => by
    simp at h2
    subst h2
    simp at h1
    subst h1
    simp [putI, putF]
  | n :: ns, x :: xs, 0, f, v, nd, h1, h2 => by
    simp at h1
    subst h1
    show (if n = n then _ else _) = _
    rw [if_pos rfl]
    rfl
  | n :: ns, x :: xs, i + 1, f, v, nd, h1, h2 => by
    have nd' := List.nodup_cons.mp nd
    have hne : ¬ n = f := by
      intro z
      subst z
      exact nd'.1 (List.mem_of_getElem? (by simpa using h1))
    show (if n = f then _ else (n, x) :: putF f v (ns.zip xs)) = _
    rw [if_neg hne, zip_put nd'.2 (by simpa using h1) (by simpa using h2)]
    unfold putI
    by_cases hi : i < xs.length
    · rw [if_pos hi, if_pos (by simpa using hi)]; rfl
    · rw [if_neg hi, if_neg (by simpa using hi)]; rfl
def insD (s : Sto) (c : Nat) (d : Dt) : Option (Nat × List Dt) := match d with
  | .obj j => match s[j]? with
    | some (.ins c' ds) => if c' = c then some (j, ds) else none
    | _ => none
  | _ => none
theorem G.ins {Γ : Wd} {ρ : List Addr} {F H : Hp} {s : Sto} (g : G Γ ρ F s H) {d : Dt} {v : V} {c j : Nat} {ds : List Dt} (r : Den Γ ρ F d v) (h : insD s c d = some (j, ds)) :
    ∃ a C dx vs, v = .ref a ∧ ρ[j]? = some a ∧ s[j]? = some (.ins c ds) ∧ Γ.cl c C ∧ H a = some (.ins C dx ((Γ.J c).2.zip vs)) ∧ Dens Γ ρ F ds vs ∧ ds.length ≤ (Γ.J c).2.length ∧ (Γ.J c).2.length < 1000 := by
  unfold insD at h
  split at h
  · rename_i j'
    split at h
    · rename_i c' ds' hs
      split at h
      · rename_i hc
        cases h
        subst hc
        simp only [Den] at r
        obtain ⟨a, e, q⟩ := r
        obtain ⟨C, dx, vs, h1, h2, h3, h4⟩ := g.at_ _ a _ q hs
        exact ⟨a, C, dx, vs, e, q, hs, h1, h2, h3, h4⟩
      · cases h
    · cases h
  · cases h
/-- what of the text an attribute asks -/
structure AtF (J : Cn) (K : PySem.W.Frag) (mg : Str → Option Value) (c i : Nat) (f : Str) : Prop where
  nm : (J c).2[i]? = some f
  nd : (J c).2.Nodup
  cl : ∀ C, mg (J c).1 = some (.ref C) → Cls K C ∧ NoAttr K C f
def eFld (c i : Nat) (fo : Ex) : Ex := fun env => bnd (fo env) fun d s => ofO s ((insD s c d).bind fun p => p.2[i]?)
theorem es_fld {c i : Nat} {f : Str} (A : AtF J X.K X.mg c i f) (ho : ES J X W o fo) (hb : attributeBase o f X.env (eval o X.env) = eval o X.env := by rfl) : ES J X W (.Attribute o f pos) (eFld c i fo) :=
  PE.imp (pe_fld ho hb) fun σ H Q ⟨env, ρ, F, s, g, l, k⟩ => ⟨env, ρ, F, s, g, l, Po.bind k fun d s1 ρ1 F1 H1 v e1 l1 g1 r1 k1 => by
    obtain ⟨d', e, k1⟩ := Po.ofO k1
    obtain ⟨⟨j, ds⟩, e2, e3⟩ := Option.bind_eq_some_iff.mp e
    obtain ⟨a, C, dx, vs, h1, h2, h3, h4, h5, h6, h7⟩ := g1.ins r1 e2
    obtain ⟨u, hu, ru⟩ := h6.get e3
    obtain ⟨hc, hn⟩ := A.cl C h4
    exact ⟨a, C, dx, _, u, h1, h5, hc, hn, zip_lookup A.nd A.nm hu, k1 ρ1 F1 H1 u LE.refl g1 ru⟩⟩
theorem Dens.putI {Γ : Wd} {ρ : List Addr} {F : Hp} {ds : List Dt} {vs : List V} {d : Dt} {v : V} (t : Dens Γ ρ F ds vs) (r : Den Γ ρ F d v) (i : Nat) : Dens Γ ρ F (Pd.putI i d ds) (Pd.putI i v vs) := by
  unfold Pd.putI
  rw [← t.length]
  split
  · exact Dens.set r i t
  · exact Dens.append t (Dens.one r)
def setFD (s : Sto) (c i : Nat) (d y : Dt) : Option Sto := (insD s c d).bind fun p => if i ≤ p.2.length then some (s.set p.1 (.ins c (putI i y p.2))) else none
def sSetF (c i : Nat) (fo fv : Ex) : Sx := fun env => sBnd (fv env) env fun y => sBnd (fo env) env fun d s => match setFD s c i d y with
  | some s' => .fl (.nx env) s'
  | none => .bad
theorem putI_len {α : Type} {i n : Nat} {d : α} {l : List α} (h : i < n) (k : l.length ≤ n) (hi : i ≤ l.length) : (putI i d l).length ≤ n := by
  unfold putI
  split
  · rw [List.length_set]; exact k
  · rw [List.length_append]; simp; omega
theorem ss_setF {c i : Nat} {f : Str} {value : Expr} {fv : Ex} {pos' : Pos} (A : AtF J X.K X.mg c i f) (ho : ES J X W o fo) (hv : ES J X W value fv) (hs : swapsWith value (some (.Attribute o f pos')) pos.line X.env = pure false := by rfl) : SS J X W (.Assign [.Attribute o f pos'] value pos) (sSetF c i fo fv) :=
  PS.imp (ps_fld ho hv hs) fun D σ H ⟨env, ρ, F, s, g, l, k⟩ => ⟨env, ρ, F, s, g, l, FPo.bind k l fun y s1 ρ1 F1 H1 v e1 l1 g1 r1 k1 =>
    ⟨env, ρ1, F1, s1, g1, l.mono l1, FPo.bind k1 (l.mono l1) fun d s2 ρ2 F2 H2 u e2 l2 g2 r2 k2 => by
      cases e : setFD s2 c i d y with
      | none => rw [e] at k2; exact False.elim k2
      | some s3 =>
        rw [e] at k2
        obtain ⟨⟨j, ds⟩, e3, e4⟩ := Option.bind_eq_some_iff.mp e
        simp only [] at e4
        split at e4
        · rename_i hi
          cases e4
          obtain ⟨a, C, dx, vs, h1, h2, h3, h4, h5, h6, h7, h8⟩ := g2.ins r2 e3
          obtain ⟨hc, hn⟩ := A.cl C h4
          have hin : i < (J c).2.length := (List.getElem?_eq_some_iff.mp A.nm).1
          have hvl : vs.length = ds.length := h6.length.symm
          refine ⟨a, C, dx, _, h1, h5, hc, hn, by rw [List.length_zip]; exact Nat.lt_of_le_of_lt (Nat.min_le_left _ _) h8, ?_⟩
          rw [zip_put A.nd A.nm (by rw [hvl]; exact hi)]
          refine k2 ρ2 F2 _ σ (LE.put (List.mem_of_getElem? h2)) (g2.put h2 ⟨C, dx, _, h4, upd_same, Dens.putI h6 (Den.mono l2 _ _ r1) i, putI_len hin h7 hi, h8⟩) ((l.mono l1).mono l2)
        · cases e4⟩⟩
end
end Pd
namespace Pd
open PySem L2
/-! ### promises -/
/-- a def's meaning -/
abbrev Fn := List Dt → Sto → Out Dt
/-- a def keeps its meaning -/
def spD (Γ : Wd) (n : Nat) (m : Fn) : Sp := fun vs H Q E => ∃ ρ F s ds, G Γ ρ F s H ∧ Dens Γ ρ F ds vs ∧ ds.length = n ∧ EPo Γ ρ F H Q (fun c H' => E c none H') (m ds s)
/-- a def of the program by its meaning -/
structure Df (P : Program) (w : World) (K : PySem.W.Frag) (mg : Str → Option Value) (base : Heap) (J : Cn) (k n : Nat) (f : Addr) (m : Fn) : Prop where
  ok : ∃ fd ps, FnOk P w K mg base (L2.CX P w) k f fd ps (spD ⟨K, mg, J⟩ n m) ∧ Binds K fd ps []
abbrev DfX (J : Cn) (X : Cx) (k n : Nat) (f : Addr) (m : Fn) : Prop := Df X.prog X.w X.K X.mg X.base J k n f m
section
variable {J : Cn} {X : Cx} {W : WX} {a b c e e2 o : Expr} {es : List Expr} {fa fb fc fe fo : Ex} {fs : List Ex} {ft fu : Tx} {pos p apos : Pos} {st : Stmt} {rest : List Stmt} {f1 f2 : Sx}
def eCall (m : Fn) (fs : List Ex) : Ex := fun env => bnd (evs fs env) m
theorem es_call {k f : Nat} {x : Str} {m : Fn} (tk : Takes X W) (D : DfX J X k (fs.length + 1) f m) (hr : Room k X.A) (hg : Gl X x) (hm : X.mg x = some (.ref f)) (hk : PySem.W.keepIn X.K (.ref f) = true) (ha : ASo J X W (e :: es) (fa :: fs))
    (hdb : (x == ("__debug__" : Str)) = false := by decide) (he : starEach (e :: es) X.env = (false, eval e X.env) :: starEach es X.env := by rfl) (hpl : (backTo pos (starEach es X.env)).any (·.1) = false := by rfl) :
    ES J X W (.Call (.Name x p) (e :: es) [] pos) (eCall m (fa :: fs)) := by
  obtain ⟨fd, ps, F, hb⟩ := D.ok
  exact PE.imp (pe_callS F hr hg hm hk hb (fun σ => passAt tk σ) ha hdb he hpl) fun σ H Q ⟨env, ρ, F, s, g, l, k⟩ => ⟨env, ρ, F, s, g, l, Po.bind k fun ds s1 ρ1 F1 H1 vs e1 l1 g1 r1 k1 => ⟨ρ1, F1, s1, ds, g1, r1, evs_len e1, k1⟩⟩
/-- a def without arguments -/
theorem es_call0 {k f : Nat} {x : Str} {m : Fn} (tk : Takes X W) (D : DfX J X k 0 f m) (hr : Room k X.A) (hg : Gl X x) (hm : X.mg x = some (.ref f)) (hk : PySem.W.keepIn X.K (.ref f) = true) (hdb : (x == ("__debug__" : Str)) = false := by decide) :
    ES J X W (.Call (.Name x p) [] [] pos) (eCall m []) := by
  obtain ⟨fd, ps, F, hb⟩ := D.ok
  refine ⟨fun pins s σ H Q I h => ?_⟩
  obtain ⟨env, ρ, Fz, st, g, l, k⟩ := h
  refine wpAny_Call_Name_kw (ld_glob I hg hm ?_ hdb)
  exact PySem.W.callWith_K0 I.kIn hk (run_fnS (E := WE W) (us := []) (vs := []) F hr hb (passAt tk σ) I .nil ⟨ρ, Fz, st, [], g, by simp only [Dens], rfl, k⟩)
/-- what of the text a method asks -/
structure MeF (J : Cn) (K : PySem.W.Frag) (mg : Str → Option Value) (c : Nat) (m : Str) (C f : Addr) : Prop where
  mg : mg (J c).1 = some (.ref C)
  no : m ∉ (J c).2
  cl : Cls K C
  me : Meth K C m f
def eMeth (c : Nat) (m : Fn) (fo : Ex) (fs : List Ex) : Ex := fun env => bnd (fo env) fun x s => match insD s c x with
  | some _ => bnd (evs fs env) (fun ds => m (x :: ds)) s
  | none => .bad
theorem meth_of {c : Nat} {mn : Str} {C f : Addr} {m : Fn} {k : Nat} {pl : Sem Bool} (tk : Takes X W) (M : MeF J X.K X.mg c mn C f) (D : DfX J X k (fs.length + 1) f m) (hr : Room k X.A) (ho : ES J X W o fo) (ha : ASo J X W es fs)
    (hcw : ∀ (pins : List (Addr × Obj)) (σ : St) (x : Addr) (s1 : Shared) (H1 : Hp) (Q : Value → Shared → Prop), Inv X pins σ H1 s1 → tA (wd J X) W fs σ H1 (fun vs H2 => ∀ us s2, Inv X pins σ H2 s2 → Vals vs us → wpAny (model X.prog X.w) X.A (call (.ref f) (.ref x :: us)) Q X.xe s2) →
      wpAny (model X.prog X.w) X.A (callWith pos (.ref f) [.ref x] (backTo pos (starEach es X.env)) (backToKw pos (keywordEach [] X.env))) Q X.xe s1)
    (ht : eval (.Call (.Attribute o mn apos) es [] pos) X.env = (do
      let ov ← eval o X.env
      standAt apos.atName
      let (f, first) ← holding [ov] (getMethod ov mn pl)
      callWith pos f first (backTo pos (starEach es X.env)) (backToKw pos (keywordEach [] X.env)))) :
    ES J X W (.Call (.Attribute o mn apos) es [] pos) (eMeth c m fo fs) := by
  obtain ⟨fd, ps, Fk, hb⟩ := D.ok
  refine ⟨fun pins s σ H Q I h => ?_⟩
  obtain ⟨env, ρ, F, st, g, l, k⟩ := h
  refine methcall_of ho I ⟨env, ρ, F, st, g, l, Po.bind k fun d s1 ρ1 F1 H1 v e1 l1 g1 r1 k1 => ?_⟩ ht
  cases e : insD s1 c d with
  | none => rw [e] at k1; exact False.elim k1
  | some q =>
    obtain ⟨j, ds⟩ := q
    rw [e] at k1
    obtain ⟨x, C', dx, vs, h1, h2, h3, h4, h5, h6, h7⟩ := g1.ins r1 e
    have eC : C' = C := by
      have z := h4.symm.trans M.mg
      cases z
      rfl
    subst eC
    refine ⟨x, C', dx, _, f, h1, h5, M.cl, M.me, zip_miss M.no, fun s2 I2 => hcw pins σ x s2 H1 _ I2 ?_⟩
    refine ⟨env, ρ1, F1, s1, g1, l.mono l1, Po.bind k1 fun as s3 ρ3 F3 H3 ws e3 l3 g3 r3 k3 us s4 I4 rv => ?_⟩
    refine run_fnS (E := WE W) (us := .ref x :: us) (vs := .ref x :: ws) Fk hr hb (passAt tk σ) I4 (.cons rfl rv) ⟨ρ3, F3, s3, d :: as, g3, ?_, by rw [List.length_cons, evs_len e3], k3⟩
    simp only [Dens]
    exact ⟨v, ws, by rw [h1], Den.mono l3 _ _ r1, r3⟩
theorem es_meth {c : Nat} {mn : Str} {C f : Addr} {m : Fn} {k : Nat} {pl : Sem Bool} (tk : Takes X W) (M : MeF J X.K X.mg c mn C f) (D : DfX J X k (fs.length + 2) f m) (hr : Room k X.A) (ho : ES J X W o fo) (ha : ASo J X W (e :: es) (fa :: fs))
    (hst : starEach (e :: es) X.env = (false, eval e X.env) :: starEach es X.env := by rfl) (hpl : (backTo pos (starEach es X.env)).any (·.1) = false := by rfl)
    (ht : eval (.Call (.Attribute o mn apos) (e :: es) [] pos) X.env = (do
      let ov ← eval o X.env
      standAt apos.atName
      let (f, first) ← holding [ov] (getMethod ov mn pl)
      callWith pos f first (backTo pos (starEach (e :: es) X.env)) (backToKw pos (keywordEach [] X.env))) := by rfl) :
    ES J X W (.Call (.Attribute o mn apos) (e :: es) [] pos) (eMeth c m fo (fa :: fs)) :=
  meth_of (pl := pl) tk M D hr ho ha (fun pins σ x s1 H1 Q I1 h => PySem.W.callWith_K (first := [.ref x]) (h₀ := X.base) I1.ok.mod.kin M.me.kp (thn (ha.run pos pins s1 σ H1 _ I1 h) fun us s2 ⟨vs, H2, I2, r, q⟩ => ⟨I2.kIn, q us s2 I2 r⟩) hst hpl) ht
theorem es_meth0 {c : Nat} {mn : Str} {C f : Addr} {m : Fn} {k : Nat} {pl : Sem Bool} (tk : Takes X W) (M : MeF J X.K X.mg c mn C f) (D : DfX J X k 1 f m) (hr : Room k X.A) (ho : ES J X W o fo)
    (ht : eval (.Call (.Attribute o mn apos) [] [] pos) X.env = (do
      let ov ← eval o X.env
      standAt apos.atName
      let (f, first) ← holding [ov] (getMethod ov mn pl)
      callWith pos f first (backTo pos (starEach [] X.env)) (backToKw pos (keywordEach [] X.env))) := by rfl) :
    ES J X W (.Call (.Attribute o mn apos) [] [] pos) (eMeth c m fo []) :=
  meth_of (pl := pl) (fs := []) tk M D hr ho as_nil (fun pins σ x s1 H1 Q I1 ⟨env, ρ, F, s, g, l, k⟩ => PySem.W.callWith_K0 (first := [.ref x]) I1.kIn M.me.kp (k ρ F H1 [] LE.refl g (by simp only [Dens]) [] s1 I1 .nil)) ht
/-- what of the text the making of an object asks -/
structure MkF (J : Cn) (K : PySem.W.Frag) (mg : Str → Option Value) (c : Nat) (C f : Addr) : Prop where
  mg : mg (J c).1 = some (.ref C)
  mak : Mk K C f
  few : (J c).2.length < 1000
def eMake (c : Nat) (m : Fn) (fs : List Ex) : Ex := fun env => bnd (evs fs env) fun ds s => bnd (m (.obj s.length :: ds)) (fun _ s' => .ok (.obj s.length) s') (s ++ [.ins c []])
theorem make_of {c : Nat} {C f : Addr} {m : Fn} {k n : Nat} (tk : Takes X W) (M : MkF J X.K X.mg c C f) (D : DfX J X k (n + 1) f m) (hr : Room (k + 1) X.A)
    (hnon : ∀ ds s d s', m ds s = .ok d s' → d = .non) {pins : List (Addr × Obj)} {σ : St} {H : Hp} {s : Shared} {ρ : List Addr} {F : Hp} {st : Sto} {ds : List Dt} {us : List Value} {vs : List V} {Q : VK} (I : Inv X pins σ H s) (r : Vals vs us) (g : G (wd J X) ρ F st H) (t : Dens (wd J X) ρ F ds vs) (hn : ds.length = n)
    (q : EPo (wd J X) ρ F H Q (fun c H' => W c none σ H') (bnd (m (.obj st.length :: ds)) (fun _ s' => .ok (.obj st.length) s') (st ++ [.ins c []]))) : wpAny (model X.prog X.w) X.A (call (.ref C) us) (EP X pins σ Q) X.xe s := by
  obtain ⟨fd, ps, Fk, hb⟩ := D.ok
  have I2 := Inv.made (C := C) I
  have n1 : H (s.heap.objs.size + 1) = none := I.hok.fresh (Nat.le_succ _)
  have n0 : H s.heap.objs.size = none := I.hok.fresh (Nat.le_refl _)
  have ne : s.heap.objs.size + 1 ≠ s.heap.objs.size := Nat.succ_ne_self _
  have g1 : G (wd J X) ρ F st (upd H s.heap.objs.size (.own (s.heap.objs.size + 1))) := g.skip _ n0
  have n1' : upd H s.heap.objs.size (.own (s.heap.objs.size + 1)) (s.heap.objs.size + 1) = none := by rw [upd_ne ne]; exact n1
  have g2 : G (wd J X) (ρ ++ [s.heap.objs.size + 1]) F (st ++ [.ins c []]) (upd (upd H s.heap.objs.size (.own (s.heap.objs.size + 1))) (s.heap.objs.size + 1) (.ins C s.heap.objs.size [])) :=
    g1.new n1' ⟨C, s.heap.objs.size, [], M.mg, by rw [upd_same]; simp, by simp only [Dens], Nat.zero_le _, M.few⟩
  have l2 : LE ρ F H (ρ ++ [s.heap.objs.size + 1]) F (upd (upd H s.heap.objs.size (.own (s.heap.objs.size + 1))) (s.heap.objs.size + 1) (.ins C s.heap.objs.size [])) := (LE.skip n0).trans (LE.new n1')
  have hob : Den (wd J X) (ρ ++ [s.heap.objs.size + 1]) F (.obj st.length) (.ref (s.heap.objs.size + 1)) := by
    simp only [Den]
    exact ⟨_, rfl, by rw [← g.len, List.getElem?_append_right (Nat.le_refl _), Nat.sub_self]; rfl⟩
  have hsp : spD (wd J X) (n + 1) m (.ref (s.heap.objs.size + 1) :: vs) (upd (upd H s.heap.objs.size (.own (s.heap.objs.size + 1))) (s.heap.objs.size + 1) (.ins C s.heap.objs.size [])) (fun v H2 => v = .non ∧ Q (.ref (s.heap.objs.size + 1)) H2) (WE W σ) := by
    refine ⟨_, F, _, .obj st.length :: ds, g2, ?_, by rw [List.length_cons, hn], ?_⟩
    · simp only [Dens]
      exact ⟨_, vs, rfl, hob, Dens.mono l2 _ _ t⟩
    · have q2 := q.mono l2 (fun _ _ z => z) fun _ _ z => z
      refine Po.bind q2 fun d s3 ρ3 F3 H3 v e3 l3 g3 r3 k3 => ?_
      have ed := hnon _ _ _ _ e3
      subst ed
      simp only [Den] at r3
      exact ⟨r3, k3 ρ3 F3 H3 _ LE.refl g3 (Den.mono l3 _ _ hob)⟩
  have r2 : Vals (V.ref (s.heap.objs.size + 1) :: vs) (Value.ref (s.heap.objs.size + 1) :: us) := .cons rfl r
  have hl : (Value.ref (s.heap.objs.size + 1) :: us).length = ps.length := by rw [← r2.length]; exact Fk.len _ _ _ _ hsp
  have b2 := hb { s with heap := (s.heap.push PySem.W.emptyDict).push (PySem.W.instObj C s.heap.objs.size) } (Value.ref (s.heap.objs.size + 1) :: us) I2.kIn (by rw [List.append_nil]; exact hl)
  rw [List.append_nil] at b2
  refine wpAny_call (make_map (f := f) I.kIn M.mak.makes M.mak.init (beq_iff_eq.mp M.mak.fn) (codeAny_mono (Fk.run _ X.stack _ _ ⟨Value.ref (s.heap.objs.size + 1) :: us, []⟩ _ _ _ (WE W σ) (hr.make C us []) (I2.env0.make C us []) b2 r2 hsp) fun rs s' hq => ?_))
  cases rs with
  | error e => exact passAt tk σ pins _ _ e s' I2 hq
  | ok fl =>
    cases fl with
    | ret u =>
      obtain ⟨v, H', I3, rv, ev, q3⟩ := I2.after hq
      subst ev
      exact ⟨rv, ⟨V.ref (s.heap.objs.size + 1), H', I3, rfl, q3⟩⟩
    | _ => exact False.elim hq
theorem es_make {c : Nat} {x : Str} {C f : Addr} {m : Fn} {k : Nat} (tk : Takes X W) (M : MkF J X.K X.mg c C f) (D : DfX J X k (fs.length + 2) f m) (hr : Room (k + 1) X.A) (hnon : ∀ ds s d s', m ds s = .ok d s' → d = .non) (hx : (J c).1 = x) (hg : Gl X x) (ha : ASo J X W (e :: es) (fa :: fs))
    (hdb : (x == ("__debug__" : Str)) = false := by decide) (he : starEach (e :: es) X.env = (false, eval e X.env) :: starEach es X.env := by rfl) (hpl : (backTo pos (starEach es X.env)).any (·.1) = false := by rfl) :
    ES J X W (.Call (.Name x p) (e :: es) [] pos) (eMake c m (fa :: fs)) := by
  refine ⟨fun pins s σ H Q I h => ?_⟩
  obtain ⟨env, ρ, F, st, g, l, k⟩ := h
  refine wpAny_Call_Name_kw (ld_glob I hg (by rw [← hx]; exact M.mg) ?_ hdb)
  refine PySem.W.callWith_K (h₀ := X.base) I.ok.mod.kin M.mak.kp (thn (ha.run pos pins s σ H (fun vs H1 => ∀ us s1, Inv X pins σ H1 s1 → Vals vs us → wpAny (model X.prog X.w) X.A (call (.ref C) us) (EP X pins σ Q) X.xe s1) I ⟨env, ρ, F, st, g, l, Po.bind k fun ds s1 ρ1 F1 H1 vs e1 l1 g1 r1 k1 us s2 I2 rv => make_of tk M D hr hnon I2 rv g1 r1 (evs_len e1) k1⟩) fun us s1 ⟨vs, H1, I1, r, q⟩ => ⟨I1.kIn, q us s1 I1 r⟩) he hpl
theorem es_make0 {c : Nat} {x : Str} {C f : Addr} {m : Fn} {k : Nat} (tk : Takes X W) (M : MkF J X.K X.mg c C f) (D : DfX J X k 1 f m) (hr : Room (k + 1) X.A) (hnon : ∀ ds s d s', m ds s = .ok d s' → d = .non) (hx : (J c).1 = x) (hg : Gl X x)
    (hdb : (x == ("__debug__" : Str)) = false := by decide) :
    ES J X W (.Call (.Name x p) [] [] pos) (eMake c m []) := by
  refine ⟨fun pins s σ H Q I h => ?_⟩
  obtain ⟨env, ρ, F, st, g, l, k⟩ := h
  refine wpAny_Call_Name_kw (ld_glob I hg (by rw [← hx]; exact M.mg) ?_ hdb)
  exact PySem.W.callWith_K0 I.kIn M.mak.kp (make_of (us := []) (vs := []) (ds := []) tk M D hr hnon I .nil g (by simp only [Dens]) rfl k)
/-! ### a def by its body -/
def fnOf (n : Nat) (f : Sx) : Fn := fun ds s => match f (ds.map some ++ List.replicate (n - ds.length) none) s with
  | .fl (.rt d) s' => .ok d s'
  | .fl (.nx _) s' => .ok .non s'
  | .exc c _ s' => .exc c s'
  | _ => .bad
end
theorem Dens.slots {Γ : Wd} {ρ : List Addr} {F : Hp} {ds : List Dt} {vs : List V} (t : Dens Γ ρ F ds vs) (N : List Str) : Sl Γ ρ F (ds.map some ++ List.replicate (N.length - ds.length) none) (L2.start N vs) := by
  unfold L2.start
  refine ⟨by simp [t.length], fun i d h => ?_⟩
  by_cases hi : i < ds.length
  · rw [List.getElem?_append_left (by simpa using hi), List.getElem?_map] at h
    obtain ⟨d', e1, e2⟩ := Option.map_eq_some_iff.mp h
    cases e2
    obtain ⟨v, e3, r⟩ := t.get e1
    exact ⟨v, by rw [List.getElem?_append_left (by rw [List.length_map, ← t.length]; exact hi), List.getElem?_map, e3]; rfl, r⟩
  · rw [List.getElem?_append_right (by simpa using hi), List.getElem?_replicate] at h
    split at h
    · simp at h
    · cases h
/-- the same def by a meaning that ends alike wherever the first one ends well -/
theorem Df.imp {P : Program} {w : World} {K : PySem.W.Frag} {mg : Str → Option Value} {base : Heap} {J : Cn} {k n : Nat} {f : Addr} {m m' : Fn} (D : Df P w K mg base J k n f m)
    (h : ∀ ds s, ds.length = n → m' ds s ≠ .bad → m ds s = m' ds s) : Df P w K mg base J k n f m' := by
  obtain ⟨fd, ps, F, hb⟩ := D.ok
  refine ⟨fd, ps, F.imp fun vs H Q E ⟨ρ, Fz, s, ds, g, t, z, q⟩ => ⟨ρ, Fz, s, ds, g, t, z, ?_⟩, hb⟩
  rw [h ds s z (fun e => by rw [e] at q; exact q)]
  exact q
theorem Df.mono {P : Program} {w : World} {K : PySem.W.Frag} {mg : Str → Option Value} {base : Heap} {J : Cn} {k k' n : Nat} {f : Addr} {m : Fn} (D : Df P w K mg base J k n f m) (h : k ≤ k') : Df P w K mg base J k' n f m := by
  obtain ⟨fd, ps, F, hb⟩ := D.ok
  exact ⟨fd, ps, F.mono h, hb⟩
theorem fn_of_body {P : Program} {w : World} {K : PySem.W.Frag} {mg : Str → Option Value} {base : Heap} {J : Cn} {k n : Nat} {f : Addr} {m : Fn} {fd : FuncData} {ps : List Str} {x qual : Str} {st : Stmt} {N : List Str} {fb : Sx}
    (F : Fun K x qual st f fd) (S : FnScope N ps (defScope st)) (hn : ps.length = n) (hm : m = fnOf N.length fb)
    (body : ∀ (cdv : Value) (A : Around) (outer : List Env) (s : Shared) (H : Hp) (E : XK), Room k (A.deeper (PyProof.Rows.envOfC qual (defScope st) s.heap.objs.size f cdv)) →
      SSs J (cxOf (L2.CX P w) P w K mg base N qual (defScope st) f cdv A outer s H E) (fun cls d _ H' => E cls d H') (defBody st) fb) : FnOk P w K mg base (L2.CX P w) (k + 1) f fd ps (spD ⟨K, mg, J⟩ n m) := by
  subst hn; subst hm
  refine F.okX S (fun vs H Q E h => ?_) (fun cdv A outer s H vs Q E hr h => ⟨_, body cdv A outer s H E hr, ?_⟩)
  · obtain ⟨ρ, F, s, ds, g, t, z, _⟩ := h
    rw [← t.length, z]
  · obtain ⟨ρ, Fz, so, ds, g, t, z, q⟩ := h
    refine ⟨_, ρ, Fz, so, g, t.slots N, ?_⟩
    unfold fnOf at q
    cases e : fb (ds.map some ++ List.replicate (N.length - ds.length) none) so with
    | fl f s' =>
      rw [e] at q
      cases f with
      | nx e1 => exact fun ρ' F' H' σ' l' g' _ => q ρ' F' H' .non l' g' (by simp only [Den])
      | rt d => exact q
      | bk d => exact False.elim q
      | ct d => exact False.elim q
    | exc c e1 s' =>
      rw [e] at q
      exact fun ρ' F' H' σ' C l' g' _ hC => q ρ' F' H' C l' g' hC
    | bad => rw [e] at q; exact q
theorem df_of {P : Program} {w : World} {K : PySem.W.Frag} {mg : Str → Option Value} {base : Heap} {J : Cn} {x qual : Str} {st : Stmt} {f : Addr} {fd : FuncData} {N ps : List Str} {k : Nat} {fb : Sx}
    (F : Fun K x qual st f fd) (S : FnScope N ps (defScope st)) (hb : Binds K fd ps [])
    (body : ∀ (cdv : Value) (A : Around) (outer : List Env) (s : Shared) (H : Hp) (E : XK), Room k (A.deeper (PyProof.Rows.envOfC qual (defScope st) s.heap.objs.size f cdv)) →
      SSs J (cxOf (L2.CX P w) P w K mg base N qual (defScope st) f cdv A outer s H E) (fun cls d _ H' => E cls d H') (defBody st) fb) : Df P w K mg base J (k + 1) ps.length f (fnOf N.length fb) :=
  ⟨fd, ps, fn_of_body F S rfl rfl body, hb⟩
/-- the law's own promise at the script -/
theorem law_sp {K : PySem.W.Frag} {mg : Str → Option Value} {J : Cn} {m : Fn} (h : ∀ ns : List Int, ns.length ≤ 63 → ∃ s, m [.lsk (ns.map .int)] [] = .ok (.bl true) s) {H : Hp} {a : Addr} {ns : List Int} (hl : ns.length ≤ 63) (hs : SqL K H a (ns.map V.int)) :
    spD ⟨K, mg, J⟩ 1 m [.ref a] H (fun v _ => v = .bl true) fun _ _ _ => False := by
  obtain ⟨s, e⟩ := h ns hl
  refine ⟨[], H, [], [.lsk (ns.map .int)], ⟨fun _ _ h => h, rfl, List.nodup_nil, (fun _ h => nomatch h), (fun i a mo h => by simp at h)⟩, ?_, rfl, ?_⟩
  · simp only [Dens, Den]
    refine ⟨_, _, rfl, ⟨by rw [List.length_map, sizeLine_eq]; omega, a, _, rfl, hs, ?_⟩, rfl⟩
    clear e hl hs
    induction ns with
    | nil => simp only [List.map_nil, Dens]
    | cons n ns ih =>
      simp only [List.map_cons, Dens]
      exact ⟨_, _, rfl, by simp only [Den], ih⟩
  · rw [e]
    intro ρ' F' H' v l g r
    simp only [Den] at r
    exact r
/-! ### a body that hands back nothing -/
def NoRt (f : Sx) : Prop := ∀ env s d s', f env s ≠ .fl (.rt d) s'
theorem noRt_next : NoRt sNext := fun env s d s' h => by cases h
theorem noRt_expr {f : Ex} : NoRt (sExpr f) := fun env s d s' h => by
  unfold sExpr sBnd at h
  split at h <;> cases h
theorem noRt_setF {c i : Nat} {fo fv : Ex} : NoRt (sSetF c i fo fv) := fun env s d s' h => by
  unfold sSetF sBnd at h
  split at h
  · dsimp only at h
    split at h
    · split at h <;> cases h
    · cases h
    · cases h
  · cases h
  · cases h
theorem noRt_seq {f g : Sx} (hf : NoRt f) (hg : NoRt g) : NoRt (sSeq f g) := fun env s d s' h => by
  unfold sSeq at h
  split at h
  · exact hg _ _ _ _ h
  · exact hf _ _ _ _ h
theorem noRt_fn {n : Nat} {f : Sx} (hf : NoRt f) : ∀ ds s d s', fnOf n f ds s = .ok d s' → d = .non := fun ds s d s' h => by
  unfold fnOf at h
  split at h
  · rename_i e
    exact absurd e (hf _ _ _ _)
  · cases h; rfl
  · cases h
  · cases h
theorem _root_.L2.Room.u65 {k : Nat} {A : Around} (r : L2.Room k A) : A.units + 65 < cLine := by have := r.un; omega
theorem _root_.L2.Room.u1 {k : Nat} {A : Around} (r : L2.Room k A) : A.units + 1 < cLine := by have := r.un; omega
end Pd
namespace Pd
open PySem L2
/-! ### what a loop walks -/
structure ItS (Γ : Wd) (ρ0 : List Addr) (F0 : Hp) (T : It) (l : List Dt) (ok : Sto → Prop) : Prop where
  len : l.length ≤ sizeLine
  go : ∀ (i : Nat) ρ F s H, LD ρ0 F0 ρ F → G Γ ρ F s H → ok s → i < l.length → T.go i H
  stop : ∀ (i : Nat) ρ F s H, LD ρ0 F0 ρ F → G Γ ρ F s H → ok s → i = l.length → T.stop i H
  yld : ∀ (i : Nat) ρ F s H d x H', LD ρ0 F0 ρ F → G Γ ρ F s H → ok s → l[i]? = some d → T.yld i H x H' → ∃ F', LE ρ F H ρ F' H' ∧ G Γ ρ F' s H' ∧ Den Γ ρ F' d x
abbrev Is := En → Sto → Out (List Dt × (Sto → Prop))
def tI (Γ : Wd) (W : WX) (f : Is) : TI := fun σ H R => ∃ env ρ F s, G Γ ρ F s H ∧ Sl Γ ρ F env σ ∧ Po Γ (fun ρ F (a : List Dt × (Sto → Prop)) (T : It) => ItS Γ ρ F T a.1 a.2) ρ F H R (fun c H' => W c none σ H') (f env s)
abbrev IS (J : Cn) (X : Cx) (W : WX) (tg iter : Expr) (f : Is) : Prop := PI X tg iter (tI (wd J X) W f)
theorem PI.imp {X : Cx} {tg e : Expr} {t t' : TI} (h : PI X tg e t) (k : ∀ σ H R, t' σ H R → t σ H R) : PI X tg e t' := ⟨fun pins s σ H R I q => h.run pins s σ H R I (k σ H R q)⟩
theorem PI.or {X : Cx} {tg e : Expr} {t t' : TI} (h : PI X tg e t) (h' : PI X tg e t') : PI X tg e (fun σ H R => t σ H R ∨ t' σ H R) := ⟨fun pins s σ H R I q => by
  rcases q with q | q
  · exact h.run pins s σ H R I q
  · exact h'.run pins s σ H R I q⟩
def signs (x : Str) : List Dt := x.cps.toList.map fun c => .str ⟨#[c]⟩
/-- a list, a tuple, a text -/
def iSeq (f : Ex) : Is := fun env => bnd (f env) fun d s => match d with
  | .str x => .ok (signs x, fun _ => True) s
  | d => match asQ s d with
    | some l => .ok (l, fun s' => asQ s' d = some l) s
    | none => .bad
def iRange (f : Ex) : Is := fun env => bnd (f env) fun d s => match d with
  | .int n => if n ≤ 16777216 ∧ -(2 ^ 62) ≤ n then .ok ((List.range n.toNat).map fun (k : Nat) => .int k, fun _ => True) s else .bad
  | _ => .bad
def iRange2 (f g : Ex) : Is := fun env => bnd (f env) fun d => bnd (g env) fun e s => match d, e with
  | .int i, .int j => if (-(2 ^ 62) ≤ i ∧ i < 2 ^ 62 ∧ -(2 ^ 62) ≤ j ∧ j < 2 ^ 62) ∧ j - i ≤ 16777216 then .ok ((List.range (j - i).toNat).map fun (k : Nat) => .int (i + k), fun _ => True) s else .bad
  | _, _ => .bad
theorem its_range {Γ : Wd} {ρ : List Addr} {F : Hp} {lo : Int} {n : Nat} {l : List Dt} {ok : Sto → Prop} (hl : l = (List.range n).map fun (k : Nat) => .int (lo + k)) (hz : n ≤ sizeLine) : ItS Γ ρ F (Itr lo n) l ok where
  len := by rw [hl, List.length_map, List.length_range]; exact hz
  go := fun i _ _ _ _ _ _ _ h => by rw [hl, List.length_map, List.length_range] at h; exact h
  stop := fun i _ _ _ _ _ _ _ h => by rw [hl, List.length_map, List.length_range] at h; exact Nat.le_of_eq h.symm
  yld := fun i ρ F s H d x H' _ g _ hd y => by
    obtain ⟨e1, e2⟩ := y
    subst e1
    refine ⟨F, LE.refl, g, ?_⟩
    rw [hl, List.getElem?_map] at hd
    obtain ⟨k, e3, e4⟩ := Option.map_eq_some_iff.mp hd
    have e5 : i = k := by
      have := List.getElem?_eq_some_iff.mp e3
      obtain ⟨h1, h2⟩ := this
      simpa using h2
    subst e5; subst e4
    simp only [Den]
    exact e2
theorem its_str {Γ : Wd} {ρ : List Addr} {F : Hp} {x : Str} {ok : Sto → Prop} (hx : sok x = true) : ItS Γ ρ F (Its x) (signs x) ok where
  len := by unfold signs; rw [List.length_map]; exact (by simpa [Str.length] using sok_len hx)
  go := fun i _ _ _ _ _ _ _ h => by unfold signs at h; rw [List.length_map] at h; show i < x.cps.size; simpa using h
  stop := fun i _ _ _ _ _ _ _ h => by unfold signs at h; rw [List.length_map] at h; exact Nat.le_of_eq (by simpa using h.symm)
  yld := fun i ρ F s H d v H' _ g _ hd y => by
    obtain ⟨e1, c, e2, e3⟩ := y
    subst e1
    refine ⟨F, LE.refl, g, ?_⟩
    unfold signs at hd
    rw [List.getElem?_map] at hd
    obtain ⟨k, e4, e5⟩ := Option.map_eq_some_iff.mp hd
    have e6 : c = k := by
      have z : x.cps.toList[i]? = some c := by simpa using e2
      rw [z] at e4
      exact Option.some.inj e4
    subst e6; subst e5
    simp only [Den]
    exact ⟨e3, sok_sign hx (List.mem_of_getElem? e4)⟩
theorem its_list {Γ : Wd} {ρ : List Addr} {F : Hp} {d : Dt} {v : V} {a : Addr} {l : List Dt} (r : Den Γ ρ F d v) (e : v = .ref a) (hq : ∀ s : Sto, asQ s d = asL s d) (hz : l.length ≤ sizeLine) : ItS Γ ρ F (Itl Γ.K a) l (fun s => asQ s d = some l) where
  len := hz
  go := fun i ρ1 F1 s H ld g ok h => by
    obtain ⟨b, xs, e1, q, t, _⟩ := g.sqL (Den.monoD ld d v r) (by rw [← hq]; exact ok)
    rw [e] at e1; cases e1
    have hx : i < xs.length := by rw [← t.length]; exact h
    exact ⟨xs, xs[i], q, List.getElem?_eq_getElem hx⟩
  stop := fun i ρ1 F1 s H ld g ok h => by
    obtain ⟨b, xs, e1, q, t, _⟩ := g.sqL (Den.monoD ld d v r) (by rw [← hq]; exact ok)
    rw [e] at e1; cases e1
    exact ⟨xs, q, by rw [← t.length]; exact Nat.le_of_eq h.symm⟩
  yld := fun i ρ1 F1 s H d' x H' ld g ok hd y => by
    obtain ⟨b, xs, e1, q, t, _⟩ := g.sqL (Den.monoD ld d v r) (by rw [← hq]; exact ok)
    rw [e] at e1; cases e1
    obtain ⟨e2, hy⟩ := y
    subst e2
    obtain ⟨u, e3, ru⟩ := t.get hd
    rw [hy xs q] at e3
    cases e3
    exact ⟨F1, LE.refl, g, ru⟩
theorem its_tup {Γ : Wd} {ρ : List Addr} {F : Hp} {v : V} {a : Addr} {l : List Dt} {ok : Sto → Prop} (r : Den Γ ρ F (.tup l) v) (e : v = .ref a) (hz : l.length ≤ sizeLine) : ItS Γ ρ F (Itt Γ.K a) l ok where
  len := hz
  go := fun i ρ1 F1 s H ld g _ h => by
    obtain ⟨b, xs, e1, q, t, _⟩ := g.sqT (Den.monoD ld _ v r) (l := l) rfl
    rw [e] at e1; cases e1
    have hx : i < xs.length := by rw [← t.length]; exact h
    exact ⟨xs, xs[i], q, List.getElem?_eq_getElem hx⟩
  stop := fun i ρ1 F1 s H ld g _ h => by
    obtain ⟨b, xs, e1, q, t, _⟩ := g.sqT (Den.monoD ld _ v r) (l := l) rfl
    rw [e] at e1; cases e1
    exact ⟨xs, q, by rw [← t.length]; exact Nat.le_of_eq h.symm⟩
  yld := fun i ρ1 F1 s H d' x H' ld g _ hd y => by
    obtain ⟨b, xs, e1, q, t, _⟩ := g.sqT (Den.monoD ld _ v r) (l := l) rfl
    rw [e] at e1; cases e1
    obtain ⟨e2, hy⟩ := y
    subst e2
    obtain ⟨u, e3, ru⟩ := t.get hd
    rw [hy xs q] at e3
    cases e3
    exact ⟨F1, LE.refl, g, ru⟩
section
variable {J : Cn} {X : Cx} {W : WX} {a b c e e2 o tgt : Expr} {es : List Expr} {fa fb fc fe fo : Ex} {fs : List Ex} {ft fu : Tx} {pos p : Pos} {st : Stmt} {rest : List Stmt} {f1 f2 : Sx}
theorem is_seq (h : ES J X W e fe) : IS J X W tgt e (iSeq fe) :=
  PI.imp (PI.or (pi_list h) (PI.or (pi_tup h) (pi_str h))) fun σ H R ⟨env, ρ, F, s, g, l, k⟩ => by
    unfold iSeq at k
    have case_bad : fe env s = .bad → False := fun e => by unfold bnd at k; rw [e] at k; exact k
    cases ev : fe env s with
    | bad => exact (case_bad ev).elim
    | exc c s1 =>
      unfold bnd at k
      rw [ev] at k
      exact .inl ⟨env, ρ, F, s, g, l, by rw [ev]; exact k⟩
    | ok d s1 =>
      have k' := k
      unfold bnd at k'
      rw [ev] at k'
      have gen : (∀ s, asQ s d = asL s d) → ∀ l', asQ s1 d = some l' → Po (wd J X) (fun ρ F (a : List Dt × (Sto → Prop)) (T : It) => ItS (wd J X) ρ F T a.1 a.2) ρ F H R (fun c H' => W c none σ H') (.ok (l', fun s' => asQ s' d = some l') s1) → iList X.K (tE (wd J X) W fe) σ H R := fun hq l' hl kk =>
        ⟨env, ρ, F, s, g, l, by
          rw [ev]
          exact fun ρ1 F1 H1 v l1 g1 r1 => by
            obtain ⟨x, xs, e1, q, t, z⟩ := g1.sqL r1 (by rw [← hq]; exact hl)
            exact ⟨x, e1, ⟨xs, q⟩, kk ρ1 F1 H1 _ l1 g1 (its_list r1 e1 hq z)⟩⟩
      cases d with
      | str z =>
        refine .inr (.inr ⟨env, ρ, F, s, g, l, ?_⟩)
        rw [ev]
        exact fun ρ1 F1 H1 v l1 g1 r1 => by
          simp only [Den] at r1
          exact ⟨z, r1.1, k' ρ1 F1 H1 _ l1 g1 (its_str r1.2)⟩
      | tup l' =>
        refine .inr (.inl ⟨env, ρ, F, s, g, l, ?_⟩)
        rw [ev]
        exact fun ρ1 F1 H1 v l1 g1 r1 => by
          obtain ⟨x, xs, e1, q, t, z⟩ := g1.sqT r1 (l := l') rfl
          exact ⟨x, e1, ⟨xs, q⟩, k' ρ1 F1 H1 _ l1 g1 (its_tup r1 e1 z)⟩
      | lst l' => exact .inl (gen (fun _ => rfl) l' rfl k')
      | lsk l' => exact .inl (gen (fun _ => rfl) l' rfl k')
      | obj j =>
        simp only [] at k'
        cases eq : asQ s1 (.obj j) with
        | none => rw [eq] at k'; exact False.elim k'
        | some l' => rw [eq] at k'; exact .inl (gen (fun _ => rfl) l' eq k')
      | _ => exact False.elim k'
theorem is_range (hg : Gl X "range") (hm : X.mg "range" = none) (h : ES J X W e fe) (hs : starEach [e] X.env = [(false, eval e X.env)] := by rfl) : IS J X W tgt (.Call (.Name "range" p) [e] [] pos) (iRange fe) :=
  PI.imp (pi_range1 hg hm (pa_cons h pa_nil hs) hs) fun σ H R ⟨env, ρ, F, s, g, l, k⟩ => ⟨env, ρ, F, s, g, l, Po.bind k fun d s1 ρ1 F1 H1 v e1 l1 g1 r1 k1 => by
    cases d with
    | int n =>
      simp only [] at k1
      split at k1
      · rename_i hz
        simp only [Den] at r1
        exact ⟨n, by rw [r1], hz.2, by omega, k1 ρ1 F1 H1 _ LE.refl g1 (its_range (by simp) (by rw [sizeLine_eq]; omega))⟩
      · exact False.elim k1
    | _ => exact False.elim k1⟩
theorem is_range2 (hg : Gl X "range") (hm : X.mg "range" = none) (h : ES J X W a fa) (h' : ES J X W b fb) (hs : starEach [a, b] X.env = [(false, eval a X.env), (false, eval b X.env)] := by rfl) (hs2 : starEach [b] X.env = [(false, eval b X.env)] := by rfl) : IS J X W tgt (.Call (.Name "range" p) [a, b] [] pos) (iRange2 fa fb) := by
  have z1 : starEach (a :: [b]) X.env = (false, eval a X.env) :: starEach [b] X.env := by rw [hs2]; exact hs
  exact PI.imp (pi_range2 hg hm (pa_cons h (pa_cons h' pa_nil hs2) z1) hs hs2) fun σ H R ⟨env, ρ, F, s, g, l, k⟩ => ⟨env, ρ, F, s, g, l, Po.bind k fun d s1 ρ1 F1 H1 v e1 l1 g1 r1 k1 => ⟨env, ρ1, F1, s1, g1, l.mono l1, Po.bind k1 fun d2 s2 ρ2 F2 H2 v2 e2 l2 g2 r2 k2 => by
    cases d with
    | int i =>
      cases d2 with
      | int j =>
        simp only [] at k2
        split at k2
        · rename_i hz
          simp only [Den] at r1 r2
          exact ⟨i, j, by rw [r1, r2], hz.1, k2 ρ2 F2 H2 _ LE.refl g2 (its_range rfl (by rw [sizeLine_eq]; omega))⟩
        · exact False.elim k2
      | _ => exact False.elim k2
    | _ => exact False.elim k2⟩⟩
/-! ### for, while -/
open Classical in
noncomputable def forGo (tg : Tg) (body : Sx) (ok : Sto → Prop) : List Dt → Sx
  | [], env, s => if ok s then .fl (.nx env) s else .bad
  | d :: r, env, s => if ok s then match tg d env with
      | some env1 => match body env1 s with
        | .fl (.nx e) s' => forGo tg body ok r e s'
        | .fl (.ct e) s' => forGo tg body ok r e s'
        | .fl (.bk e) s' => .fl (.nx e) s'
        | .fl (.rt d) s' => .fl (.rt d) s'
        | .exc c e s' => .exc c e s'
        | .bad => .bad
      | none => .bad
    else .bad
noncomputable def sFor (fi : Is) (tg : Tg) (body : Sx) : Sx := fun env => sBnd (fi env) env fun p => forGo tg body p.2 p.1 env
theorem ss_for {iter : Expr} {body : List Stmt} {fi : Is} {is : List Nat} {tg : Tg} (hp : PassesOwn (model X.prog X.w) X.A X.env X.xe) (hc : X.calm = true) (hi : IS J X W tgt iter fi) (hg : GS J X tgt is tg) (hb : SSs J X W body f1)
    (hs : ∀ x, foldedSetIterable iter X.env x = pure x := by intro _; rfl) : SS J X W (.For tgt iter body [] pos) (sFor fi tg f1) :=
  PS.imp (ps_for hp hc hi hg hb hs) fun D σ H ⟨env, ρ, F, s, g, l, k⟩ => ⟨env, ρ, F, s, g, l, FPo.bind k l fun q s1 ρ1 F1 H1 T e1 l1 g1 r1 k1 => by
    obtain ⟨its, ok⟩ := q
    refine ⟨fun i m σ H => i ≤ its.length ∧ m = its.length - i ∧ ∃ env ρ F s, LE ρ1 F1 H1 ρ F H ∧ G (wd J X) ρ F s H ∧ Sl (wd J X) ρ F env σ ∧ FPo (wd J X) W ρ F H D (forGo tg f1 ok (its.drop i) env s), ⟨_, Nat.zero_le _, rfl, env, ρ1, F1, s1, LE.refl, g1, l.mono l1, k1⟩, ?_⟩
    rintro i m σ2 H2 ⟨hi, em, env2, ρ2, F2, s2, l2, g2, sl2, k2⟩
    by_cases hlt : i < its.length
    · obtain ⟨d, hd⟩ : ∃ d, its[i]? = some d := ⟨its[i], List.getElem?_eq_getElem hlt⟩
      have hdr : its.drop i = d :: its.drop (i + 1) := by
        rw [List.drop_eq_getElem_cons hlt]
        congr 1
        have := List.getElem?_eq_some_iff.mp hd
        exact this.2
      rw [hdr] at k2
      simp only [forGo] at k2
      split at k2
      · rename_i hok
        cases et : tg d env2 with
        | none => rw [et] at k2; exact False.elim k2
        | some env3 =>
          rw [et] at k2
          simp only [] at k2
          refine .inr ⟨r1.go i ρ2 F2 s2 H2 l2.ld g2 hok hlt, fun σ' H' => i + 1 ≤ its.length ∧ its.length - (i + 1) = its.length - (i + 1) ∧ ∃ env ρ F s, LE ρ1 F1 H1 ρ F H' ∧ G (wd J X) ρ F s H' ∧ Sl (wd J X) ρ F env σ' ∧ FPo (wd J X) W ρ F H' D (forGo tg f1 ok (its.drop (i + 1)) env s), fun σ' H' hN => ⟨its.length - (i + 1), by rw [em]; omega, hN⟩, fun x H' hy => ?_⟩
          obtain ⟨F3, l3, g3, rd⟩ := r1.yld i ρ2 F2 s2 H2 d x H' l2.ld g2 hok hd hy
          refine ⟨env2, ρ2, F3, s2, d, env3, g3, sl2.mono l3, rd, et, fun σ4 sl4 _ _ => ⟨env3, ρ2, F3, s2, g3, sl4, ?_⟩⟩
          have k3 := k2.le l3
          cases eb : f1 env3 s2 with
          | fl f s4 =>
            rw [eb] at k3
            cases f with
            | nx e4 => exact fun ρ5 F5 H5 σ5 l5 g5 sl5 => ⟨hlt, rfl, e4, ρ5, F5, s4, (l2.trans l3).trans l5, g5, sl5, k3.le l5⟩
            | ct e4 => exact fun ρ5 F5 H5 σ5 l5 g5 sl5 => ⟨hlt, rfl, e4, ρ5, F5, s4, (l2.trans l3).trans l5, g5, sl5, k3.le l5⟩
            | rt d4 => exact k3
            | bk e4 => exact k3
          | exc c4 e4 s4 => rw [eb] at k3; exact k3
          | bad => rw [eb] at k3; exact k3
      · exact False.elim k2
    · have hie : i = its.length := by omega
      have hdr : its.drop i = [] := List.drop_eq_nil_of_le (by omega)
      rw [hdr] at k2
      simp only [forGo] at k2
      split at k2
      · rename_i hok
        exact .inl ⟨r1.stop i ρ2 F2 s2 H2 l2.ld g2 hok hie, k2 ρ2 F2 H2 σ2 LE.refl g2 sl2⟩
      · exact False.elim k2⟩
def whGo (t : Tx) (body : Sx) : Nat → Sx
  | 0, _, _ => .bad
  | n + 1, env, s => sBnd (t env) env (fun c s1 => if c = true then (match body env s1 with
      | .fl (.nx e) s' => whGo t body n e s'
      | .fl (.ct e) s' => whGo t body n e s'
      | .fl (.bk e) s' => .fl (.nx e) s'
      | .fl (.rt d) s' => .fl (.rt d) s'
      | .exc c e s' => .exc c e s'
      | .bad => .bad) else .fl (.nx env) s1) s
theorem ss_while {body : List Stmt} (n : Nat) (hp : PassesOwn (model X.prog X.w) X.A X.env X.xe) (hc : TSo J X W c ft) (hb : SSs J X W body f1) : SS J X W (.While c body [] pos) (whGo ft f1 n) :=
  PS.imp (ps_while hp hc hb) fun D σ H ⟨env, ρ, F, s, g, l, k⟩ => by
    refine ⟨fun m σ H => ∃ env ρ F s, G (wd J X) ρ F s H ∧ Sl (wd J X) ρ F env σ ∧ FPo (wd J X) W ρ F H D (whGo ft f1 m env s), ⟨n, env, ρ, F, s, g, l, k⟩, ?_⟩
    rintro m σ2 H2 ⟨env2, ρ2, F2, s2, g2, sl2, k2⟩
    cases m with
    | zero => exact False.elim k2
    | succ m =>
      simp only [whGo] at k2
      refine ⟨env2, ρ2, F2, s2, g2, sl2, FPo.bind k2 sl2 fun cb s3 ρ3 F3 H3 bb e3 l3 g3 r3 k3 => ?_⟩
      subst r3
      cases cb with
      | false => exact k3 ρ3 F3 H3 σ2 LE.refl g3 (sl2.mono l3)
      | true =>
        refine ⟨fun σ' H' => ∃ env ρ F s, G (wd J X) ρ F s H' ∧ Sl (wd J X) ρ F env σ' ∧ FPo (wd J X) W ρ F H' D (whGo ft f1 m env s), fun σ' H' hN => ⟨m, Nat.lt_succ_self _, hN⟩, env2, ρ3, F3, s3, g3, sl2.mono l3, ?_⟩
        simp only [if_true] at k3
        cases eb : f1 env2 s3 with
        | fl f s4 =>
          rw [eb] at k3
          cases f with
          | nx e4 => exact fun ρ5 F5 H5 σ5 l5 g5 sl5 => ⟨e4, ρ5, F5, s4, g5, sl5, k3.le l5⟩
          | ct e4 => exact fun ρ5 F5 H5 σ5 l5 g5 sl5 => ⟨e4, ρ5, F5, s4, g5, sl5, k3.le l5⟩
          | rt d4 => exact k3
          | bk e4 => exact k3
        | exc c4 e4 s4 => rw [eb] at k3; exact k3
        | bad => rw [eb] at k3; exact k3
end
end Pd
namespace Pd
open PySem L2
/-! ### comprehensions -/
/-- one computation behind another that raises nothing -/
def bndN {α β : Type} (m : Sto → Out α) (k : α → Sto → Out β) (s : Sto) : Out β := match m s with
  | .ok a s' => k a s'
  | _ => .bad
theorem Po.bindN {α β γ δ : Type} {Γ : Wd} {R1 : List Addr → Hp → α → β → Prop} {R2 : List Addr → Hp → γ → δ → Prop} {ρ0 ρ : List Addr} {F0 H0 F H : Hp} {Q : δ → Hp → Prop} {Q1 : β → Hp → Prop} {E E' : Value → Hp → Prop} {m : Sto → Out α} {k : α → Sto → Out γ} {s : Sto}
    (h : Po Γ R2 ρ0 F0 H0 Q E (bndN m k s)) (hk : ∀ a s', m s = .ok a s' → Po Γ R2 ρ0 F0 H0 Q E (k a s') → ∀ ρ' F' H' v, LE ρ F H ρ' F' H' → G Γ ρ' F' s' H' → R1 ρ' F' a v → Q1 v H') : Po Γ R1 ρ F H Q1 E' (m s) := by
  unfold bndN at h
  cases e : m s with
  | ok a s' => rw [e] at h; exact hk a s' e h
  | exc c s' => rw [e] at h; exact False.elim h
  | bad => rw [e] at h; exact False.elim h
theorem LE.at_new {ρ ρ' : List Addr} {F H F' H' : Hp} (l : LE ρ F H ρ' F' H') {p : Addr} {o : HO} (hp : H p = none) : LE ρ F H ρ' F' (upd H' p o) where
  ld := l.ld
  fr := l.fr
  ff := l.ff
  keep := fun a u h n => by rw [upd_ne (ne_of_none h hp)]; exact l.keep a u h n
  there := fun a u h => by
    obtain ⟨w, q⟩ := l.there a u h
    exact ⟨w, by rw [upd_ne (ne_of_none h hp)]; exact q⟩
open Classical in
noncomputable def lcGo (tg : Tg) (ft : Tx) (fe : Ex) (ok : Sto → Prop) : List Dt → En → Sto → Out (List Dt)
  | [], _, s => if ok s then .ok [] s else .bad
  | d :: r, env, s => if ok s then match tg d env with
      | some env1 => bndN (ft env1) (fun b s1 => if b = true then bndN (fe env1) (fun y => bndN (lcGo tg ft fe ok r env) fun ys s => .ok (y :: ys) s) s1 else lcGo tg ft fe ok r env s1) s
      | none => .bad
    else .bad
def wipeD (env : En) : List Nat → En
  | [] => env
  | v :: vs => (wipeD env vs).set v none
noncomputable def eLc (nw : List Dt → Sto → Out Dt) (vs : List Nat) (fi : Is) (tg : Tg) (ft : Tx) (fe : Ex) : Ex := fun env => bnd (fi env) fun p => bndN (lcGo tg ft fe p.2 p.1 (wipeD env vs)) nw
theorem Sl.wipe {Γ : Wd} {ρ : List Addr} {F : Hp} {env : En} {σ : St} (h : Sl Γ ρ F env σ) : ∀ vs : List Nat, Sl Γ ρ F (wipeD env vs) (L2.wipe σ vs)
  | [] => h
  | v :: vs => (Sl.wipe h vs).unset v
theorem wipe_in {τ : St} {j : Nat} : ∀ {vs : List Nat}, j ∈ vs → (L2.wipe τ vs)[j]? = if j < τ.length then some none else none
  | v :: vs, h => by
    show ((L2.wipe τ vs).set v none)[j]? = _
    by_cases e : v = j
    · subst e
      by_cases hl : v < τ.length
      · rw [if_pos hl, List.getElem?_set_self (by rw [wipe_length]; exact hl)]
      · rw [if_neg hl]
        exact List.getElem?_eq_none (by rw [List.length_set, wipe_length]; omega)
    · rw [List.getElem?_set_ne e]
      exact wipe_in (by
        rcases List.mem_cons.mp h with h | h
        · exact absurd h.symm e
        · exact h)
theorem wipe_same {σ σ2 : St} {is vs : List Nat} (hsub : ∀ i ∈ is, i ∈ vs) (hl : σ2.length = (L2.wipe σ vs).length) (h : ∀ j, j ∉ is → σ2[j]? = (L2.wipe σ vs)[j]?) : L2.wipe σ2 vs = L2.wipe σ vs := by
  apply List.ext_getElem?
  intro j
  by_cases hj : j ∈ vs
  · rw [wipe_in hj, wipe_in hj, hl, wipe_length]
  · rw [wipe_out hj]
    exact h j fun z => hj (hsub j z)
section
variable {J : Cn} {X : Cx} {W : WX} {a b c e e2 o tgt iter elt : Expr} {es ifs : List Expr} {fa fb fc fe fo : Ex} {fs : List Ex} {ft fu : Tx} {pos p : Pos} {st : Stmt} {rest : List Stmt} {f1 f2 : Sx} {fi : Is} {is : List Nat} {tg : Tg}
abbrev W0 : WX := fun _ _ _ _ => False
/-- what holds of the new list once it is whole -/
theorem lst_done {nw : List Dt → Sto → Out Dt} (n : IsNw nw) {Γ : Wd} {ρ0 ρ : List Addr} {F0 H0 F H : Hp} {s : Sto} {acc : List Dt} {xs : List V} {D : Addr} {Q : VK} {E : Value → Hp → Prop} (g : G Γ ρ F s H) (l : LE ρ0 F0 H0 ρ F H) (t : Dens Γ ρ F acc xs) (hz : acc.length ≤ sizeLine) (hD : H D = some (.lst xs)) (h0 : H0 D = none) (nr : D ∉ ρ) (nf : F D = none)
    (k : EPo Γ ρ0 F0 H0 Q E (nw acc s)) : Q (.ref D) H := by
  have eH : upd H D (.lst xs) = H := by
    funext x
    by_cases e : x = D
    · subst e; rw [upd_same, hD]
    · rw [upd_ne e]
  rcases n with n | n
  · subst n
    have ld : LD ρ F ρ (upd F D (.lst xs)) := LD.upd nf
    refine k ρ (upd F D (.lst xs)) H _ ⟨l.ld.trans ld, l.fr, fun a o h => ?_, l.keep, l.there⟩ ⟨fun a o h => ?_, g.len, g.nd, fun a h => ?_, fun i a mo h1 h2 => (g.at_ i a mo h1 h2).mono ld rfl⟩ ?_
    · by_cases e : a = D
      · subst e; exact .inr h0
      · rw [upd_ne e] at h; exact l.ff a o h
    · by_cases e : a = D
      · subst e; rw [upd_same] at h; cases h; exact hD
      · rw [upd_ne e] at h; exact g.sub a o h
    · rw [upd_ne (fun z => nr (by rw [← z]; exact h))]; exact g.sep a h
    · simp only [Den]
      exact ⟨hz, D, xs, rfl, upd_same, Dens.monoD ld _ _ t⟩
  · subst n
    have ld : LD ρ F (ρ ++ [D]) F := LD.push
    refine k (ρ ++ [D]) F H _ ⟨l.ld.trans ld, fun a h => ?_, l.ff, l.keep, l.there⟩ ⟨g.sub, by simp [g.len], ?_, fun a h => ?_, fun i a m h1 h2 => ?_⟩ ?_
    · rcases List.mem_append.mp h with h | h
      · exact l.fr a h
      · rw [List.mem_singleton] at h; rw [h]; exact .inr h0
    · refine List.nodup_append.mpr ⟨g.nd, by simp, fun a ha b hb => ?_⟩
      rw [List.mem_singleton] at hb
      rw [hb]
      exact fun z => nr (by rw [← z]; exact ha)
    · rcases List.mem_append.mp h with h | h
      · exact g.sep a h
      · rw [List.mem_singleton] at h; rw [h]; exact nf
    · by_cases hi : i < ρ.length
      · rw [List.getElem?_append_left hi] at h1
        rw [List.getElem?_append_left (by rw [← g.len]; exact hi)] at h2
        exact (g.at_ i a m h1 h2).mono ld rfl
      · rw [List.getElem?_append_right (by omega)] at h1
        rw [List.getElem?_append_right (by rw [← g.len]; omega)] at h2
        have e0 : i - ρ.length = 0 := by
          have := (List.getElem?_eq_some_iff.mp h1).1
          simp at this
          omega
        rw [e0] at h1
        rw [← g.len, e0] at h2
        cases h1
        cases h2
        exact ⟨hz, xs, hD, Dens.monoD ld _ _ t⟩
    · simp only [Den]
      exact ⟨D, rfl, by rw [← g.len, List.getElem?_append_right (Nat.le_refl _), Nat.sub_self]; rfl⟩
theorem lc_of {nw : List Dt → Sto → Out Dt} (n : IsNw nw) {vs : List Nat} (hsub : ∀ i ∈ is, i ∈ vs) {σ : St} {H : Hp} {Q : VK} (h : tE (wd J X) W (eLc nw vs fi tg ft fe) σ H Q) : tLc (tI (wd J X) W fi) (tG (wd J X) is tg) (tT (wd J X) W0 ft) (tE (wd J X) W0 fe) vs σ H Q := by
  obtain ⟨env, ρ, F, s, g, l, k⟩ := h
  refine ⟨env, ρ, F, s, g, l, Po.bind k fun q s1 ρ1 F1 H1 T e1 l1 g1 r1 k1 D hD => ?_⟩
  obtain ⟨its, ok⟩ := q
  have swl := (l.mono l1).wipe vs
  refine ⟨fun i m H => i ≤ its.length ∧ m = its.length - i ∧ ∃ ρ F s acc xs, LE ρ1 F1 H1 ρ F H ∧ G (wd J X) ρ F s H ∧ D ∉ ρ ∧ F D = none ∧ H D = some (.lst xs) ∧ Dens (wd J X) ρ F acc xs ∧ acc.length ≤ i ∧
      EPo (wd J X) ρ1 F1 H1 Q (fun c H' => W c none σ H') (bndN (lcGo tg ft fe ok (its.drop i) (wipeD env vs)) (fun ds => nw (acc ++ ds)) s), ?_, ?_⟩
  · refine ⟨its.length, Nat.zero_le _, rfl, ρ1, F1, s1, [], [], LE.skip hD, g1.skip _ hD, fun z => ?_, g1.fnone hD, upd_same, by simp only [Dens], Nat.le_refl _, k1⟩
    exact (g1.new_ne hD z) rfl
  · rintro i m H2 ⟨hi, em, ρ2, F2, s2, acc, xs, l2, g2, nr, nf, hDx, t, hac, k2⟩
    by_cases hlt : i < its.length
    · obtain ⟨d, hd⟩ : ∃ d, its[i]? = some d := ⟨its[i], List.getElem?_eq_getElem hlt⟩
      have hdr : its.drop i = d :: its.drop (i + 1) := by
        rw [List.drop_eq_getElem_cons hlt]
        congr 1
        exact (List.getElem?_eq_some_iff.mp hd).2
      rw [hdr] at k2
      have hok : ok s2 := by
        apply Classical.byContradiction
        intro hno
        simp only [bndN, lcGo, if_neg hno] at k2
        exact k2
      cases et : tg d (wipeD env vs) with
      | none => simp only [bndN, lcGo, if_pos hok, et] at k2; exact False.elim k2
      | some env1 =>
        refine .inr ⟨r1.go i ρ2 F2 s2 H2 l2.ld g2 hok hlt, fun H' => i + 1 ≤ its.length ∧ its.length - (i + 1) = its.length - (i + 1) ∧ ∃ ρ F s acc xs, LE ρ1 F1 H1 ρ F H' ∧ G (wd J X) ρ F s H' ∧ D ∉ ρ ∧ F D = none ∧ H' D = some (.lst xs) ∧ Dens (wd J X) ρ F acc xs ∧ acc.length ≤ i + 1 ∧
          EPo (wd J X) ρ1 F1 H1 Q (fun c H' => W c none σ H') (bndN (lcGo tg ft fe ok (its.drop (i + 1)) (wipeD env vs)) (fun ds => nw (acc ++ ds)) s), fun H' hN => ⟨_, by rw [em]; omega, hN⟩, fun x H' hy => ?_⟩
        obtain ⟨F3, l3, g3, rd⟩ := r1.yld i ρ2 F2 s2 H2 d x H' l2.ld g2 hok hd hy
        have swl3 := (swl.mono l2).mono l3
        refine ⟨_, ρ2, F3, s2, d, env1, g3, swl3, rd, et, fun σ2 sl2 z1 z2 => ⟨wipe_same hsub z1 z2, env1, ρ2, F3, s2, g3, sl2, ?_⟩⟩
        -- the test
        have k3 : EPo (wd J X) ρ1 F1 H1 Q (fun c H' => W c none σ H') (bndN (ft env1) (fun b s1 => if b = true then bndN (fe env1) (fun y => bndN (lcGo tg ft fe ok (its.drop (i + 1)) (wipeD env vs)) fun ys => nw (acc ++ (y :: ys))) s1 else bndN (lcGo tg ft fe ok (its.drop (i + 1)) (wipeD env vs)) (fun ds => nw (acc ++ ds)) s1) s2) := by
          have e : bndN (lcGo tg ft fe ok (d :: its.drop (i + 1)) (wipeD env vs)) (fun ds => nw (acc ++ ds)) s2 = (bndN (ft env1) (fun b s1 => if b = true then bndN (fe env1) (fun y => bndN (lcGo tg ft fe ok (its.drop (i + 1)) (wipeD env vs)) fun ys => nw (acc ++ (y :: ys))) s1 else bndN (lcGo tg ft fe ok (its.drop (i + 1)) (wipeD env vs)) (fun ds => nw (acc ++ ds)) s1) s2) := by
            simp only [bndN, lcGo, if_pos hok, et]
            cases ft env1 s2 with
            | ok b s3 =>
              cases b with
              | true =>
                simp only [if_true]
                cases fe env1 s3 with
                | ok y s4 =>
                  simp only []
                  cases lcGo tg ft fe ok (its.drop (i + 1)) (wipeD env vs) s4 <;> rfl
                | _ => rfl
              | false => simp
            | _ => rfl
          rw [← e]; exact k2
        have nr3 : D ∉ ρ2 := nr
        have nf3 : F3 D = none := by
          cases e : F3 D with
          | none => rfl
          | some o =>
            rcases l3.ff D o e with ⟨u, z⟩ | z
            · rw [nf] at z; cases z
            · rw [hDx] at z; cases z
        have hD3 : H' D = some (.lst xs) := l3.keep D _ hDx nr
        have stay : ∀ {ρ' : List Addr} {F' H3 : Hp}, LE ρ2 F3 H' ρ' F' H3 → D ∉ ρ' ∧ F' D = none ∧ H3 D = some (.lst xs) := fun {ρ' F' H3} l => by
          refine ⟨fun z => ?_, ?_, l.keep D _ hD3 nr3⟩
          · rcases l.fr D z with z | z
            · exact nr3 z
            · rw [hD3] at z; cases z
          · cases e : F' D with
            | none => rfl
            | some o =>
              rcases l.ff D o e with ⟨u, z⟩ | z
              · rw [nf3] at z; cases z
              · rw [hD3] at z; cases z
        refine Po.bindN k3 fun b s3 eb k4 ρ4 F4 H4 b' l4 g4 r4 => ?_
        subst r4
        cases b with
        | false =>
          simp only [Bool.false_eq_true, if_false] at k4
          obtain ⟨w1, w2, w3⟩ := stay l4
          rw [if_neg Bool.false_ne_true]
          exact ⟨hlt, rfl, ρ4, F4, s3, acc, xs, (l2.trans l3).trans l4, g4, w1, w2, w3, Dens.mono (l3.trans l4) _ _ t, Nat.le_succ_of_le hac, k4⟩
        | true =>
          simp only [if_true] at k4
          rw [if_pos rfl]
          refine ⟨env1, ρ4, F4, s3, g4, sl2.mono l4, Po.bindN k4 fun y s5 ey k5 ρ5 F5 H5 v l5 g5 r5 => ?_⟩
          obtain ⟨w1, w2, w3⟩ := stay (l4.trans l5)
          refine ⟨xs, w3, ?_, hlt, rfl, ρ5, F5, s5, acc ++ [y], xs ++ [v], ((l2.trans l3).trans (l4.trans l5)).at_new hD, g5.other _ w1 w2, w1, w2, upd_same, Dens.append (Dens.mono (l3.trans (l4.trans l5)) _ _ t) (Dens.one r5), by rw [List.length_append]; simpa using hac, ?_⟩
          · rw [← t.length]
            exact Nat.lt_of_le_of_lt hac (Nat.lt_of_lt_of_le hlt r1.len)
          · have e : (fun ds => nw (acc ++ [y] ++ ds)) = fun ys => nw (acc ++ (y :: ys)) := by funext ys; rw [List.append_assoc]; rfl
            rw [e]
            exact k5
    · have hie : i = its.length := by omega
      have hdr : its.drop i = [] := List.drop_eq_nil_of_le (by omega)
      rw [hdr] at k2
      have hok : ok s2 := by
        apply Classical.byContradiction
        intro hno
        simp only [bndN, lcGo, if_neg hno] at k2
        exact k2
      simp only [bndN, lcGo, if_pos hok, List.append_nil] at k2
      exact .inl ⟨r1.stop i ρ2 F2 s2 H2 l2.ld g2 hok hie, lst_done n g2 l2 t (Nat.le_trans hac (by rw [hie]; exact r1.len)) hDx hD nr nf k2⟩
theorem es_lc {nw : List Dt → Sto → Out Dt} (n : IsNw nw) {scope : Scope} {own : List (Str × Nat)} (hc : X.calm = true) (hN : X.N.Nodup) (hi : IS J X W tgt iter fi) (ok : BlkOk X.N X.env.scope scope own) (hsub : ∀ i ∈ is, i ∈ own.map (·.2))
    (hg : ∀ (s : Shared) (H : Hp) (C : Addr) (cl : List (Str × Addr)) (fp : List Addr), GS J (X.blk s H scope (compEnvC scope cl C X.env) fp) tgt is tg) (ht : ∀ (s : Shared) (H : Hp) (C : Addr) (cl : List (Str × Addr)) (fp : List Addr), PTs (X.blk s H scope (compEnvC scope cl C X.env) fp) ifs (tT (wd J X) W0 ft))
    (he : ∀ (s : Shared) (H : Hp) (C : Addr) (cl : List (Str × Addr)) (fp : List Addr), ES J (X.blk s H scope (compEnvC scope cl C X.env) fp) W0 elt fe) (hs : ∀ x, foldedSetIterable iter X.env x = pure x := by intro _; rfl) :
    ES J X W (.ListComp elt [⟨tgt, iter, ifs, 0⟩] scope pos) (eLc nw (own.map (·.2)) fi tg ft fe) :=
  PE.imp (pe_lc hc hN hi ok hg ht he hs) fun σ H Q h => lc_of n hsub h
theorem ss_setLc {nw : List Dt → Sto → Out Dt} (n : IsNw nw) {i : Nat} {y : Str} {py spos : Pos} {scope : Scope} {own : List (Str × Nat)} (hc : X.calm = true) (hN : X.N.Nodup) (hy : X.N[i]? = some y) (hyl : X.env.scope.names.lookup y = some .local)
    (hsw : swapsWith (.ListComp elt [⟨tgt, iter, ifs, 0⟩] scope pos) (some (.Name y py)) spos.line X.env = pure true) (hi : IS J X W tgt iter fi) (ok : BlkOk X.N X.env.scope scope own) (hsub : ∀ i ∈ is, i ∈ own.map (·.2))
    (hg : ∀ (s : Shared) (H : Hp) (C : Addr) (cl : List (Str × Addr)) (fp : List Addr), GS J (X.blk s H scope (compEnvC scope cl C X.env) fp) tgt is tg) (ht : ∀ (s : Shared) (H : Hp) (C : Addr) (cl : List (Str × Addr)) (fp : List Addr), PTs (X.blk s H scope (compEnvC scope cl C X.env) fp) ifs (tT (wd J X) W0 ft))
    (he : ∀ (s : Shared) (H : Hp) (C : Addr) (cl : List (Str × Addr)) (fp : List Addr), ES J (X.blk s H scope (compEnvC scope cl C X.env) fp) W0 elt fe) (hs : ∀ x, foldedSetIterable iter X.env x = pure x := by intro _; rfl) :
    SS J X W (.Assign [.Name y py] (.ListComp elt [⟨tgt, iter, ifs, 0⟩] scope pos) spos) (sAsg (eLc nw (own.map (·.2)) fi tg ft fe) (gN i)) :=
  PS.imp (ps_setLc hc hN hy hyl hsw hi ok hg ht he hs) fun D σ H ⟨env, ρ, F, s, g, l, k⟩ => lc_of (W := W) n hsub ⟨env, ρ, F, s, g, l, FPo.bind k l fun d s1 ρ1 F1 H1 v e1 l1 g1 r1 k1 => k1 ρ1 F1 H1 _ LE.refl g1 ((l.mono l1).set r1 i)⟩
def tYes : Tx := fun _ s => .ok true s
theorem PTs.imp {X : Cx} {e : List Expr} {t t' : TT} (h : PTs X e t) (k : ∀ σ H Q, t' σ H Q → t σ H Q) : PTs X e t' := ⟨fun pins s σ H Q I q => h.run pins s σ H Q I (k σ H Q q)⟩
theorem tts_nil : PTs X [] (tT (wd J X) W Pd.tYes) := PTs.imp pts_nil fun σ H Q ⟨env, ρ, F, s, g, l, k⟩ => k ρ F H true LE.refl g rfl
theorem tts_one (h : TSo J X W c ft) : PTs X [c] (tT (wd J X) W ft) := pts_one h
end
end Pd
namespace Pd
open PySem L2
/-- a list that is tracked -/
def trkL (s : Sto) : Dt → Option (List Dt)
  | .lst l => some l
  | .obj i => match s[i]? with
    | some (.lst l) => some l
    | _ => none
  | _ => none
/-- a list of the store -/
def lstAt (s : Sto) : Dt → Option (Nat × List Dt)
  | .obj i => match s[i]? with
    | some (.lst l) => some (i, l)
    | _ => none
  | _ => none
section
variable {Γ : Wd} {ρ : List Addr} {F H : Hp} {s : Sto}
theorem G.trk (g : G Γ ρ F s H) {d : Dt} {v : V} {l : List Dt} (r : Den Γ ρ F d v) (h : trkL s d = some l) : ∃ a xs, v = .ref a ∧ H a = some (.lst xs) ∧ Dens Γ ρ F l xs ∧ l.length ≤ sizeLine := by
  cases d with
  | lst l' =>
    simp only [Den] at r
    simp only [trkL, Option.some.injEq] at h
    subst h
    obtain ⟨z, a, xs, e, q, t⟩ := r
    exact ⟨a, xs, e, g.sub _ _ q, t, z⟩
  | obj i =>
    simp only [Den] at r
    obtain ⟨a, e, q⟩ := r
    simp only [trkL] at h
    split at h
    · rename_i l' hs
      cases h
      obtain ⟨z, xs, ha, t⟩ := g.at_ i a _ q hs
      exact ⟨a, xs, e, ha, t, z⟩
    · cases h
  | _ => simp [trkL] at h
theorem G.lat (g : G Γ ρ F s H) {d : Dt} {v : V} {i : Nat} {l : List Dt} (r : Den Γ ρ F d v) (h : lstAt s d = some (i, l)) : ∃ a xs, v = .ref a ∧ ρ[i]? = some a ∧ H a = some (.lst xs) ∧ Dens Γ ρ F l xs ∧ l.length ≤ sizeLine := by
  cases d with
  | obj j =>
    simp only [Den] at r
    obtain ⟨a, e, q⟩ := r
    simp only [lstAt] at h
    split at h
    · rename_i l' hs
      cases h
      obtain ⟨z, xs, ha, t⟩ := g.at_ _ a _ q hs
      exact ⟨a, xs, e, q, ha, t, z⟩
    · cases h
  | _ => simp [lstAt] at h
/-- a list of the store is written -/
theorem G.setL (g : G Γ ρ F s H) {i : Nat} {a : Addr} {l : List Dt} {xs : List V} (hi : ρ[i]? = some a) (t : Dens Γ ρ F l xs) (z : l.length ≤ sizeLine) : G Γ ρ F (s.set i (.lst l)) (upd H a (.lst xs)) := g.put hi ⟨z, xs, upd_same, t⟩
end
/-! ### a + b -/
def dAdd (nw : List Dt → Sto → Out Dt) (x y : Dt) (s : Sto) : Out Dt := match x with
  | .int i => match y with
    | .int j => .ok (.int (i + j)) s
    | _ => .bad
  | .str i => match y with
    | .str j => if i.length + j.length ≤ 1000000 then .ok (.str (i ++ j)) s else .bad
    | _ => .bad
  | .tup l => match y with
    | .tup m => if l.length + m.length ≤ sizeLine then .ok (.tup (l ++ m)) s else .bad
    | _ => .bad
  | x => match trkL s x with
    | some l => match trkL s y with
      | some m => if l.length + m.length ≤ sizeLine then nw (l ++ m) s else .bad
      | none => .bad
    | none => .bad
theorem sok_app {i j : Str} (hi : sok i = true) (hj : sok j = true) (h : i.length + j.length ≤ 1000000) : sok (i ++ j) = true := by
  have e : (i ++ j).cps.toList = i.cps.toList ++ j.cps.toList := TL.tl_append i j
  refine sok_of (fun c hc => ?_) ?_
  · rw [e] at hc
    rcases List.mem_append.mp hc with hc | hc
    · exact sok_mem hi hc
    · exact sok_mem hj hc
  · have : (i ++ j).length = i.length + j.length := by
      show (i ++ j).cps.size = i.cps.size + j.cps.size
      rw [← Array.length_toList, e, List.length_append, Array.length_toList, Array.length_toList]
    omega
def rAddAll (K : PySem.W.Frag) : R2 := fun x y H Q => rI0 (fun i j => .int (i + j)) x y H Q ∨ ((∃ i j, x = .str i ∧ y = .str j ∧ i.length + j.length ≤ sizeLine ∧ Q (.str (i ++ j)) H) ∨ (rCatA K x y H Q ∨ rCat x y H Q))
theorem dAdd_ok {Γ : Wd} {nw : List Dt → Sto → Out Dt} (n : IsNw nw) : OpS Γ (rAddAll Γ.K) (dAdd nw) := by
  intro ρ F s H x y dx dy Q E g rx ry k
  have gen : ∀ l, trkL s dx = some l → (∀ m, trkL s dy = some m → l.length + m.length ≤ sizeLine → EPo Γ ρ F H Q E (nw (l ++ m) s) → rCat x y H Q) := fun l hl m hm hz k => by
    obtain ⟨a, xs, e1, q1, t1, _⟩ := g.trk rx hl
    obtain ⟨b, ys, e2, q2, t2, _⟩ := g.trk ry hm
    exact ⟨a, b, xs, ys, e1, e2, q1, q2, by rw [← t1.length, ← t2.length]; exact hz, fun p hp => new_lst n g (Dens.append t1 t2) (by rw [List.length_append]; exact hz) hp k⟩
  cases dx with
  | int i =>
    cases dy with
    | int j =>
      simp only [Den] at rx ry
      exact .inl ⟨i, j, rx, ry, k ρ F H _ LE.refl g (by simp only [Den])⟩
    | _ => exact False.elim k
  | str i =>
    cases dy with
    | str j =>
      simp only [Den] at rx ry
      simp only [dAdd] at k
      split at k
      · rename_i h
        refine .inr (.inl ⟨i, j, rx.1, ry.1, by rw [sizeLine_eq]; omega, k ρ F H _ LE.refl g ?_⟩)
        simp only [Den]
        exact ⟨trivial, sok_app rx.2 ry.2 h⟩
      · exact False.elim k
    | _ => exact False.elim k
  | tup l =>
    cases dy with
    | tup m =>
      simp only [dAdd] at k
      split at k
      · rename_i h
        obtain ⟨a, xs, e1, q1, t1, z1⟩ := g.sqT rx (l := l) rfl
        obtain ⟨b, ys, e2, q2, t2, z2⟩ := g.sqT ry (l := m) rfl
        refine .inr (.inr (.inl ⟨a, b, xs, ys, e1, e2, q1, q2, by rw [← t1.length, ← t2.length]; exact h, fun hx => ?_, fun hx hy => ?_, fun hx hy p hp => ?_⟩))
        · have el : l = [] := by
            have := t1.length
            rw [hx] at this
            exact List.length_eq_zero_iff.mp (by simpa using this)
          subst el
          rw [List.nil_append] at k
          have := k ρ F H y LE.refl g ry
          rw [e2] at this
          exact this
        · have em : m = [] := by
            have := t2.length
            rw [hy] at this
            exact List.length_eq_zero_iff.mp (by simpa using this)
          subst em
          rw [List.append_nil] at k
          have := k ρ F H x LE.refl g rx
          rw [e1] at this
          exact this
        · exact new_tup g (Dens.append t1 t2) (by rw [List.length_append]; exact h) hp k
      · exact False.elim k
    | _ => exact False.elim k
  | lst l =>
    simp only [dAdd, trkL] at k
    cases e : trkL s dy with
    | none => simp only [trkL] at e; rw [e] at k; exact False.elim k
    | some m =>
      simp only [trkL] at e
      rw [e] at k
      simp only [] at k
      split at k
      · rename_i h
        exact .inr (.inr (.inr (gen l rfl m e h k)))
      · exact False.elim k
  | obj i =>
    simp only [dAdd] at k
    cases e1 : trkL s (.obj i) with
    | none => rw [e1] at k; exact False.elim k
    | some l =>
      rw [e1] at k
      simp only [] at k
      cases e : trkL s dy with
      | none => rw [e] at k; exact False.elim k
      | some m =>
        rw [e] at k
        simp only [] at k
        split at k
        · rename_i h
          exact .inr (.inr (.inr (gen l e1 m e h k)))
        · exact False.elim k
  | _ => exact False.elim k
section
variable {J : Cn} {X : Cx} {W : WX} {a b c e e2 o tgt iter elt : Expr} {es ifs : List Expr} {fa fb fc fe fo : Ex} {fs : List Ex} {ft fu : Tx} {pos p apos cpos : Pos} {st : Stmt} {rest : List Stmt} {f1 f2 : Sx}
theorem es_add {nw : List Dt → Sto → Out Dt} (n : IsNw nw) (ha : ES J X W a fa) (hb : ES J X W b fb) : ES J X W (.BinOp a .Add b pos) (eOp (dAdd nw) fa fb) :=
  es_op (OpR.or op_add (OpR.or op_add_str (OpR.or op_catA op_cat))) (dAdd_ok n) ha hb
/-! ### methods of built-ins -/
def isLst (s : Sto) (d : Dt) : Bool := (asL s d).isSome
def isStr (_ : Sto) (d : Dt) : Bool := match d with
  | .str _ => true
  | _ => false
def TyS (Γ : Wd) (T : String) (ty : Sto → Dt → Bool) : Prop := ∀ ρ F s H x d, G Γ ρ F s H → Den Γ ρ F d x → ty s d = true → tyV Γ.K T x H
theorem ty_lst {Γ : Wd} : TyS Γ "list" isLst := by
  intro ρ F s H x d g r h
  unfold isLst at h
  obtain ⟨l, e⟩ := Option.isSome_iff_exists.mp h
  obtain ⟨a, xs, e1, q, _⟩ := g.sqL r e
  subst e1
  exact .inl ⟨rfl, xs, q⟩
theorem ty_str {Γ : Wd} : TyS Γ "str" isStr := by
  intro ρ F s H x d g r h
  cases d with
  | str z => simp only [Den] at r; obtain ⟨r, _⟩ := r; subst r; exact rfl
  | _ => exact Bool.noConfusion h
def M0S (Γ : Wd) (r : V → List V → Hp → VK → Prop) (op : Dt → Sto → Out Dt) : Prop := ∀ ρ F s H x dx Q E, G Γ ρ F s H → Den Γ ρ F dx x → EPo Γ ρ F H Q E (op dx s) → r x [] H Q
def M1S (Γ : Wd) (r : V → List V → Hp → VK → Prop) (op : Dt → Dt → Sto → Out Dt) : Prop := ∀ ρ F s H x y dx dy Q E, G Γ ρ F s H → Den Γ ρ F dx x → Den Γ ρ F dy y → EPo Γ ρ F H Q E (op dx dy s) → r x [y] H Q
/-- a method of a built-in, with one argument -/
def Bm1 (J : Cn) (X : Cx) (T : String) (name : Str) (ty : Sto → Dt → Bool) (op : Dt → Dt → Sto → Out Dt) : Prop := ∃ id r, PlainAttrs T ∧ Slot T name id ∧ typeOf (.builtin id) = pure (.type "method_descriptor") ∧ MtR X id r ∧ TyS (wd J X) T ty ∧ M1S (wd J X) r op
def eBm1 (ty : Sto → Dt → Bool) (op : Dt → Dt → Sto → Out Dt) (fo fe : Ex) : Ex := fun env => bnd (fo env) fun x s => if ty s x = true then bnd (fe env) (fun y => op x y) s else .bad
theorem es_bm1 {T : String} {name : Str} {ty : Sto → Dt → Bool} {op : Dt → Dt → Sto → Out Dt} (B : Bm1 J X T name ty op) (ho : ES J X W o fo) (he : ES J X W e fe)
    (hs : starEach (e :: []) X.env = (false, eval e X.env) :: starEach [] X.env := by rfl) (hbase : attributeBase o name X.env (eval o X.env) = eval o X.env := by rfl)
    (hfew : ((backTo cpos (starEach [e] X.env)).all (fun x => !x.1) && (backToKw cpos (keywordEach [] X.env)).all (fun x => x.1.isSome)
      && decide (([e] : List Expr).length + ([] : List Keyword).length + (if ([] : List Keyword).isEmpty then 0 else 1) < 30)) = true := by rfl)
    (hline : (apos.endLine == cpos.line) = true := by rfl) : ES J X W (.Call (.Attribute o name apos) [e] [] cpos) (eBm1 ty op fo fe) := by
  obtain ⟨id, r, pa, slot, hty, hm, tyS, opS⟩ := B
  exact PE.imp (pe_bm pa slot hty hm ho (pa_cons he pa_nil hs) hbase hfew hline hs rfl) fun σ H Q ⟨env, ρ, F, s, g, l, k⟩ => ⟨env, ρ, F, s, g, l, Po.bind k fun x s1 ρ1 F1 H1 v e1 l1 g1 r1 k1 => by
    split at k1
    · rename_i ht
      exact ⟨tyS ρ1 F1 s1 H1 v x g1 r1 ht, env, ρ1, F1, s1, g1, l.mono l1, Po.bind k1 fun y s2 ρ2 F2 H2 u e2 l2 g2 r2 k2 => opS ρ2 F2 s2 H2 v u x y Q _ g2 (Den.mono l2 _ _ r1) r2 k2⟩
    · exact False.elim k1⟩
def dApp (x y : Dt) (s : Sto) : Out Dt := match lstAt s x with
  | some (i, l) => if l.length < sizeLine then .ok .non (s.set i (.lst (l ++ [y]))) else .bad
  | none => .bad
theorem m_append : Bm1 J X "list" "append" isLst dApp := ⟨_, _, PySem.F.plainAttrs_list, PySem.F.slot_list_append, PySem.F.type_list_append, mt_append, ty_lst, fun ρ F s H x y dx dy Q E g rx ry k => by
  unfold dApp at k
  split at k
  · rename_i i l hl
    split at k
    · rename_i hz
      obtain ⟨a, xs, e1, hi, q, t, _⟩ := g.lat rx hl
      refine ⟨a, xs, y, e1, rfl, q, by rw [← t.length]; exact hz, k ρ F _ _ (LE.put (List.mem_of_getElem? hi)) (g.setL hi (Dens.append t (Dens.one ry)) (by rw [List.length_append]; exact hz)) (by simp only [Den])⟩
    · exact False.elim k
  · exact False.elim k⟩
def dExt (x y : Dt) (s : Sto) : Out Dt := match lstAt s x with
  | some (i, l) => match trkL s y with
    | some m => if l.length + m.length ≤ sizeLine then .ok .non (s.set i (.lst (l ++ m))) else .bad
    | none => .bad
  | none => .bad
theorem m_extend : Bm1 J X "list" "extend" isLst dExt := ⟨_, _, PySem.F.plainAttrs_list, PySem.F.slot_list_extend, PySem.F.type_list_extend, mt_extend, ty_lst, fun ρ F s H x y dx dy Q E g rx ry k => by
  unfold dExt at k
  split at k
  · rename_i i l hl
    split at k
    · rename_i m hm
      split at k
      · rename_i hz
        obtain ⟨a, xs, e1, hi, q, t, _⟩ := g.lat rx hl
        obtain ⟨b, ys, e2, q2, t2, _⟩ := g.trk ry hm
        refine ⟨a, b, xs, ys, e1, by rw [e2], q, q2, by rw [← t.length, ← t2.length]; exact hz, k ρ F _ _ (LE.put (List.mem_of_getElem? hi)) (g.setL hi (Dens.append t t2) (by rw [List.length_append]; exact hz)) (by simp only [Den])⟩
      · exact False.elim k
    · exact False.elim k
  · exact False.elim k⟩
/-- xs.pop(k) -/
def dPopAt (x y : Dt) (s : Sto) : Out Dt := match y with
  | .int k => match lstAt s x with
    | some (i, l) => match ixN l.length k with
      | some j => match l[j]? with
        | some d => .ok d (s.set i (.lst (l.eraseIdx j)))
        | none => .bad
      | none => .bad
    | none => .bad
  | _ => .bad
theorem m_popAt : Bm1 J X "list" "pop" isLst dPopAt := ⟨_, _, PySem.F.plainAttrs_list, PySem.F.slot_list_pop, PySem.F.type_list_pop, mt_popAt, ty_lst, fun ρ F s H x y dx dy Q E g rx ry k => by
  cases dy with
  | int n =>
    simp only [Den] at ry
    simp only [dPopAt] at k
    split at k
    · rename_i i l hl
      split at k
      · rename_i j hj
        split at k
        · rename_i d hd
          obtain ⟨a, xs, e1, hi, q, t, z⟩ := g.lat rx hl
          obtain ⟨v, hv, rv⟩ := t.get hd
          obtain ⟨s1, s2, s3, s4⟩ := ixN_seq hj
          have hlen : (l.length : Int) ≤ 16777216 := by rw [sizeLine_eq] at z; omega
          refine ⟨a, xs, n, j, v, e1, by rw [ry], q, by omega, by omega, by rw [← t.length]; exact s1, hv, k ρ F _ _ (LE.put (List.mem_of_getElem? hi)) (g.setL hi (t.eraseIdx j) (Nat.le_trans (len_erase _ _) z)) rv⟩
        · exact False.elim k
      · exact False.elim k
    · exact False.elim k
  | _ => exact False.elim k⟩
/-- ints alone -/
def asI : List Dt → Option (List Int)
  | [] => some []
  | .int b :: r => (asI r).map (b :: ·)
  | _ => none
theorem asI_map : ∀ {l : List Dt} {ns : List Int}, asI l = some ns → l = ns.map Dt.int
  | [], ns, h => by simp only [asI, Option.some.injEq] at h; subst h; rfl
  | d :: l, ns, h => by
    cases d with
    | int i =>
      simp only [asI, Option.map_eq_some_iff] at h
      obtain ⟨r, e1, e2⟩ := h
      subst e2
      rw [asI_map e1]; rfl
    | _ => simp [asI] at h
theorem Dens.ints {Γ : Wd} {ρ : List Addr} {F : Hp} : ∀ {ns : List Int} {xs : List V}, Dens Γ ρ F (ns.map Dt.int) xs → xs = ns.map V.int
  | [], xs, h => by simp only [List.map_nil, Dens] at h; exact h
  | n :: ns, xs, h => by
    simp only [List.map_cons, Dens] at h
    obtain ⟨v, r, e1, q, t⟩ := h
    simp only [Den] at q
    rw [e1, q, Dens.ints t]; rfl
theorem densI {Γ : Wd} {ρ : List Addr} {F : Hp} : ∀ (ns : List Int), Dens Γ ρ F (ns.map Dt.int) (ns.map V.int)
  | [] => by simp only [List.map_nil, Dens]
  | n :: ns => by
    simp only [List.map_cons, Dens]
    exact ⟨_, _, rfl, by simp only [Den], densI ns⟩
/-- xs.remove(n), whole numbers, it is there -/
def dRem (x y : Dt) (s : Sto) : Out Dt := match y with
  | .int k => match lstAt s x with
    | some (i, l) => match asI l with
      | some ns => if k ∈ ns then .ok .non (s.set i (.lst ((ns.erase k).map .int))) else .bad
      | none => .bad
    | none => .bad
  | _ => .bad
theorem erase_ix {ns : List Int} {k : Int} (h : k ∈ ns) : ∃ j : Nat, ns[j]? = some k ∧ (∀ m : Nat, m < j → ns[m]? ≠ some k) ∧ ns.eraseIdx j = ns.erase k := by
  induction ns with
  | nil => simp at h
  | cons a r ih =>
    by_cases e : a = k
    · subst e
      exact ⟨0, rfl, fun m hm => absurd hm (Nat.not_lt_zero _), by simp⟩
    · have hr : k ∈ r := by
        rcases List.mem_cons.mp h with h | h
        · exact absurd h.symm e
        · exact h
      obtain ⟨j, h1, h2, h3⟩ := ih hr
      refine ⟨j + 1, by simpa using h1, fun m hm => ?_, ?_⟩
      · cases m with
        | zero => simpa using e
        | succ m => simpa using h2 m (by omega)
      · rw [List.eraseIdx_cons_succ, h3, List.erase_cons, if_neg (by simpa using e)]
theorem m_remove : Bm1 J X "list" "remove" isLst dRem := ⟨_, _, PySem.F.plainAttrs_list, PySem.F.slot_list_remove, PySem.F.type_list_remove, mt_remove, ty_lst, fun ρ F s H x y dx dy Q E g rx ry k => by
  cases dy with
  | int n =>
    simp only [Den] at ry
    simp only [dRem] at k
    split at k
    · rename_i i l hl
      split at k
      · rename_i ns hn
        split at k
        · rename_i hm
          obtain ⟨a, xs, e1, hi, q, t, z⟩ := g.lat rx hl
          have el := asI_map hn
          subst el
          have ex := t.ints
          subst ex
          obtain ⟨j, h1, h2, h3⟩ := erase_ix hm
          refine ⟨a, ns, n, j, e1, by rw [ry], q, h1, h2, ?_⟩
          rw [h3]
          exact k ρ F _ _ (LE.put (List.mem_of_getElem? hi)) (g.setL hi (densI _) (by
            rw [List.length_map] at z ⊢
            exact Nat.le_trans (List.length_erase_le) z)) (by simp only [Den])
        · exact False.elim k
      · exact False.elim k
    · exact False.elim k
  | _ => exact False.elim k⟩
/-! ### isinstance(x, T), T a built-in class -/
def tyN (s : Sto) : Dt → Option String
  | .non => some "NoneType"
  | .bl _ => some "bool"
  | .int _ => some "int"
  | .str _ => some "str"
  | .tup _ => some "tuple"
  | .lst _ => some "list"
  | .lsk _ => some "list"
  | .obj i => match s[i]? with
    | some (.lst _) => some "list"
    | some (.dic _) => some "dict"
    | some (.dit _) => some "dict"
    | _ => none
  | .exc _ => none
theorem G.ty {Γ : Wd} {ρ : List Addr} {F H : Hp} {s : Sto} (g : G Γ ρ F s H) {d : Dt} {v : V} {T : String} (r : Den Γ ρ F d v) (h : tyN s d = some T) : TyX Γ.K H v (.type T) := by
  cases d with
  | non => simp only [Den] at r; simp only [tyN, Option.some.injEq] at h; subst r; subst h; exact .base .non
  | bl b => simp only [Den] at r; simp only [tyN, Option.some.injEq] at h; subst r; subst h; exact .base (.bl b)
  | int i => simp only [Den] at r; simp only [tyN, Option.some.injEq] at h; subst r; subst h; exact .base (.int i)
  | str x => simp only [Den] at r; simp only [tyN, Option.some.injEq] at h; obtain ⟨r, _⟩ := r; subst r; subst h; exact .base (.str x)
  | tup l =>
    simp only [Den] at r; simp only [tyN, Option.some.injEq] at h
    obtain ⟨z, a, xs, e, q, t⟩ := r
    subst e; subst h
    rcases sqT_sub g.sub q with (q | ⟨o, q⟩) | ⟨o, its, n, hk, hc, _⟩
    · exact .base (.tup q)
    · exact .fTuple q
    · exact .kTuple hk hc
  | lst l =>
    simp only [Den] at r; simp only [tyN, Option.some.injEq] at h
    obtain ⟨z, a, xs, e, q, t⟩ := r
    subst e; subst h
    exact .base (.lst (g.sub _ _ q))
  | lsk l =>
    simp only [Den] at r; simp only [tyN, Option.some.injEq] at h
    obtain ⟨z, a, xs, e, q, t⟩ := r
    subst e; subst h
    rcases sqL_sub g.sub q with (q | ⟨o, q⟩) | ⟨o, its, n, hk, hc, _⟩
    · exact .base (.lst q)
    · exact .base (.frz q)
    · exact .kList hk hc
  | obj i =>
    simp only [Den] at r
    obtain ⟨a, e, q⟩ := r
    subst e
    simp only [tyN] at h
    split at h
    · rename_i l hs
      cases h
      obtain ⟨z, xs, hx, t⟩ := g.at_ i a _ q hs
      exact .base (.lst hx)
    · rename_i l hs
      cases h
      obtain ⟨z, xs, hx, t⟩ := g.at_ i a _ q hs
      exact .base (.dK hx)
    · rename_i l hs
      cases h
      obtain ⟨z, xs, hx, t⟩ := g.at_ i a _ q hs
      exact .base (.dT hx)
    · cases h
  | exc c => simp [tyN] at h
def dIsi (T : String) (d : Dt) (s : Sto) : Out Dt := ofO s ((tyN s d).map fun t => .bl (t == T || (t == "bool" && T == "int")))
/-- of these classes it is known whose heirs they are -/
def kitAll (T : String) : Bool := ["NoneType", "bool", "int", "str", "tuple", "list", "dict"].all fun t => kitB t T == some (t == T || (t == "bool" && T == "int"))
theorem tyN_in {s : Sto} {d : Dt} {t : String} (h : tyN s d = some t) : t ∈ ["NoneType", "bool", "int", "str", "tuple", "list", "dict"] := by
  cases d with
  | obj i =>
    simp only [tyN] at h
    split at h <;> first | (cases h; decide) | cases h
  | exc c => simp [tyN] at h
  | _ => simp only [tyN, Option.some.injEq] at h; subst h; decide
theorem es_isi {T : Str} {n : String} {p2 : Pos} (hk : kitAll n = true) (hg : Gl X "isinstance") (hm : X.mg "isinstance" = none) (hgT : Gl X T) (hmT : X.mg T = none) (hv : bootBuiltins T = some (.type n)) (ha : ES J X W e fe)
    (hn : T ≠ "__name__" := by decide) (hd : (T == ("__debug__" : Str)) = false := by decide)
    (he : starEach [e, .Name T p2] X.env = [(false, eval e X.env), (false, eval (.Name T p2) X.env)] := by rfl) : ES J X W (.Call (.Name "isinstance" p) [e, .Name T p2] [] pos) (eUn (dIsi n) fe) :=
  PE.imp (pe_callB call_isi hg hm (by decide +kernel) (pa_cons ha (pa_cons (pe_bltn (v := .ty n) hgT hmT hv rfl hn hd) pa_nil rfl) (by exact he)) (by decide) (by decide) (by exact he) rfl) fun σ H Q ⟨env, ρ, F, s, g, l, k⟩ => ⟨env, ρ, F, s, g, l, Po.bind k fun x s1 ρ1 F1 H1 v e1 l1 g1 r1 k1 => by
    obtain ⟨d, e3, k1⟩ := Po.ofO k1
    obtain ⟨t, e4, e5⟩ := Option.map_eq_some_iff.mp e3
    subst e5
    have hq := (List.all_eq_true.mp hk) t (tyN_in e4)
    refine ⟨v, .ty n, .type t, .type n, _, rfl, .ty n, g1.ty r1 e4, kit_ty (by simpa using hq), k1 ρ1 F1 H1 _ LE.refl g1 (by simp only [Den])⟩⟩
/-! ### raise X('..') -/
def sRaise (c : Nat) : Sx := fun env s => .exc c env s
theorem ss_raise {c : Nat} {x m : Str} {C : Addr} {bmB : List Value} {B newId initId : String} {j : Nat} {p p2 pos pos' : Pos} (hJ : (J c).1 = x) (hc : X.calm = true) (tk : Takes X W) (Fx : ExcBaseFacts B newId initId bmB) (q : PySem.W.excIn X.K C bmB newId = true) (gC : X.mg x = some (.ref C)) (kC : PySem.W.keepIn X.K (.ref C) = true) (r : Raises X (.ref C)) (hg : Gl X x)
    (hdb : (x == ("__debug__" : Str)) = false := by decide) : SS J X W (.Raise (some (.Call (.Name x p) [.Constant (.str m) j p2] [] pos)) none pos') (sRaise c) :=
  PS.imp (ps_raise hc tk (pmk_own Fx q gC kC r hg hdb)) fun D σ H ⟨env, ρ, F, s, g, l, k⟩ => k ρ F H σ C LE.refl g l (by show X.mg (J c).1 = _; rw [hJ]; exact gC)
end
end Pd
/-! The meanings, run by simp. -/
namespace Pd
open PySem L2
section
variable {α β : Type} {env : En} {s : Sto}
@[simp] theorem run_ok {a : α} {s' : Sto} {k : α → Sto → Out β} : (match (Out.ok a s' : Out α) with | .ok a s' => k a s' | .exc c s' => .exc c s' | .bad => .bad) = k a s' := rfl
@[simp] theorem ev_var {i : Nat} : eVar i env s = (match env[i]? with | some (some d) => .ok d s | _ => .bad) := rfl
@[simp] theorem ev_c {d : Dt} : eC d env s = .ok d s := rfl
@[simp] theorem ev_op {op : Dt → Dt → Sto → Out Dt} {f g : Ex} : eOp op f g env s = bnd (f env) (fun x => bnd (g env) fun y => op x y) s := rfl
@[simp] theorem ev_un {op : Dt → Sto → Out Dt} {f : Ex} : eUn op f env s = bnd (f env) op s := rfl
@[simp] theorem bnd_def {m : Sto → Out α} {k : α → Sto → Out β} : bnd m k s = (match m s with | .ok a s' => k a s' | .exc c s' => .exc c s' | .bad => .bad) := rfl
@[simp] theorem sBnd_def {m : Sto → Out α} {k : α → Sto → Res} : sBnd m env k s = (match m s with | .ok a s' => k a s' | .exc c s' => .exc c env s' | .bad => .bad) := rfl
@[simp] theorem iOp_int {g : Int → Int → Dt} {ok : Int → Int → Bool} {i j : Int} : iOp g ok (.int i) (.int j) s = if ok i j = true then .ok (g i j) s else .bad := rfl
@[simp] theorem ev_seq {f g : Sx} : sSeq f g env s = (match f env s with | .fl (.nx e) s' => g e s' | r => r) := rfl
@[simp] theorem ev_if {t : Tx} {f g : Sx} : sIf t f g env s = sBnd (t env) env (fun c s => if c = true then f env s else g env s) s := rfl
@[simp] theorem ev_ret {f : Ex} : sRet f env s = sBnd (f env) env (fun d s => .fl (.rt d) s) s := rfl
@[simp] theorem ev_next : sNext env s = .fl (.nx env) s := rfl
@[simp] theorem ev_expr {f : Ex} : sExpr f env s = sBnd (f env) env (fun _ s => .fl (.nx env) s) s := rfl
@[simp] theorem ev_asg {f : Ex} {tg : Tg} : sAsg f tg env s = sBnd (f env) env (fun d s => match tg d env with | some e => .fl (.nx e) s | none => .bad) s := rfl
@[simp] theorem ev_gN {i : Nat} {d : Dt} : gN i d env = some (env.set i (some d)) := rfl
@[simp] theorem ev_gT {is : List Nat} {l : List Dt} : gT is (.tup l) env = setAll is l env := rfl
@[simp] theorem setAll_nil : setAll [] [] env = some env := rfl
@[simp] theorem setAll_cons {i : Nat} {is : List Nat} {d : Dt} {ds : List Dt} : setAll (i :: is) (d :: ds) env = setAll is ds (env.set i (some d)) := rfl
@[simp] theorem ev_tru {f : Ex} : tTru f env s = bnd (f env) (fun d s => ofB s (truD s d)) s := rfl
@[simp] theorem ev_bl {f : Ex} : tBl f env s = bnd (f env) (fun d s => match d with | .bl b => .ok b s | _ => .bad) s := rfl
@[simp] theorem ev_and {f g : Tx} : tAnd f g env s = bnd (f env) (fun c s => if c = true then g env s else .ok false s) s := rfl
@[simp] theorem ev_or {f g : Tx} : tOr f g env s = bnd (f env) (fun c s => if c = true then .ok true s else g env s) s := rfl
@[simp] theorem ev_not {f : Tx} : tNot f env s = bnd (f env) (fun c s => .ok (!c) s) s := rfl
@[simp] theorem ev_yes : Pd.tYes env s = .ok true s := rfl
@[simp] theorem ev_andE {f g : Ex} : eAnd f g env s = bnd (f env) (fun d s => match truD s d with | some true => g env s | some false => .ok d s | none => .bad) s := rfl
@[simp] theorem ev_orE {f g : Ex} : eOr f g env s = bnd (f env) (fun d s => match truD s d with | some true => .ok d s | some false => g env s | none => .bad) s := rfl
@[simp] theorem ev_notE {f : Ex} : eNot f env s = bnd (f env) (fun d s => ofO s ((truD s d).map fun b => .bl (!b))) s := rfl
@[simp] theorem ev_ifE {t : Tx} {f g : Ex} : eIf t f g env s = bnd (t env) (fun c s => if c = true then f env s else g env s) s := rfl
@[simp] theorem ev_chain {op op' : Dt → Dt → Sto → Out Dt} {f g h : Ex} : eChain op op' f g h env s = bnd (f env) (fun x => bnd (g env) fun y => bnd (op x y) fun z s => match z with | .bl true => bnd (h env) (fun w => op' y w) s | .bl false => .ok (.bl false) s | _ => .bad) s := rfl
@[simp] theorem ofB_some {b : Bool} : ofB s (some b) = .ok b s := rfl
@[simp] theorem ofO_some {d : Dt} : ofO s (some d) = .ok d s := rfl
@[simp] theorem ofO_none : ofO s none = .bad := rfl
@[simp] theorem truD_non : truD s .non = some false := rfl
@[simp] theorem truD_bl {b : Bool} : truD s (.bl b) = some b := rfl
@[simp] theorem truD_int {i : Int} : truD s (.int i) = some (i != 0) := rfl
@[simp] theorem truD_str {x : Str} : truD s (.str x) = some ((x.length : Int) != 0) := rfl
@[simp] theorem truD_tup {l : List Dt} : truD s (.tup l) = some (!l.isEmpty) := rfl
@[simp] theorem truD_lst {l : List Dt} : truD s (.lst l) = some (!l.isEmpty) := rfl
@[simp] theorem truD_lsk {l : List Dt} : truD s (.lsk l) = some (!l.isEmpty) := rfl
theorem truD_obj {i : Nat} {l : List Dt} (h : s[i]? = some (.lst l)) : truD s (.obj i) = some (!l.isEmpty) := by simp only [truD, h]
theorem truD_dic {i : Nat} {l : List (Key × Dt)} (h : s[i]? = some (.dic l)) : truD s (.obj i) = some (!l.isEmpty) := by simp only [truD, h]
@[simp] theorem evs_nil : evs [] env s = .ok [] s := rfl
@[simp] theorem evs_cons {f : Ex} {fs : List Ex} : evs (f :: fs) env s = bnd (f env) (fun d => bnd (evs fs env) fun ds s => .ok (d :: ds) s) s := rfl
@[simp] theorem ev_tup {fs : List Ex} : eTup fs env s = bnd (evs fs env) (fun ds s => .ok (.tup ds) s) s := rfl
@[simp] theorem ev_lst {nw : List Dt → Sto → Out Dt} {fs : List Ex} : eLst nw fs env s = bnd (evs fs env) nw s := rfl
@[simp] theorem ev_nwF {ds : List Dt} : nwF ds s = .ok (.lst ds) s := rfl
@[simp] theorem ev_nwM {ds : List Dt} : nwM ds s = .ok (.obj s.length) (s ++ [.lst ds]) := rfl
@[simp] theorem ev_call {m : Fn} {fs : List Ex} : eCall m fs env s = bnd (evs fs env) m s := rfl
@[simp] theorem ev_meth {c : Nat} {m : Fn} {fo : Ex} {fs : List Ex} : eMeth c m fo fs env s = bnd (fo env) (fun x s => match insD s c x with | some _ => bnd (evs fs env) (fun ds => m (x :: ds)) s | none => .bad) s := rfl
@[simp] theorem ev_make {c : Nat} {m : Fn} {fs : List Ex} : eMake c m fs env s = bnd (evs fs env) (fun ds s => bnd (m (.obj s.length :: ds)) (fun _ s' => .ok (.obj s.length) s') (s ++ [.ins c []])) s := rfl
@[simp] theorem ev_fld {c i : Nat} {fo : Ex} : eFld c i fo env s = bnd (fo env) (fun d s => ofO s ((insD s c d).bind fun p => p.2[i]?)) s := rfl
theorem insD_obj {c j : Nat} {ds : List Dt} (h : s[j]? = some (.ins c ds)) : insD s c (.obj j) = some (j, ds) := by simp only [insD, h, if_true]
@[simp] theorem ev_setF {c i : Nat} {fo fv : Ex} : sSetF c i fo fv env s = sBnd (fv env) env (fun y => sBnd (fo env) env fun d s => match setFD s c i d y with | some s' => .fl (.nx env) s' | none => .bad) s := rfl
theorem setFD_obj {c i j : Nat} {ds : List Dt} {y : Dt} (h : s[j]? = some (.ins c ds)) (hi : i ≤ ds.length) : setFD s c i (.obj j) y = some (s.set j (.ins c (putI i y ds))) := by simp only [setFD, insD_obj h, Option.bind_some, if_pos hi]
@[simp] theorem ev_bm1 {ty : Sto → Dt → Bool} {op : Dt → Dt → Sto → Out Dt} {fo fe : Ex} : eBm1 ty op fo fe env s = bnd (fo env) (fun x s => if ty s x = true then bnd (fe env) (fun y => op x y) s else .bad) s := rfl
theorem isLst_obj {i : Nat} {l : List Dt} (h : s[i]? = some (.lst l)) : isLst s (.obj i) = true := by simp [isLst, asL, h]
theorem lstAt_obj {i : Nat} {l : List Dt} (h : s[i]? = some (.lst l)) : lstAt s (.obj i) = some (i, l) := by simp only [lstAt, h]
theorem dApp_obj {i : Nat} {l : List Dt} {y : Dt} (h : s[i]? = some (.lst l)) (hz : l.length < sizeLine) : dApp (.obj i) y s = .ok .non (s.set i (.lst (l ++ [y]))) := by simp only [dApp, lstAt_obj h, if_pos hz]
@[simp] theorem asQ_tup {l : List Dt} : asQ s (.tup l) = some l := rfl
@[simp] theorem asQ_lst {l : List Dt} : asQ s (.lst l) = some l := rfl
@[simp] theorem asQ_lsk {l : List Dt} : asQ s (.lsk l) = some l := rfl
@[simp] theorem asL_lst {l : List Dt} : asL s (.lst l) = some l := rfl
@[simp] theorem asL_lsk {l : List Dt} : asL s (.lsk l) = some l := rfl
theorem asQ_obj {i : Nat} {l : List Dt} (h : s[i]? = some (.lst l)) : asQ s (.obj i) = some l := by simp only [asQ, asL, h]
theorem asL_obj {i : Nat} {l : List Dt} (h : s[i]? = some (.lst l)) : asL s (.obj i) = some l := by simp only [asL, h]
@[simp] theorem dLen_tup {l : List Dt} : dLen (.tup l) s = .ok (.int l.length) s := rfl
@[simp] theorem dLen_lst {l : List Dt} : dLen (.lst l) s = .ok (.int l.length) s := rfl
@[simp] theorem dLen_lsk {l : List Dt} : dLen (.lsk l) s = .ok (.int l.length) s := rfl
@[simp] theorem dLen_str {l : Str} : dLen (.str l) s = .ok (.int l.length) s := rfl
theorem dLen_obj {i : Nat} {l : List Dt} (h : s[i]? = some (.lst l)) : dLen (.obj i) s = .ok (.int l.length) s := by simp only [dLen, lenD, h]; rfl
theorem dLen_dic {i : Nat} {l : List (Key × Dt)} (h : s[i]? = some (.dic l)) : dLen (.obj i) s = .ok (.int l.length) s := by simp only [dLen, lenD, h]; rfl
@[simp] theorem dIx_tup {l : List Dt} {i : Int} : dIx (.tup l) (.int i) s = ofO s (atI l i) := rfl
@[simp] theorem dIx_lst {l : List Dt} {i : Int} : dIx (.lst l) (.int i) s = ofO s (atI l i) := rfl
@[simp] theorem dIx_lsk {l : List Dt} {i : Int} : dIx (.lsk l) (.int i) s = ofO s (atI l i) := rfl
@[simp] theorem dIx_str {z : Str} {i : Int} : dIx (.str z) (.int i) s = ofO s ((atI z.cps.toList i).map fun c => .str ⟨#[c]⟩) := rfl
theorem dIx_obj {j : Nat} {l : List Dt} {i : Int} (h : s[j]? = some (.lst l)) : dIx (.obj j) (.int i) s = ofO s (atI l i) := by simp only [dIx, asQ_obj h, Option.bind_some]
@[simp] theorem dAdd_int {nw : List Dt → Sto → Out Dt} {i j : Int} : dAdd nw (.int i) (.int j) s = .ok (.int (i + j)) s := rfl
@[simp] theorem dNeg_int {i : Int} : dNeg (.int i) s = .ok (.int (-i)) s := rfl
@[simp] theorem isN_def {d : Dt} : dIsN d s = .ok (.bl (isNon d)) s := rfl
@[simp] theorem notN_def {d : Dt} : dNotN d s = .ok (.bl (!isNon d)) s := rfl
@[simp] theorem isNon_non : isNon .non = true := rfl
@[simp] theorem isNon_int {i : Int} : isNon (.int i) = false := rfl
@[simp] theorem isNon_bl {i : Bool} : isNon (.bl i) = false := rfl
@[simp] theorem isNon_str {i : Str} : isNon (.str i) = false := rfl
@[simp] theorem isNon_tup {i : List Dt} : isNon (.tup i) = false := rfl
@[simp] theorem isNon_lst {i : List Dt} : isNon (.lst i) = false := rfl
@[simp] theorem isNon_obj {i : Nat} : isNon (.obj i) = false := rfl
@[simp] theorem isNon_exc {i : Nat} : isNon (.exc i) = false := rfl
/-! equality -/
@[simp] theorem dEq_int {i j : Int} : dEq (.int i) (.int j) s = .ok (.bl (i == j)) s := rfl
@[simp] theorem dNe_int {i j : Int} : dNe (.int i) (.int j) s = .ok (.bl (!(i == j))) s := rfl
@[simp] theorem dEq_str {i j : Str} : dEq (.str i) (.str j) s = .ok (.bl (i == j)) s := rfl
@[simp] theorem dNe_str {i j : Str} : dNe (.str i) (.str j) s = .ok (.bl (!(i == j))) s := rfl
@[simp] theorem dEq_bl {i j : Bool} : dEq (.bl i) (.bl j) s = .ok (.bl (i == j)) s := rfl
end
theorem rep_zero : List.replicate 0 (none : Option Dt) = [] := rfl
theorem rep_succ {n : Nat} : List.replicate (n + 1) (none : Option Dt) = none :: List.replicate n none := rfl
/-- places of a written list -/
theorem atI_ofNat {α : Type} (l : List α) (n : Nat) : atI l (n : Int) = l[n]? := by
  unfold atI ixN
  rw [if_pos (Int.natCast_nonneg n)]
  by_cases h : n < l.length
  · rw [if_pos (by exact_mod_cast h)]; simp
  · rw [if_neg (by exact_mod_cast h)]
    simp
    omega
@[simp] theorem atI_zero {α : Type} (l : List α) : atI l 0 = l[0]? := atI_ofNat l 0
@[simp] theorem atI_one {α : Type} (l : List α) : atI l 1 = l[1]? := atI_ofNat l 1
@[simp] theorem atI_2 {α : Type} (l : List α) : atI l 2 = l[2]? := atI_ofNat l 2
@[simp] theorem atI_3 {α : Type} (l : List α) : atI l 3 = l[3]? := atI_ofNat l 3
@[simp] theorem atI_4 {α : Type} (l : List α) : atI l 4 = l[4]? := atI_ofNat l 4
@[simp] theorem atI_5 {α : Type} (l : List α) : atI l 5 = l[5]? := atI_ofNat l 5
@[simp] theorem atI_6 {α : Type} (l : List α) : atI l 6 = l[6]? := atI_ofNat l 6
@[simp] theorem atI_7 {α : Type} (l : List α) : atI l 7 = l[7]? := atI_ofNat l 7
@[simp] theorem atI_8 {α : Type} (l : List α) : atI l 8 = l[8]? := atI_ofNat l 8
@[simp] theorem atI_9 {α : Type} (l : List α) : atI l 9 = l[9]? := atI_ofNat l 9
@[simp] theorem atI_10 {α : Type} (l : List α) : atI l 10 = l[10]? := atI_ofNat l 10
@[simp] theorem atI_11 {α : Type} (l : List α) : atI l 11 = l[11]? := atI_ofNat l 11
@[simp] theorem atI_12 {α : Type} (l : List α) : atI l 12 = l[12]? := atI_ofNat l 12
theorem atI_m1 {α : Type} (l : List α) : atI l (-1) = l.getLast? := by
  rcases List.eq_nil_or_concat l with e | ⟨r, x, e⟩
  · subst e; rfl
  · subst e
    rw [List.concat_eq_append, atI_last, List.getLast?_append]
    rfl
theorem dAdd_tup {nw : List Dt → Sto → Out Dt} {l m : List Dt} {s : Sto} (h : l.length + m.length ≤ 1000) : dAdd nw (.tup l) (.tup m) s = .ok (.tup (l ++ m)) s := by
  simp only [dAdd]
  rw [if_pos (by rw [sizeLine_eq]; omega)]
theorem dIsi_tup {l : List Dt} {s : Sto} : dIsi "tuple" (.tup l) s = .ok (.bl true) s := rfl
end Pd
namespace Pd
open PySem L2
/-- a comprehension that changes nothing -/
theorem lc_pure {tg : Tg} {ft : Tx} {fe : Ex} {ok : Sto → Prop} {env : En} {s : Sto} {p : Dt → Bool} {g : Dt → Dt} (hok : ok s) : ∀ {l : List Dt}, (∀ d ∈ l, ∃ env1, tg d env = some env1 ∧ ft env1 s = .ok (p d) s ∧ (p d = true → fe env1 s = .ok (g d) s)) → lcGo tg ft fe ok l env s = .ok ((l.filter p).map g) s
  | [], _ => by simp only [lcGo, if_pos hok, List.filter_nil, List.map_nil]
  | d :: r, h => by
    obtain ⟨env1, h1, h2, h3⟩ := h d List.mem_cons_self
    have ih := lc_pure (l := r) hok fun d hd => h d (List.mem_cons_of_mem _ hd)
    simp only [lcGo, if_pos hok, h1, bndN, h2]
    cases e : p d with
    | true =>
      rw [if_pos rfl, List.filter_cons_of_pos e, List.map_cons]
      simp only [h3 e, ih]
    | false =>
      rw [if_neg Bool.false_ne_true, List.filter_cons_of_neg (by simp [e])]
      exact ih
/-- a loop by what holds between its turns -/
theorem for_inv {tg : Tg} {body : Sx} {ok : Sto → Prop} (I : List Dt → En → Sto → Prop) (all : List Dt) : ∀ (l pre : List Dt), all = pre ++ l → ∀ (env : En) (s : Sto), I pre env s →
    (∀ pre d post env s, all = pre ++ d :: post → I pre env s → ok s ∧ ∃ env1, tg d env = some env1 ∧ ∃ e s', (body env1 s = .fl (.nx e) s' ∨ body env1 s = .fl (.ct e) s') ∧ I (pre ++ [d]) e s') → (∀ env s, I all env s → ok s) →
    ∃ e s', forGo tg body ok l env s = .fl (.nx e) s' ∧ I all e s'
  | [], pre, ha, env, s, hi, hs, hd => by
    rw [List.append_nil] at ha
    subst ha
    exact ⟨env, s, by simp only [forGo, if_pos (hd env s hi)], hi⟩
  | d :: r, pre, ha, env, s, hi, hs, hd => by
    obtain ⟨hok, env1, h1, e, s', h2, h3⟩ := hs pre d r env s ha hi
    obtain ⟨e2, s2, h4, h5⟩ := for_inv I all r (pre ++ [d]) (by rw [ha, List.append_assoc]; rfl) e s' h3 hs hd
    refine ⟨e2, s2, ?_, h5⟩
    rcases h2 with h2 | h2
    · simp only [forGo, if_pos hok, h1, h2]; exact h4
    · simp only [forGo, if_pos hok, h1, h2]; exact h4
/-- .. over the numbers below n -/
theorem for_range_inv {tg : Tg} {body : Sx} (I : Nat → En → Sto → Prop) (n : Nat) {env : En} {s : Sto} (h0 : I 0 env s)
    (hs : ∀ k env s, k < n → I k env s → ∃ env1, tg (.int k) env = some env1 ∧ ∃ e s', (body env1 s = .fl (.nx e) s' ∨ body env1 s = .fl (.ct e) s') ∧ I (k + 1) e s') :
    ∃ e s', forGo tg body (fun _ => True) ((List.range n).map fun (k : Nat) => .int k) env s = .fl (.nx e) s' ∧ I n e s' := by
  obtain ⟨e, s', h1, h2⟩ := for_inv (tg := tg) (body := body) (ok := fun _ => True) (fun pre env s => ∃ k, k ≤ n ∧ pre = (List.range k).map (fun (k : Nat) => Dt.int k) ∧ I k env s) ((List.range n).map fun (k : Nat) => .int k) _ [] rfl env s ⟨0, Nat.zero_le _, rfl, h0⟩
    (fun pre d post env s ha ⟨k, hk, ep, hi⟩ => by
      have hlen : pre.length = k := by rw [ep, List.length_map, List.length_range]
      have hkn : k < n := by
        have := congrArg List.length ha
        simp at this
        omega
      have ed : d = .int k := by
        have z : ((List.range n).map fun (k : Nat) => Dt.int k)[k]? = some d := by rw [ha, ← hlen]; simp
        rw [List.getElem?_map, List.getElem?_range hkn] at z
        simpa using z.symm
      subst ed
      obtain ⟨env1, h1, e, s', h2, h3⟩ := hs k env s hkn hi
      exact ⟨trivial, env1, h1, e, s', h2, k + 1, hkn, by rw [ep, List.range_succ, List.map_append]; rfl, h3⟩) (fun _ _ _ => trivial)
  obtain ⟨k, hk, ep, hi⟩ := h2
  have : k = n := by
    have := congrArg List.length ep
    simp at this
    omega
  subst this
  exact ⟨e, s', h1, hi⟩
@[simp] theorem ev_for {fi : Is} {tg : Tg} {body : Sx} {env : En} {s : Sto} : sFor fi tg body env s = sBnd (fi env) env (fun p => forGo tg body p.2 p.1 env) s := rfl
@[simp] theorem ev_lc {nw : List Dt → Sto → Out Dt} {vs : List Nat} {fi : Is} {tg : Tg} {ft : Tx} {fe : Ex} {env : En} {s : Sto} : eLc nw vs fi tg ft fe env s = bnd (fi env) (fun p => bndN (lcGo tg ft fe p.2 p.1 (wipeD env vs)) nw) s := rfl
@[simp] theorem wipeD_nil {env : En} : wipeD env [] = env := rfl
@[simp] theorem wipeD_cons {env : En} {v : Nat} {vs : List Nat} : wipeD env (v :: vs) = (wipeD env vs).set v none := rfl
theorem bndN_ok {α β : Type} {m : Sto → Out α} {k : α → Sto → Out β} {s s' : Sto} {a : α} (h : m s = .ok a s') : bndN m k s = k a s' := by unfold bndN; rw [h]
@[simp] theorem ev_iSeq {f : Ex} {env : En} {s : Sto} : iSeq f env s = bnd (β := List Dt × (Sto → Prop)) (f env) (fun d s => match d with
  | .str x => .ok (signs x, fun _ => True) s
  | d => match asQ s d with
    | some l => .ok (l, fun s' => asQ s' d = some l) s
    | none => .bad) s := rfl
@[simp] theorem ev_iRange {f : Ex} {env : En} {s : Sto} : iRange f env s = bnd (β := List Dt × (Sto → Prop)) (f env) (fun d s => match d with
  | .int n => if n ≤ 16777216 ∧ -(2 ^ 62) ≤ n then .ok ((List.range n.toNat).map fun (k : Nat) => .int k, fun _ => True) s else .bad
  | _ => .bad) s := rfl
theorem ev_sl {nw : List Dt → Sto → Out Dt} {fa : Ex} {lo hi : Option Ex} {env : En} {s : Sto} : eSl nw fa lo hi env s = bnd (fa env) (fun x => bnd (evp lo env) fun l => bnd (evp hi env) fun u => dSl nw x l u) s := rfl
theorem evp_none {env : En} {s : Sto} : evp none env s = .ok none s := rfl
theorem evp_some {f : Ex} {env : En} {s : Sto} : evp (some f) env s = bnd (f env) (fun d s => match d with | .int i => .ok (some i) s | _ => .bad) s := rfl
theorem dSl_tup {nw : List Dt → Sto → Out Dt} {l : List Dt} {lo hi : Option Int} {s : Sto} : dSl nw (.tup l) lo hi s = .ok (.tup (cutD l lo hi)) s := rfl
theorem dSl_lst {nw : List Dt → Sto → Out Dt} {l : List Dt} {lo hi : Option Int} {s : Sto} : dSl nw (.lst l) lo hi s = nw (cutD l lo hi) s := rfl
theorem dSl_obj {nw : List Dt → Sto → Out Dt} {i : Nat} {l : List Dt} {lo hi : Option Int} {s : Sto} (h : s[i]? = some (.lst l)) : dSl nw (.obj i) lo hi s = nw (cutD l lo hi) s := by simp only [dSl, asL_obj h]
/-! ### equal data -/
mutual
theorem eqv_refl : ∀ p : PyData, p.canLay0 = true → PyData.eqv p p = true
  | .none, _ => rfl
  | .bool b, _ => by simp [PyData.eqv]
  | .int i, _ => by simp [PyData.eqv]
  | .str x, _ => by simp [PyData.eqv]
  | .list xs, h => by simp only [PyData.eqv]; exact eqvAll_refl xs (by simpa only [PyData.canLay0] using h)
  | .tuple xs, h => by simp only [PyData.eqv]; exact eqvAll_refl xs (by simpa only [PyData.canLay0] using h)
  | .dict xs, h => by simp [PyData.canLay0] at h
theorem eqvAll_refl : ∀ p : List PyData, PyData.canLayAll0 p = true → PyData.eqvAll p p = true
  | [], _ => rfl
  | x :: xs, h => by
    simp only [PyData.canLayAll0, Bool.and_eq_true] at h
    simp only [PyData.eqvAll, eqv_refl x h.1, eqvAll_refl xs h.2, Bool.and_self]
end
mutual
def noDict : PyData → Bool
  | .list xs => noDicts xs
  | .tuple xs => noDicts xs
  | .dict _ => false
  | _ => true
def noDicts : List PyData → Bool
  | [] => true
  | x :: xs => noDict x && noDicts xs
end
mutual
theorem eqv_self : ∀ p : PyData, noDict p = true → PyData.eqv p p = true
  | .none, _ => rfl
  | .bool b, _ => by simp [PyData.eqv]
  | .int i, _ => by simp [PyData.eqv]
  | .str x, _ => by simp [PyData.eqv]
  | .list xs, h => by simp only [PyData.eqv]; exact eqvAll_self xs (by simpa only [noDict] using h)
  | .tuple xs, h => by simp only [PyData.eqv]; exact eqvAll_self xs (by simpa only [noDict] using h)
  | .dict xs, h => by simp [noDict] at h
theorem eqvAll_self : ∀ p : List PyData, noDicts p = true → PyData.eqvAll p p = true
  | [], _ => rfl
  | x :: xs, h => by
    simp only [noDicts, Bool.and_eq_true] at h
    simp only [PyData.eqvAll, eqv_self x h.1, eqvAll_self xs h.2, Bool.and_self]
end
mutual
theorem toPy_noDict : ∀ (d : Dt) (p : PyData), toPy d = some p → noDict p = true
  | .non, p, h => by simp only [toPy, Option.some.injEq] at h; subst h; rfl
  | .bl _, p, h => by simp only [toPy, Option.some.injEq] at h; subst h; rfl
  | .int _, p, h => by simp only [toPy, Option.some.injEq] at h; subst h; rfl
  | .str _, p, h => by simp only [toPy, Option.some.injEq] at h; subst h; rfl
  | .tup l, p, h => by
    simp only [toPy, Option.map_eq_some_iff] at h
    obtain ⟨q, e1, e2⟩ := h
    subst e2
    simp only [noDict]
    exact toPys_noDict l q e1
  | .lst l, p, h => by
    simp only [toPy, Option.map_eq_some_iff] at h
    obtain ⟨q, e1, e2⟩ := h
    subst e2
    simp only [noDict]
    exact toPys_noDict l q e1
  | .lsk l, p, h => by
    simp only [toPy, Option.map_eq_some_iff] at h
    obtain ⟨q, e1, e2⟩ := h
    subst e2
    simp only [noDict]
    exact toPys_noDict l q e1
  | .obj _, p, h => by simp [toPy] at h
  | .exc _, p, h => by simp [toPy] at h
theorem toPys_noDict : ∀ (d : List Dt) (p : List PyData), toPys d = some p → noDicts p = true
  | [], p, h => by simp only [toPys, Option.some.injEq] at h; subst h; rfl
  | d :: ds, p, h => by
    simp only [toPys] at h
    split at h
    · rename_i a b ha hb
      cases h
      simp only [noDicts, toPy_noDict d a ha, toPys_noDict ds b hb, Bool.and_self]
    · cases h
end
mutual
def dpt : Dt → Option Nat
  | .non => some 0
  | .bl _ => some 0
  | .int _ => some 0
  | .str _ => some 0
  | .tup l => (dpts l).map (· + 1)
  | .lst l => (dpts l).map (· + 1)
  | .lsk l => (dpts l).map (· + 1)
  | .obj _ => none
  | .exc _ => none
def dpts : List Dt → Option Nat
  | [] => some 0
  | d :: ds => match dpt d, dpts ds with
    | some a, some b => some (max a b)
    | _, _ => none
end
mutual
theorem dpt_py : ∀ (d : Dt) (n : Nat), dpt d = some n → ∃ p, toPy d = some p ∧ p.depth = n
  | .non, n, h => by simp only [dpt, Option.some.injEq] at h; exact ⟨_, rfl, by simp only [PyData.depth]; exact h⟩
  | .bl _, n, h => by simp only [dpt, Option.some.injEq] at h; exact ⟨_, rfl, by simp only [PyData.depth]; exact h⟩
  | .int _, n, h => by simp only [dpt, Option.some.injEq] at h; exact ⟨_, rfl, by simp only [PyData.depth]; exact h⟩
  | .str _, n, h => by simp only [dpt, Option.some.injEq] at h; exact ⟨_, rfl, by simp only [PyData.depth]; exact h⟩
  | .tup l, n, h => by
    simp only [dpt, Option.map_eq_some_iff] at h
    obtain ⟨m, e1, e2⟩ := h
    obtain ⟨q, e3, e4⟩ := dpts_py l m e1
    exact ⟨.tuple q, by simp only [toPy, e3, Option.map_some], by simp only [PyData.depth]; omega⟩
  | .lst l, n, h => by
    simp only [dpt, Option.map_eq_some_iff] at h
    obtain ⟨m, e1, e2⟩ := h
    obtain ⟨q, e3, e4⟩ := dpts_py l m e1
    exact ⟨.list q, by simp only [toPy, e3, Option.map_some], by simp only [PyData.depth]; omega⟩
  | .lsk l, n, h => by
    simp only [dpt, Option.map_eq_some_iff] at h
    obtain ⟨m, e1, e2⟩ := h
    obtain ⟨q, e3, e4⟩ := dpts_py l m e1
    exact ⟨.list q, by simp only [toPy, e3, Option.map_some], by simp only [PyData.depth]; omega⟩
  | .obj _, n, h => by simp [dpt] at h
  | .exc _, n, h => by simp [dpt] at h
theorem dpts_py : ∀ (d : List Dt) (n : Nat), dpts d = some n → ∃ p, toPys d = some p ∧ PyData.depthAll p = n
  | [], n, h => by simp only [dpts, Option.some.injEq] at h; exact ⟨[], rfl, by simp only [PyData.depthAll]; exact h⟩
  | d :: ds, n, h => by
    simp only [dpts] at h
    split at h
    · rename_i a b ha hb
      cases h
      obtain ⟨p, e1, e2⟩ := dpt_py d a ha
      obtain ⟨q, e3, e4⟩ := dpts_py ds b hb
      exact ⟨p :: q, by simp only [toPys, e1, e3], by simp only [PyData.depthAll, e2, e4]⟩
    · cases h
end
theorem dEq_self {d : Dt} {n : Nat} {s : Sto} (h : dpt d = some n) (hn : n ≤ 64) : dEq d d s = .ok (.bl true) s ∧ dNe d d s = .ok (.bl false) s := by
  obtain ⟨p, e1, e2⟩ := dpt_py d n h
  have e3 : toPyS s d = some p := by
    cases d with
    | obj i => simp [dpt] at h
    | _ => exact e1
  have e4 : dEqB s d d = some true := by
    simp only [dEqB, e3, e2, if_pos (And.intro hn hn), eqv_self p (toPy_noDict d p e1)]
  constructor
  · simp only [dEq, e4, Option.map_some, ofO_some]
  · simp only [dNe, e4, Option.map_some, ofO_some, Bool.not_true]
end Pd
namespace Tx
open PySem L2 Pd
def top (i : Nat) : Stmt := PySem.Challenge.pw_tidinghall_k31_whole_taker.main.body.getD i (.Pass ⟨0, 0, 0, 0⟩)
def J : Cn
  | 0 => (Str.ofString "Taker", [Str.ofString "numbers"])
  | _ => (Str.ofString "", [])
abbrev s_Taker_init : Stmt := inClass (top 1) 0
theorem sc_Taker_init : FnScope ["self"] ["self"] (defScope s_Taker_init) := ⟨rfl, rfl, rfl, by decide +kernel, rfl, by decide +kernel, by decide +kernel⟩
abbrev s_Taker_took : Stmt := inClass (top 1) 1
theorem sc_Taker_took : FnScope ["self", "packet", "tiding", "number"] ["self", "packet"] (defScope s_Taker_took) := ⟨rfl, rfl, rfl, by decide +kernel, rfl, by decide +kernel, by decide +kernel⟩
abbrev s_law_cell : Stmt := top 3
theorem sc_law_cell : FnScope ["script", "k"] ["script", "k"] (defScope s_law_cell) := ⟨rfl, rfl, rfl, by decide +kernel, rfl, by decide +kernel, by decide +kernel⟩
abbrev s_law_due : Stmt := top 8
theorem sc_law_due : FnScope ["packet", "ids", "number", "tiding"] ["packet", "ids"] (defScope s_law_due) := ⟨rfl, rfl, rfl, by decide +kernel, rfl, by decide +kernel, by decide +kernel⟩
abbrev s_law_mix : Stmt := top 4
theorem sc_law_mix : FnScope ["script", "k", "number"] ["script", "k"] (defScope s_law_mix) := ⟨rfl, rfl, rfl, by decide +kernel, rfl, by decide +kernel, by decide +kernel⟩
abbrev s_law_draw : Stmt := top 5
theorem sc_law_draw : FnScope ["script", "town", "many"] ["script", "town", "many"] (defScope s_law_draw) := ⟨rfl, rfl, rfl, by decide +kernel, rfl, by decide +kernel, by decide +kernel⟩
abbrev s_law_pick : Stmt := top 6
theorem sc_law_pick : FnScope ["script", "town", "some"] ["script", "town", "some"] (defScope s_law_pick) := ⟨rfl, rfl, rfl, by decide +kernel, rfl, by decide +kernel, by decide +kernel⟩
abbrev s_law_small : Stmt := top 7
theorem sc_law_small : FnScope ["script", "town", "body", "name"] ["script", "town"] (defScope s_law_small) := ⟨rfl, rfl, rfl, by decide +kernel, rfl, by decide +kernel, by decide +kernel⟩
abbrev s_law : Stmt := top 9
theorem sc_law : FnScope ["script", "town", "takers", "ids", "k", "at", "number", "packet", "tiding", "again", "found"] ["script"] (defScope s_law) := ⟨rfl, rfl, rfl, by decide +kernel, rfl, by decide +kernel, by decide +kernel⟩
structure Ad where
  (f_Taker_init f_Taker_took f_law_cell f_law_due f_law_mix f_law_draw f_law_pick f_law_small f_law C_Taker : Addr)
structure Txt (K : PySem.W.Frag) (mg : Str → Option Value) (A : Ad) : Prop where
  d_Taker_init : ∃ fd, Fun K "__init__" "Taker.__init__" s_Taker_init A.f_Taker_init fd ∧ Binds K fd ["self"] []
  d_Taker_took : ∃ fd, Fun K "took" "Taker.took" s_Taker_took A.f_Taker_took fd ∧ Binds K fd ["self", "packet"] []
  d_law_cell : ∃ fd, Fun K "_law_cell" "_law_cell" s_law_cell A.f_law_cell fd ∧ Binds K fd ["script", "k"] []
  g_law_cell : mg "_law_cell" = some (.ref A.f_law_cell)
  k_law_cell : PySem.W.keepIn K (.ref A.f_law_cell) = true
  d_law_due : ∃ fd, Fun K "_law_due" "_law_due" s_law_due A.f_law_due fd ∧ Binds K fd ["packet", "ids"] []
  g_law_due : mg "_law_due" = some (.ref A.f_law_due)
  k_law_due : PySem.W.keepIn K (.ref A.f_law_due) = true
  d_law_mix : ∃ fd, Fun K "_law_mix" "_law_mix" s_law_mix A.f_law_mix fd ∧ Binds K fd ["script", "k"] []
  g_law_mix : mg "_law_mix" = some (.ref A.f_law_mix)
  k_law_mix : PySem.W.keepIn K (.ref A.f_law_mix) = true
  d_law_draw : ∃ fd, Fun K "_law_draw" "_law_draw" s_law_draw A.f_law_draw fd ∧ Binds K fd ["script", "town", "many"] []
  g_law_draw : mg "_law_draw" = some (.ref A.f_law_draw)
  k_law_draw : PySem.W.keepIn K (.ref A.f_law_draw) = true
  d_law_pick : ∃ fd, Fun K "_law_pick" "_law_pick" s_law_pick A.f_law_pick fd ∧ Binds K fd ["script", "town", "some"] []
  g_law_pick : mg "_law_pick" = some (.ref A.f_law_pick)
  k_law_pick : PySem.W.keepIn K (.ref A.f_law_pick) = true
  d_law_small : ∃ fd, Fun K "_law_small" "_law_small" s_law_small A.f_law_small fd ∧ Binds K fd ["script", "town"] []
  g_law_small : mg "_law_small" = some (.ref A.f_law_small)
  k_law_small : PySem.W.keepIn K (.ref A.f_law_small) = true
  d_law : ∃ fd, Fun K "law" "law" s_law A.f_law fd ∧ Binds K fd ["script"] []
  g_law : mg "law" = some (.ref A.f_law)
  k_law : PySem.W.keepIn K (.ref A.f_law) = true
  a_Taker_numbers : AtF J K mg 0 0 "numbers"
  mk_Taker : MkF J K mg 0 A.C_Taker A.f_Taker_init
  me_Taker_took : MeF J K mg 0 "took" A.C_Taker A.f_Taker_took
  n_isinstance : mg "isinstance" = none
  n_len : mg "len" = none
  n_range : mg "range" = none
  n_tuple : mg "tuple" = none
/-! ### what each def means -/
noncomputable def b_Taker_init : Sx := sSetF 0 0 (eVar 0) (eLst nwM [])
noncomputable def m_Taker_init : Fn := fnOf 1 b_Taker_init
noncomputable def b_Taker_took : Sx := sSeq (sIf (tBl (eOp dEq (eOp dIx (eVar 1) (eC (.int 0))) (eC (.str (Str.ofString "free"))))) (sSeq (sSetF 0 0 (eVar 0) (eLc nwM [3] (iSeq (eFld 0 0 (eVar 0))) (gN 3) (tBl (eOp dNe (eVar 3) (eOp dIx (eVar 1) (eC (.int 1))))) (eVar 3))) (sRet (eTup [eLst nwF [eTup [eC (.str (Str.ofString "done")), eOp dIx (eVar 1) (eC (.int 1))]], eLst nwF []]))) (sNext)) (sSeq (sAsg (eSl nwF (eVar 1) (some (eC (.int 1))) (some (eC (.int 5)))) (gN 2)) (sSeq (sIf (tBl (eOp dEq (eOp dIx (eVar 1) (eC (.int 3))) (eC (.int 0)))) (sRet (eTup [eLst nwF [], eLst nwF [eVar 2]])) (sNext)) (sSeq (sIf (tBl (eOp dEq (eOp dIx (eVar 1) (eC (.int 3))) (eC (.int 1)))) (sRet (eTup [eLst nwF [eTup [eC (.str (Str.ofString "got")), eOp dIx (eVar 1) (eC (.int 6))]], eLst nwF [eVar 2]])) (sNext)) (sSeq (sIf (tBl (eOp dIn (eOp dIx (eVar 1) (eC (.int 6))) (eFld 0 0 (eVar 0)))) (sRet (eTup [eLst nwF [eTup [eC (.str (Str.ofString "held")), eOp dIx (eVar 1) (eC (.int 6))]], eLst nwF []])) (sNext)) (sSeq (sExpr (eBm1 isLst dApp (eFld 0 0 (eVar 0)) (eOp dIx (eVar 1) (eC (.int 6))))) (sRet (eTup [eLst nwF [eTup [eC (.str (Str.ofString "held")), eOp dIx (eVar 1) (eC (.int 6))]], eLst nwF [eVar 2]])))))))
noncomputable def m_Taker_took : Fn := fnOf 4 b_Taker_took
noncomputable def b_law_cell : Sx := sSeq (sIf (tTru (eVar 0)) (sRet (eOp dIx (eVar 0) (eOp dMod (eVar 1) (eUn dLen (eVar 0))))) (sNext)) (sRet (eC (.int 0)))
noncomputable def m_law_cell : Fn := fnOf 2 b_law_cell
noncomputable def b_law_due : Sx := sSeq (sAsg (eOp dIx (eVar 0) (eUn dNeg (eC (.int 1)))) (gN 2)) (sSeq (sIf (tBl (eOp dEq (eOp dIx (eVar 0) (eC (.int 0))) (eC (.str (Str.ofString "free"))))) (sSeq (sIf (tBl (eOp dIn (eVar 2) (eVar 1))) (sExpr (eBm1 isLst dRem (eVar 1) (eVar 2))) (sNext)) (sRet (eTup [eLst nwF [eTup [eC (.str (Str.ofString "done")), eVar 2]], eLst nwF []]))) (sNext)) (sSeq (sAsg (eTup [eOp dIx (eVar 0) (eC (.int 1)), eOp dIx (eVar 0) (eC (.int 2)), eOp dIx (eVar 0) (eC (.int 3)), eOp dIx (eVar 0) (eC (.int 4))]) (gN 3)) (sSeq (sIf (tBl (eOp dEq (eOp dIx (eVar 0) (eC (.int 3))) (eC (.int 2)))) (sSeq (sIf (tBl (eOp dIn (eVar 2) (eVar 1))) (sRet (eTup [eLst nwF [eTup [eC (.str (Str.ofString "held")), eVar 2]], eLst nwF []])) (sNext)) (sSeq (sExpr (eBm1 isLst dApp (eVar 1) (eVar 2))) (sRet (eTup [eLst nwF [eTup [eC (.str (Str.ofString "held")), eVar 2]], eLst nwF [eVar 3]])))) (sNext)) (sRet (eTup [eIf (tBl (eOp dEq (eOp dIx (eVar 0) (eC (.int 3))) (eC (.int 1)))) (eLst nwF [eTup [eC (.str (Str.ofString "got")), eVar 2]]) (eLst nwF []), eLst nwF [eVar 3]])))))
noncomputable def m_law_due : Fn := fnOf 4 b_law_due
noncomputable def b_law_mix : Sx := sSeq (sAsg (eOp dMod (eOp (dAdd nwF) (eCall m_law_cell [eVar 0, eVar 1]) (eOp dMul (eC (.int 104729)) (eOp (dAdd nwF) (eVar 1) (eC (.int 1))))) (eC (.int 4294967291))) (gN 2)) (sSeq (sAsg (eOp dMod (eOp dPow (eVar 2) (eC (.int 5))) (eC (.int 4294967279))) (gN 2)) (sRet (eOp dMod (eOp (dAdd nwF) (eOp dMul (eOp dFdv (eVar 2) (eC (.int 64))) (eC (.int 69621))) (eVar 2)) (eC (.int 4294967231)))))
noncomputable def m_law_mix : Fn := fnOf 3 b_law_mix
noncomputable def b_law_draw : Sx := sSeq (sExpr (eBm1 isLst dApp (eVar 1) (eC (.int 0)))) (sRet (eOp dMod (eOp dFdv (eCall m_law_mix [eVar 0, eUn dLen (eVar 1)]) (eC (.int 8))) (eVar 2)))
noncomputable def m_law_draw : Fn := fnOf 3 b_law_draw
noncomputable def b_law_pick : Sx := sRet (eOp dIx (eVar 2) (eCall m_law_draw [eVar 0, eVar 1, eUn dLen (eVar 2)]))
noncomputable def m_law_pick : Fn := fnOf 3 b_law_pick
noncomputable def b_law_small : Sx := sSeq (sAsg (eCall m_law_pick [eVar 0, eVar 1, eLst nwF [eC (.str (Str.ofString "")), eC (.str (Str.ofString "x")), eC (.str (Str.ofString "y z")), eC (.str (Str.ofString "#")), eC (.str (Str.ofString "last"))]]) (gN 2)) (sSeq (sAsg (eCall m_law_pick [eVar 0, eVar 1, eLst nwF [eC (.str (Str.ofString "a")), eC (.str (Str.ofString "a/b")), eC (.str (Str.ofString "$s")), eC (.str (Str.ofString "/")), eC (.str (Str.ofString "b//c"))]]) (gN 3)) (sRet (eTup [eVar 3, eVar 2, eCall m_law_draw [eVar 0, eVar 1, eC (.int 3)], eOp dEq (eCall m_law_draw [eVar 0, eVar 1, eC (.int 2)]) (eC (.int 0))])))
noncomputable def m_law_small : Fn := fnOf 4 b_law_small
noncomputable def l_law_1 : Sx := sSeq (sAsg (eCall m_law_pick [eVar 0, eVar 1, eLst nwF [eC (.int 0), eC (.int 0), eC (.int 1)]]) (gN 5)) (sSeq (sAsg (eCall m_law_pick [eVar 0, eVar 1, eLst nwF [eC (.int 1), eC (.int 2), eC (.int 3), eC (.int 4), eC (.int 65535)]]) (gN 6)) (sSeq (sIf (tBl (eOp dEq (eCall m_law_draw [eVar 0, eVar 1, eC (.int 3)]) (eC (.int 0)))) (sAsg (eTup [eC (.str (Str.ofString "free")), eVar 6]) (gN 7)) (sSeq (sAsg (eCall m_law_small [eVar 0, eVar 1]) (gN 8)) (sSeq (sAsg (eAnd (eOp dGt (eOp dIx (eVar 8) (eC (.int 2))) (eC (.int 0))) (eOp dEq (eCall m_law_draw [eVar 0, eVar 1, eC (.int 2)]) (eC (.int 0)))) (gN 9)) (sAsg (eOp (dAdd nwF) (eOp (dAdd nwF) (eTup [eC (.str (Str.ofString "say"))]) (eVar 8)) (eTup [eVar 9, eIf (tBl (eOp dGt (eOp dIx (eVar 8) (eC (.int 2))) (eC (.int 0)))) (eVar 6) (eC (.int 0))])) (gN 7))))) (sSeq (sAsg (eMeth 0 m_Taker_took (eOp dIx (eVar 2) (eVar 5)) [eVar 7]) (gN 10)) (sIf (tOr (tNot (tTru (eUn (dIsi "tuple") (eVar 10)))) (tBl (eOp dNe (eVar 10) (eCall m_law_due [eVar 7, eOp dIx (eVar 3) (eVar 5)])))) (sRet (eC (.bl false))) (sNext)))))
noncomputable def b_law : Sx := sSeq (sAsg (eLst nwM []) (gN 1)) (sSeq (sAsg (eLst nwF [eMake 0 m_Taker_init [], eMake 0 m_Taker_init []]) (gN 2)) (sSeq (sAsg (eLst nwF [eLst nwM [], eLst nwM []]) (gN 3)) (sSeq (sFor (iRange (eCall m_law_draw [eVar 0, eVar 1, eC (.int 41)])) (gN 4) (l_law_1)) (sRet (eC (.bl true))))))
noncomputable def m_law : Fn := fnOf 11 b_law
theorem m_Taker_init_non : ∀ ds s d s', m_Taker_init ds s = .ok d s' → d = .non := noRt_fn (noRt_setF)
end Tx
namespace Tx
open PySem L2 Pd
section
variable {P : Program} {w : World} {K : PySem.W.Frag} {mg : Str → Option Value} {base : Heap} {A : Ad}
theorem d_Taker_init (T : Txt K mg A) : Df P w K mg base J 1 1 A.f_Taker_init m_Taker_init := by
  obtain ⟨fd, F, hb⟩ := T.d_Taker_init
  exact df_of F sc_Taker_init hb fun cdv A outer s H E hr =>
    (ss_one (ss_setF T.a_Taker_numbers (es_var (pv 0)) (es_lst isM (as_nil))))
theorem d_Taker_took (T : Txt K mg A) : Df P w K mg base J 1 2 A.f_Taker_took m_Taker_took := by
  obtain ⟨fd, F, hb⟩ := T.d_Taker_took
  exact df_of F sc_Taker_took hb fun cdv A outer s H E hr =>
    (ss_cons (ss_if (ts_cmp (c_eq hr.units) (es_ix (es_var (pv 1)) (es_int)) (es_str) (nomark _)) (ss_cons (ss_setF T.a_Taker_numbers (es_var (pv 0)) (es_lc (own := [("number", 3)]) isM rfl sc_Taker_took.nd (is_seq (es_fld T.a_Taker_numbers (es_var (pv 0)))) (blkOk_by (own := [("number", 3)]) (N := ["self", "packet", "tiding", "number"]) (sc := defScope s_Taker_took) (by decide +kernel)) (by decide) (fun _ _ _ _ _ => gs_name (pg_name (i := 3) sc_Taker_took.nd rfl (by first | exact Or.inl rfl | exact Or.inr rfl))) (fun _ _ _ _ _ => tts_one (ts_cmp (c_ne hr.units) (es_var (pv 3)) (es_ix (es_var (pv 1)) (es_int)) (nomark _))) (fun _ _ _ _ _ => es_var (pv 3))))
      (ss_one (ss_ret (es_tup (as_cons (es_lst isF (as_cons (es_tup (as_cons (es_str) (as_cons (es_ix (es_var (pv 1)) (es_int)) (as_nil)))) (as_nil))) (as_cons (es_lst isF (as_nil)) (as_nil))))))) (ss_nil))
      (ss_cons (ss_asg (es_sl isF (es_var (pv 1)) (os_some (es_int)) (os_some (es_int))) (gs_name (pg_name (i := 2) sc_Taker_took.nd rfl (by first | exact Or.inl rfl | exact Or.inr rfl))))
      (ss_cons (ss_if (ts_cmp (c_eq hr.units) (es_ix (es_var (pv 1)) (es_int)) (es_int) (nomark _)) (ss_one (ss_ret (es_tup (as_cons (es_lst isF (as_nil)) (as_cons (es_lst isF (as_cons (es_var (pv 2)) (as_nil))) (as_nil)))))) (ss_nil))
      (ss_cons (ss_if (ts_cmp (c_eq hr.units) (es_ix (es_var (pv 1)) (es_int)) (es_int) (nomark _)) (ss_one (ss_ret (es_tup (as_cons (es_lst isF (as_cons (es_tup (as_cons (es_str) (as_cons (es_ix (es_var (pv 1)) (es_int)) (as_nil)))) (as_nil))) (as_cons (es_lst isF (as_cons (es_var (pv 2)) (as_nil))) (as_nil)))))) (ss_nil))
      (ss_cons (ss_if (ts_cmp (c_in hr.u65) (es_ix (es_var (pv 1)) (es_int)) (es_fld T.a_Taker_numbers (es_var (pv 0)))) (ss_one (ss_ret (es_tup (as_cons (es_lst isF (as_cons (es_tup (as_cons (es_str) (as_cons (es_ix (es_var (pv 1)) (es_int)) (as_nil)))) (as_nil))) (as_cons (es_lst isF (as_nil)) (as_nil)))))) (ss_nil))
      (ss_cons (ss_expr (es_bm1 m_append (es_fld T.a_Taker_numbers (es_var (pv 0))) (es_ix (es_var (pv 1)) (es_int))))
      (ss_one (ss_ret (es_tup (as_cons (es_lst isF (as_cons (es_tup (as_cons (es_str) (as_cons (es_ix (es_var (pv 1)) (es_int)) (as_nil)))) (as_nil))) (as_cons (es_lst isF (as_cons (es_var (pv 2)) (as_nil))) (as_nil))))))))))))
theorem d_law_cell (T : Txt K mg A) : Df P w K mg base J 1 2 A.f_law_cell m_law_cell := by
  obtain ⟨fd, F, hb⟩ := T.d_law_cell
  exact df_of F sc_law_cell hb fun cdv A outer s H E hr =>
    (ss_cons (ss_if (ts_tru (es_var (pv 0))) (ss_one (ss_ret (es_ix (es_var (pv 0)) (es_mod (es_var (pv 1)) (es_b1 (b_len) rfl T.n_len (by decide +kernel) (es_var (pv 0))))))) (ss_nil))
      (ss_one (ss_ret (es_int))))
theorem d_law_due (T : Txt K mg A) : Df P w K mg base J 1 2 A.f_law_due m_law_due := by
  obtain ⟨fd, F, hb⟩ := T.d_law_due
  exact df_of F sc_law_due hb fun cdv A outer s H E hr =>
    (ss_cons (ss_asg (es_ix (es_var (pv 0)) (es_neg (es_int))) (gs_name (pg_name (i := 2) sc_law_due.nd rfl (by first | exact Or.inl rfl | exact Or.inr rfl))))
      (ss_cons (ss_if (ts_cmp (c_eq hr.units) (es_ix (es_var (pv 0)) (es_int)) (es_str) (nomark _)) (ss_cons (ss_if (ts_cmp (c_in hr.u65) (es_var (pv 2)) (es_var (pv 1))) (ss_one (ss_expr (es_bm1 m_remove (es_var (pv 1)) (es_var (pv 2))))) (ss_nil))
      (ss_one (ss_ret (es_tup (as_cons (es_lst isF (as_cons (es_tup (as_cons (es_str) (as_cons (es_var (pv 2)) (as_nil)))) (as_nil))) (as_cons (es_lst isF (as_nil)) (as_nil))))))) (ss_nil))
      (ss_cons (ss_asg (es_tup (as_cons (es_ix (es_var (pv 0)) (es_int)) (as_cons (es_ix (es_var (pv 0)) (es_int)) (as_cons (es_ix (es_var (pv 0)) (es_int)) (as_cons (es_ix (es_var (pv 0)) (es_int)) (as_nil)))))) (gs_name (pg_name (i := 3) sc_law_due.nd rfl (by first | exact Or.inl rfl | exact Or.inr rfl))))
      (ss_cons (ss_if (ts_cmp (c_eq hr.units) (es_ix (es_var (pv 0)) (es_int)) (es_int) (nomark _)) (ss_cons (ss_if (ts_cmp (c_in hr.u65) (es_var (pv 2)) (es_var (pv 1))) (ss_one (ss_ret (es_tup (as_cons (es_lst isF (as_cons (es_tup (as_cons (es_str) (as_cons (es_var (pv 2)) (as_nil)))) (as_nil))) (as_cons (es_lst isF (as_nil)) (as_nil)))))) (ss_nil))
      (ss_cons (ss_expr (es_bm1 m_append (es_var (pv 1)) (es_var (pv 2))))
      (ss_one (ss_ret (es_tup (as_cons (es_lst isF (as_cons (es_tup (as_cons (es_str) (as_cons (es_var (pv 2)) (as_nil)))) (as_nil))) (as_cons (es_lst isF (as_cons (es_var (pv 3)) (as_nil))) (as_nil)))))))) (ss_nil))
      (ss_one (ss_ret (es_tup (as_cons (es_if (ts_cmp (c_eq hr.units) (es_ix (es_var (pv 0)) (es_int)) (es_int) (nomark _)) (es_lst isF (as_cons (es_tup (as_cons (es_str) (as_cons (es_var (pv 2)) (as_nil)))) (as_nil))) (es_lst isF (as_nil))) (as_cons (es_lst isF (as_cons (es_var (pv 3)) (as_nil))) (as_nil))))))))))
theorem d_law_mix (T : Txt K mg A) : Df P w K mg base J 2 2 A.f_law_mix m_law_mix := by
  obtain ⟨fd, F, hb⟩ := T.d_law_mix
  exact df_of F sc_law_mix hb fun cdv A outer s H E hr =>
    (ss_cons (ss_asg (es_mod (es_add isF (es_call (takes_of rfl rfl rfl rfl) (d_law_cell T) (hr.mono (by decide)) rfl T.g_law_cell T.k_law_cell (as_cons (es_var (pv 0)) (as_cons (es_var (pv 1)) (as_nil)))) (es_mul (es_int) (es_add isF (es_var (pv 1)) (es_int)))) (es_int)) (gs_name (pg_name (i := 2) sc_law_mix.nd rfl (by first | exact Or.inl rfl | exact Or.inr rfl))))
      (ss_cons (ss_asg (es_mod (es_pow (es_var (pv 2)) (es_int)) (es_int)) (gs_name (pg_name (i := 2) sc_law_mix.nd rfl (by first | exact Or.inl rfl | exact Or.inr rfl))))
      (ss_one (ss_ret (es_mod (es_add isF (es_mul (es_fdv (es_var (pv 2)) (es_int)) (es_int)) (es_var (pv 2))) (es_int))))))
theorem d_law_draw (T : Txt K mg A) : Df P w K mg base J 3 3 A.f_law_draw m_law_draw := by
  obtain ⟨fd, F, hb⟩ := T.d_law_draw
  exact df_of F sc_law_draw hb fun cdv A outer s H E hr =>
    (ss_cons (ss_expr (es_bm1 m_append (es_var (pv 1)) (es_int)))
      (ss_one (ss_ret (es_mod (es_fdv (es_call (takes_of rfl rfl rfl rfl) (d_law_mix T) (hr.mono (by decide)) rfl T.g_law_mix T.k_law_mix (as_cons (es_var (pv 0)) (as_cons (es_b1 (b_len) rfl T.n_len (by decide +kernel) (es_var (pv 1))) (as_nil)))) (es_int)) (es_var (pv 2))))))
theorem d_law_pick (T : Txt K mg A) : Df P w K mg base J 4 3 A.f_law_pick m_law_pick := by
  obtain ⟨fd, F, hb⟩ := T.d_law_pick
  exact df_of F sc_law_pick hb fun cdv A outer s H E hr =>
    (ss_one (ss_ret (es_ix (es_var (pv 2)) (es_call (takes_of rfl rfl rfl rfl) (d_law_draw T) (hr.mono (by decide)) rfl T.g_law_draw T.k_law_draw (as_cons (es_var (pv 0)) (as_cons (es_var (pv 1)) (as_cons (es_b1 (b_len) rfl T.n_len (by decide +kernel) (es_var (pv 2))) (as_nil))))))))
theorem d_law_small (T : Txt K mg A) : Df P w K mg base J 5 2 A.f_law_small m_law_small := by
  obtain ⟨fd, F, hb⟩ := T.d_law_small
  exact df_of F sc_law_small hb fun cdv A outer s H E hr =>
    (ss_cons (ss_asg (es_call (takes_of rfl rfl rfl rfl) (d_law_pick T) (hr.mono (by decide)) rfl T.g_law_pick T.k_law_pick (as_cons (es_var (pv 0)) (as_cons (es_var (pv 1)) (as_cons (es_lst isF (as_cons (es_str) (as_cons (es_str) (as_cons (es_str) (as_cons (es_str) (as_cons (es_str) (as_nil))))))) (as_nil))))) (gs_name (pg_name (i := 2) sc_law_small.nd rfl (by first | exact Or.inl rfl | exact Or.inr rfl))))
      (ss_cons (ss_asg (es_call (takes_of rfl rfl rfl rfl) (d_law_pick T) (hr.mono (by decide)) rfl T.g_law_pick T.k_law_pick (as_cons (es_var (pv 0)) (as_cons (es_var (pv 1)) (as_cons (es_lst isF (as_cons (es_str) (as_cons (es_str) (as_cons (es_str) (as_cons (es_str) (as_cons (es_str) (as_nil))))))) (as_nil))))) (gs_name (pg_name (i := 3) sc_law_small.nd rfl (by first | exact Or.inl rfl | exact Or.inr rfl))))
      (ss_one (ss_ret (es_tup (as_cons (es_var (pv 3)) (as_cons (es_var (pv 2)) (as_cons (es_call (takes_of rfl rfl rfl rfl) (d_law_draw T) (hr.mono (by decide)) rfl T.g_law_draw T.k_law_draw (as_cons (es_var (pv 0)) (as_cons (es_var (pv 1)) (as_cons (es_int) (as_nil))))) (as_cons (es_cmp (c_eq hr.units) (es_call (takes_of rfl rfl rfl rfl) (d_law_draw T) (hr.mono (by decide)) rfl T.g_law_draw T.k_law_draw (as_cons (es_var (pv 0)) (as_cons (es_var (pv 1)) (as_cons (es_int) (as_nil))))) (es_int) (nomark _)) (as_nil))))))))))
theorem fn_law {fd : FuncData} (T : Txt K mg A) (F : Fun K "law" "law" s_law A.f_law fd) : FnOk P w K mg base (L2.CX P w) 6 A.f_law fd ["script"] (spD ⟨K, mg, J⟩ 1 m_law) :=
  fn_of_body F sc_law rfl rfl fun cdv A outer s H E hr =>
    (ss_cons (ss_asg (es_lst isM (as_nil)) (gs_name (pg_name (i := 1) sc_law.nd rfl (by first | exact Or.inl rfl | exact Or.inr rfl))))
      (ss_cons (ss_asg (es_lst isF (as_cons (es_make0 (takes_of rfl rfl rfl rfl) T.mk_Taker (d_Taker_init T) (hr.mono (by decide)) (m_Taker_init_non) rfl rfl) (as_cons (es_make0 (takes_of rfl rfl rfl rfl) T.mk_Taker (d_Taker_init T) (hr.mono (by decide)) (m_Taker_init_non) rfl rfl) (as_nil)))) (gs_name (pg_name (i := 2) sc_law.nd rfl (by first | exact Or.inl rfl | exact Or.inr rfl))))
      (ss_cons (ss_asg (es_lst isF (as_cons (es_lst isM (as_nil)) (as_cons (es_lst isM (as_nil)) (as_nil)))) (gs_name (pg_name (i := 3) sc_law.nd rfl (by first | exact Or.inl rfl | exact Or.inr rfl))))
      (ss_cons (ss_for (passes_of rfl) rfl (is_range rfl T.n_range (es_call (takes_of rfl rfl rfl rfl) (d_law_draw T) (hr.mono (by decide)) rfl T.g_law_draw T.k_law_draw (as_cons (es_var (pv 0)) (as_cons (es_var (pv 1)) (as_cons (es_int) (as_nil)))))) (gs_name (pg_name (i := 4) sc_law.nd rfl (by first | exact Or.inl rfl | exact Or.inr rfl))) (ss_cons (ss_asg (es_call (takes_of rfl rfl rfl rfl) (d_law_pick T) (hr.mono (by decide)) rfl T.g_law_pick T.k_law_pick (as_cons (es_var (pv 0)) (as_cons (es_var (pv 1)) (as_cons (es_lst isF (as_cons (es_int) (as_cons (es_int) (as_cons (es_int) (as_nil))))) (as_nil))))) (gs_name (pg_name (i := 5) sc_law.nd rfl (by first | exact Or.inl rfl | exact Or.inr rfl))))
      (ss_cons (ss_asg (es_call (takes_of rfl rfl rfl rfl) (d_law_pick T) (hr.mono (by decide)) rfl T.g_law_pick T.k_law_pick (as_cons (es_var (pv 0)) (as_cons (es_var (pv 1)) (as_cons (es_lst isF (as_cons (es_int) (as_cons (es_int) (as_cons (es_int) (as_cons (es_int) (as_cons (es_int) (as_nil))))))) (as_nil))))) (gs_name (pg_name (i := 6) sc_law.nd rfl (by first | exact Or.inl rfl | exact Or.inr rfl))))
      (ss_cons (ss_if (ts_cmp (c_eq hr.units) (es_call (takes_of rfl rfl rfl rfl) (d_law_draw T) (hr.mono (by decide)) rfl T.g_law_draw T.k_law_draw (as_cons (es_var (pv 0)) (as_cons (es_var (pv 1)) (as_cons (es_int) (as_nil))))) (es_int) (nomark _)) (ss_one (ss_asg (es_tup (as_cons (es_str) (as_cons (es_var (pv 6)) (as_nil)))) (gs_name (pg_name (i := 7) sc_law.nd rfl (by first | exact Or.inl rfl | exact Or.inr rfl))))) (ss_cons (ss_asg (es_call (takes_of rfl rfl rfl rfl) (d_law_small T) (hr.mono (by decide)) rfl T.g_law_small T.k_law_small (as_cons (es_var (pv 0)) (as_cons (es_var (pv 1)) (as_nil)))) (gs_name (pg_name (i := 8) sc_law.nd rfl (by first | exact Or.inl rfl | exact Or.inr rfl))))
      (ss_cons (ss_asg (es_and (es_cmp (c_gt) (es_ix (es_var (pv 8)) (es_int)) (es_int) (nomark _)) (es_one (es_cmp (c_eq hr.units) (es_call (takes_of rfl rfl rfl rfl) (d_law_draw T) (hr.mono (by decide)) rfl T.g_law_draw T.k_law_draw (as_cons (es_var (pv 0)) (as_cons (es_var (pv 1)) (as_cons (es_int) (as_nil))))) (es_int) (nomark _)))) (gs_name (pg_name (i := 9) sc_law.nd rfl (by first | exact Or.inl rfl | exact Or.inr rfl))))
      (ss_one (ss_asg (es_add isF (es_add isF (es_tup (as_cons (es_str) (as_nil))) (es_var (pv 8))) (es_tup (as_cons (es_var (pv 9)) (as_cons (es_if (ts_cmp (c_gt) (es_ix (es_var (pv 8)) (es_int)) (es_int) (nomark _)) (es_var (pv 6)) (es_int)) (as_nil))))) (gs_name (pg_name (i := 7) sc_law.nd rfl (by first | exact Or.inl rfl | exact Or.inr rfl))))))))
      (ss_cons (ss_asg (es_meth (takes_of rfl rfl rfl rfl) T.me_Taker_took (d_Taker_took T) (hr.mono (by decide)) (es_ix (es_var (pv 2)) (es_var (pv 5))) (as_cons (es_var (pv 7)) (as_nil))) (gs_name (pg_name (i := 10) sc_law.nd rfl (by first | exact Or.inl rfl | exact Or.inr rfl))))
      (ss_one (ss_if (ts_w (ws_or (ts_not (ts_tru (es_isi (n := "tuple") (by decide +kernel) rfl T.n_isinstance rfl T.n_tuple (by decide +kernel) (es_var (pv 10))))) (ws_or1 (ts_cmp (c_ne hr.units) (es_var (pv 10)) (es_call (takes_of rfl rfl rfl rfl) (d_law_due T) (hr.mono (by decide)) rfl T.g_law_due T.k_law_due (as_cons (es_var (pv 7)) (as_cons (es_ix (es_var (pv 3)) (es_var (pv 5))) (as_nil)))) (nomark _))))) (ss_one (ss_ret (es_bl))) (ss_nil))))))))
      (ss_one (ss_ret (es_bl)))))))
end
theorem all_mk {l : PySem.W.OpenLaw} {w : World} {K : PySem.W.Frag} {h : Heap} {mg : Str → Option Value} {fa : Addr} (X : K.In h) (G : h.Ns mainGlobals mg) (hfa : mg "law" = some (.ref fa))
    {C_Taker : Addr}
    {f_Taker_init : Addr} {od_Taker_init an_Taker_init : Option Addr} {sl_Taker_init : Array (Option Value)} {oc_Taker_init kV_Taker_init dc_Taker_init pm_Taker_init cd_Taker_init ct_Taker_init : Value}
    {f_Taker_took : Addr} {od_Taker_took an_Taker_took : Option Addr} {sl_Taker_took : Array (Option Value)} {oc_Taker_took kV_Taker_took dc_Taker_took pm_Taker_took cd_Taker_took ct_Taker_took : Value}
    {f_law_cell : Addr} {od_law_cell an_law_cell : Option Addr} {sl_law_cell : Array (Option Value)} {oc_law_cell kV_law_cell dc_law_cell pm_law_cell cd_law_cell ct_law_cell : Value}
    {f_law_due : Addr} {od_law_due an_law_due : Option Addr} {sl_law_due : Array (Option Value)} {oc_law_due kV_law_due dc_law_due pm_law_due cd_law_due ct_law_due : Value}
    {f_law_mix : Addr} {od_law_mix an_law_mix : Option Addr} {sl_law_mix : Array (Option Value)} {oc_law_mix kV_law_mix dc_law_mix pm_law_mix cd_law_mix ct_law_mix : Value}
    {f_law_draw : Addr} {od_law_draw an_law_draw : Option Addr} {sl_law_draw : Array (Option Value)} {oc_law_draw kV_law_draw dc_law_draw pm_law_draw cd_law_draw ct_law_draw : Value}
    {f_law_pick : Addr} {od_law_pick an_law_pick : Option Addr} {sl_law_pick : Array (Option Value)} {oc_law_pick kV_law_pick dc_law_pick pm_law_pick cd_law_pick ct_law_pick : Value}
    {f_law_small : Addr} {od_law_small an_law_small : Option Addr} {sl_law_small : Array (Option Value)} {oc_law_small kV_law_small dc_law_small pm_law_small cd_law_small ct_law_small : Value}
    {f_law : Addr} {od_law an_law : Option Addr} {sl_law : Array (Option Value)} {oc_law kV_law dc_law pm_law cd_law ct_law : Value}
    (aC_Taker : PySem.W.nsIn K mainGlobals "Taker" = some (some (.ref C_Taker)))
    (kC_Taker : PySem.W.keepIn K (.ref C_Taker) = true)
    (a_Taker_init : PySem.W.findIn K (.ref C_Taker) "__init__" = some (some (.ref f_Taker_init)))
    (i_Taker_init : PySem.W.isFn K (.ref f_Taker_init) = true)
    (l_Taker_init : K.lookup f_Taker_init = some ⟨oc_Taker_init, od_Taker_init, .func (PySem.W.fnOf "__init__" "Taker.__init__" (defArgs s_Taker_init) (defBody s_Taker_init) (defScope s_Taker_init) .none kV_Taker_init dc_Taker_init pm_Taker_init an_Taker_init cd_Taker_init ct_Taker_init), sl_Taker_init⟩)
    (c_Taker_init : PySem.W.codeIn K cd_Taker_init "Taker.__init__" = true)
    (k_Taker_init : PySem.W.keepIn K (.ref f_Taker_init) = true)
    (a_Taker_took : PySem.W.findIn K (.ref C_Taker) "took" = some (some (.ref f_Taker_took)))
    (i_Taker_took : PySem.W.isFn K (.ref f_Taker_took) = true)
    (l_Taker_took : K.lookup f_Taker_took = some ⟨oc_Taker_took, od_Taker_took, .func (PySem.W.fnOf "took" "Taker.took" (defArgs s_Taker_took) (defBody s_Taker_took) (defScope s_Taker_took) .none kV_Taker_took dc_Taker_took pm_Taker_took an_Taker_took cd_Taker_took ct_Taker_took), sl_Taker_took⟩)
    (c_Taker_took : PySem.W.codeIn K cd_Taker_took "Taker.took" = true)
    (k_Taker_took : PySem.W.keepIn K (.ref f_Taker_took) = true)
    (a_law_cell : PySem.W.nsIn K mainGlobals "_law_cell" = some (some (.ref f_law_cell)))
    (l_law_cell : K.lookup f_law_cell = some ⟨oc_law_cell, od_law_cell, .func (PySem.W.fnOf "_law_cell" "_law_cell" (defArgs s_law_cell) (defBody s_law_cell) (defScope s_law_cell) .none kV_law_cell dc_law_cell pm_law_cell an_law_cell cd_law_cell ct_law_cell), sl_law_cell⟩)
    (c_law_cell : PySem.W.codeIn K cd_law_cell "_law_cell" = true)
    (k_law_cell : PySem.W.keepIn K (.ref f_law_cell) = true)
    (a_law_due : PySem.W.nsIn K mainGlobals "_law_due" = some (some (.ref f_law_due)))
    (l_law_due : K.lookup f_law_due = some ⟨oc_law_due, od_law_due, .func (PySem.W.fnOf "_law_due" "_law_due" (defArgs s_law_due) (defBody s_law_due) (defScope s_law_due) .none kV_law_due dc_law_due pm_law_due an_law_due cd_law_due ct_law_due), sl_law_due⟩)
    (c_law_due : PySem.W.codeIn K cd_law_due "_law_due" = true)
    (k_law_due : PySem.W.keepIn K (.ref f_law_due) = true)
    (a_law_mix : PySem.W.nsIn K mainGlobals "_law_mix" = some (some (.ref f_law_mix)))
    (l_law_mix : K.lookup f_law_mix = some ⟨oc_law_mix, od_law_mix, .func (PySem.W.fnOf "_law_mix" "_law_mix" (defArgs s_law_mix) (defBody s_law_mix) (defScope s_law_mix) .none kV_law_mix dc_law_mix pm_law_mix an_law_mix cd_law_mix ct_law_mix), sl_law_mix⟩)
    (c_law_mix : PySem.W.codeIn K cd_law_mix "_law_mix" = true)
    (k_law_mix : PySem.W.keepIn K (.ref f_law_mix) = true)
    (a_law_draw : PySem.W.nsIn K mainGlobals "_law_draw" = some (some (.ref f_law_draw)))
    (l_law_draw : K.lookup f_law_draw = some ⟨oc_law_draw, od_law_draw, .func (PySem.W.fnOf "_law_draw" "_law_draw" (defArgs s_law_draw) (defBody s_law_draw) (defScope s_law_draw) .none kV_law_draw dc_law_draw pm_law_draw an_law_draw cd_law_draw ct_law_draw), sl_law_draw⟩)
    (c_law_draw : PySem.W.codeIn K cd_law_draw "_law_draw" = true)
    (k_law_draw : PySem.W.keepIn K (.ref f_law_draw) = true)
    (a_law_pick : PySem.W.nsIn K mainGlobals "_law_pick" = some (some (.ref f_law_pick)))
    (l_law_pick : K.lookup f_law_pick = some ⟨oc_law_pick, od_law_pick, .func (PySem.W.fnOf "_law_pick" "_law_pick" (defArgs s_law_pick) (defBody s_law_pick) (defScope s_law_pick) .none kV_law_pick dc_law_pick pm_law_pick an_law_pick cd_law_pick ct_law_pick), sl_law_pick⟩)
    (c_law_pick : PySem.W.codeIn K cd_law_pick "_law_pick" = true)
    (k_law_pick : PySem.W.keepIn K (.ref f_law_pick) = true)
    (a_law_small : PySem.W.nsIn K mainGlobals "_law_small" = some (some (.ref f_law_small)))
    (l_law_small : K.lookup f_law_small = some ⟨oc_law_small, od_law_small, .func (PySem.W.fnOf "_law_small" "_law_small" (defArgs s_law_small) (defBody s_law_small) (defScope s_law_small) .none kV_law_small dc_law_small pm_law_small an_law_small cd_law_small ct_law_small), sl_law_small⟩)
    (c_law_small : PySem.W.codeIn K cd_law_small "_law_small" = true)
    (k_law_small : PySem.W.keepIn K (.ref f_law_small) = true)
    (a_law : PySem.W.nsIn K mainGlobals "law" = some (some (.ref f_law)))
    (l_law : K.lookup f_law = some ⟨oc_law, od_law, .func (PySem.W.fnOf "law" "law" (defArgs s_law) (defBody s_law) (defScope s_law) .none kV_law dc_law pm_law an_law cd_law ct_law), sl_law⟩)
    (c_law : PySem.W.codeIn K cd_law "law" = true)
    (k_law : PySem.W.keepIn K (.ref f_law) = true)
    (pg_Taker : PySem.W.plainGet K C_Taker Str.empty = true)
    (hd_Taker : PySem.W.hasDictIn K C_Taker = true)
    (po_Taker : PySem.W.plainOver K C_Taker = true)
    (sa_Taker : PySem.W.findIn K (.ref C_Taker) "__setattr__" = some (some (.builtin "object.__setattr__")))
    (mk_Taker : PySem.W.makesIn K C_Taker = true)
    (n_Taker_numbers : PySem.W.findIn K (.ref C_Taker) "numbers" = some none)
    (n_isinstance : PySem.W.nsIn K mainGlobals "isinstance" = some none)
    (n_len : PySem.W.nsIn K mainGlobals "len" = some none)
    (n_range : PySem.W.nsIn K mainGlobals "range" = some none)
    (n_tuple : PySem.W.nsIn K mainGlobals "tuple" = some none) :
    ∃ fd : FuncData, (∀ (s : Shared) (v : Value), BindsTo s fd ⟨[v], []⟩ [("script", v)]) ∧ ∀ base : Heap, K.In base → base.Ns mainGlobals mg → FnOk l.prog w K mg base (L2.CX l.prog w) 6 fa fd ["script"] (spD ⟨K, mg, J⟩ 1 m_law) := by
  have e : fa = f_law := by
    have z := hfa.symm.trans (PySem.W.mg_of X G a_law)
    cases z
    rfl
  rw [e]
  have F_Taker_init := fun_mk (st := s_Taker_init) l_Taker_init c_Taker_init k_Taker_init
  have B_Taker_init := F_Taker_init.binds (ps := ["self"]) fun _ _ _ _ _ _ us hl => match us, hl with | [_], _ => rfl
  have F_Taker_took := fun_mk (st := s_Taker_took) l_Taker_took c_Taker_took k_Taker_took
  have B_Taker_took := F_Taker_took.binds (ps := ["self", "packet"]) fun _ _ _ _ _ _ us hl => match us, hl with | [_, _], _ => rfl
  have F_law_cell := fun_mk (st := s_law_cell) l_law_cell c_law_cell k_law_cell
  have B_law_cell := F_law_cell.binds (ps := ["script", "k"]) fun _ _ _ _ _ _ us hl => match us, hl with | [_, _], _ => rfl
  have F_law_due := fun_mk (st := s_law_due) l_law_due c_law_due k_law_due
  have B_law_due := F_law_due.binds (ps := ["packet", "ids"]) fun _ _ _ _ _ _ us hl => match us, hl with | [_, _], _ => rfl
  have F_law_mix := fun_mk (st := s_law_mix) l_law_mix c_law_mix k_law_mix
  have B_law_mix := F_law_mix.binds (ps := ["script", "k"]) fun _ _ _ _ _ _ us hl => match us, hl with | [_, _], _ => rfl
  have F_law_draw := fun_mk (st := s_law_draw) l_law_draw c_law_draw k_law_draw
  have B_law_draw := F_law_draw.binds (ps := ["script", "town", "many"]) fun _ _ _ _ _ _ us hl => match us, hl with | [_, _, _], _ => rfl
  have F_law_pick := fun_mk (st := s_law_pick) l_law_pick c_law_pick k_law_pick
  have B_law_pick := F_law_pick.binds (ps := ["script", "town", "some"]) fun _ _ _ _ _ _ us hl => match us, hl with | [_, _, _], _ => rfl
  have F_law_small := fun_mk (st := s_law_small) l_law_small c_law_small k_law_small
  have B_law_small := F_law_small.binds (ps := ["script", "town"]) fun _ _ _ _ _ _ us hl => match us, hl with | [_, _], _ => rfl
  have F_law := fun_mk (st := s_law) l_law c_law k_law
  have B_law := F_law.binds (ps := ["script"]) fun _ _ _ _ _ _ us hl => match us, hl with | [_], _ => rfl
  have gC_Taker := PySem.W.mg_of X G aC_Taker
  have K_Taker : Cls K C_Taker := ⟨pg_Taker, hd_Taker, po_Taker, sa_Taker⟩
  have T : Txt K mg { f_Taker_init := f_Taker_init, f_Taker_took := f_Taker_took, f_law_cell := f_law_cell, f_law_due := f_law_due, f_law_mix := f_law_mix, f_law_draw := f_law_draw, f_law_pick := f_law_pick, f_law_small := f_law_small, f_law := f_law, C_Taker := C_Taker } := { d_Taker_init := ⟨_, F_Taker_init, B_Taker_init⟩, d_Taker_took := ⟨_, F_Taker_took, B_Taker_took⟩, d_law_cell := ⟨_, F_law_cell, B_law_cell⟩, g_law_cell := PySem.W.mg_of X G a_law_cell, k_law_cell := k_law_cell, d_law_due := ⟨_, F_law_due, B_law_due⟩, g_law_due := PySem.W.mg_of X G a_law_due, k_law_due := k_law_due, d_law_mix := ⟨_, F_law_mix, B_law_mix⟩, g_law_mix := PySem.W.mg_of X G a_law_mix, k_law_mix := k_law_mix, d_law_draw := ⟨_, F_law_draw, B_law_draw⟩, g_law_draw := PySem.W.mg_of X G a_law_draw, k_law_draw := k_law_draw, d_law_pick := ⟨_, F_law_pick, B_law_pick⟩, g_law_pick := PySem.W.mg_of X G a_law_pick, k_law_pick := k_law_pick, d_law_small := ⟨_, F_law_small, B_law_small⟩, g_law_small := PySem.W.mg_of X G a_law_small, k_law_small := k_law_small, d_law := ⟨_, F_law, B_law⟩, g_law := PySem.W.mg_of X G a_law, k_law := k_law, a_Taker_numbers := ⟨rfl, by decide +kernel, fun C h => by have e := h.symm.trans gC_Taker; cases e; exact ⟨K_Taker, n_Taker_numbers⟩⟩, mk_Taker := ⟨gC_Taker, ⟨mk_Taker, a_Taker_init, i_Taker_init, kC_Taker⟩, by decide⟩, me_Taker_took := ⟨gC_Taker, by decide +kernel, K_Taker, ⟨a_Taker_took, i_Taker_took, k_Taker_took⟩⟩, n_isinstance := PySem.W.mg_none_of X G n_isinstance, n_len := PySem.W.mg_none_of X G n_len, n_range := PySem.W.mg_none_of X G n_range, n_tuple := PySem.W.mg_none_of X G n_tuple }
  exact ⟨PySem.W.fnOf "law" "law" (defArgs s_law) (defBody s_law) (defScope s_law) .none kV_law dc_law pm_law an_law cd_law ct_law, fun s v => .of_eq rfl, fun base _ _ => fn_law T F_law⟩
def spW (K : PySem.W.Frag) : Sp := fun vs H Q E => ∀ mg, spD ⟨K, mg, J⟩ 1 m_law vs H Q E
theorem walk (hlaw : ∀ ns : List Int, ns.length ≤ 63 → ∃ s, m_law [.lsk (ns.map .int)] [] = .ok (.bl true) s) {l : PySem.W.OpenLaw} {q : Program} {loose : List Str} {XP : (Str → Option Value) → Heap → Prop} {YP : World → Heap → Prop} {d : DefRec} {K : Params → PySem.W.Frag} (hn : l.most = some 63) (hdf : d.params.defaults = [])
    (hY : ∀ (w : World) (h : Heap), YP w h → (K w.params).In h)
    (F : ∀ (w : World) (mg : Str → Option Value) (fa : Addr) (h : Heap), (K w.params).In h → h.Ns mainGlobals mg → mg d.name = some (.ref fa) →
      ∃ fd : FuncData, (∀ (s : Shared) (u : Value), BindsTo s fd ⟨[u], []⟩ [("script", u)]) ∧ ∀ base : Heap, (K w.params).In base → base.Ns mainGlobals mg → FnOk l.prog w (K w.params) mg base (L2.CX l.prog w) 6 fa fd ["script"] (spD ⟨K w.params, mg, J⟩ 1 m_law)) :
    PySem.W.WalkO q loose XP YP l.row.toRowW d [] (fun f vs => PySem.call f vs) :=
  L2.walk_of (n := 63) (k := 6) (x := "script") (CX := fun w => L2.CX l.prog w) (sp := fun w => spW (K w.params)) hn (by decide) hdf ⟨rfl, by decide, by decide⟩ hY (fun w mg fa h kx hg hm => by
      obtain ⟨fd, h1, h2⟩ := F w mg fa h kx hg hm
      exact ⟨fd, h1, fun base hb hgb => (h2 base hb hgb).imp fun vs H Q E hs => hs mg⟩) (fun w H a ns hl _ hS mg => law_sp hlaw hl hS) fun w H s e s' h => by
    obtain ⟨_, _, _, _, _, _, _, _, _, _, _, _, z⟩ := h
    exact z
end Tx
namespace Tx
open PySem L2 Pd
/-! ### the law's draws -/
def cell (ns : List Int) (k : Int) : Int := if ns = [] then 0 else (ns[(k % ns.length).toNat]?).getD 0
def mixA (ns : List Int) (k : Int) : Int := (cell ns k + 104729 * (k + 1)) % 4294967291
def mixB (ns : List Int) (k : Int) : Int := mixA ns k ^ 5 % 4294967279
def mix (ns : List Int) (k : Int) : Int := (mixB ns k / 64 * 69621 + mixB ns k) % 4294967231
def dr (ns : List Int) (n : Nat) (many : Int) : Int := mix ns n / 8 % many
theorem dr_nonneg (ns : List Int) (n : Nat) {m : Int} (h : 0 < m) : 0 ≤ dr ns n m := Int.emod_nonneg _ (by omega)
theorem dr_lt (ns : List Int) (n : Nat) {m : Int} (h : 0 < m) : dr ns n m < m := Int.emod_lt_of_pos _ h
theorem mod_ok {m : Int} (h : 0 < m) (i : Int) : (0 ≤ i % m) ∧ (i % m < m) := ⟨Int.emod_nonneg _ (by omega), Int.emod_lt_of_pos _ h⟩
abbrev sc (ns : List Int) : Dt := .lsk (ns.map .int)
theorem ev_cell (ns : List Int) (k : Int) (s : Sto) (hk : 0 ≤ k) : m_law_cell [sc ns, .int k] s = .ok (.int (cell ns k)) s := by
  by_cases h : ns = []
  · subst h
    simp [m_law_cell, b_law_cell, fnOf, cell]
  · have hl : 0 < ns.length := List.length_pos_iff.mpr h
    have hm : (0 : Int) < ns.length := by omega
    obtain ⟨h1, h2⟩ := mod_ok hm k
    obtain ⟨j, hj⟩ : ∃ j : Nat, k % (ns.length : Int) = j := ⟨(k % (ns.length : Int)).toNat, by omega⟩
    have hj2 : j < ns.length := by omega
    have e : atI (ns.map Dt.int) (k % (ns.length : Int)) = some (.int (cell ns k)) := by
      rw [hj, atI_ofNat, List.getElem?_map, List.getElem?_eq_getElem hj2]
      simp [cell, h, hj, List.getElem?_eq_getElem hj2]
    have hm' : ¬ ns.isEmpty = true := by simpa using h
    simp [m_law_cell, b_law_cell, fnOf, h, hl, sc, e]
theorem ev_mix (ns : List Int) (k : Int) (s : Sto) (hk : 0 ≤ k) : m_law_mix [sc ns, .int k] s = .ok (.int (mix ns k)) s := by
  have h1 := mod_ok (m := 4294967291) (by decide) (cell ns k + 104729 * (k + 1))
  have h2 := mod_ok (m := 4294967279) (by decide) (mixA ns k ^ 5)
  have h3 : (mixA ns k).natAbs < 2 ^ 64 := by unfold mixA; omega
  have h5 : -(2 ^ 64) < mixB ns k / 64 ∧ mixB ns k / 64 < 2 ^ 64 := by unfold mixB; omega
  have e1 : m_law_cell [sc ns, .int k] s = .ok (.int (cell ns k)) s := ev_cell ns k s hk
  have e2 : decide ((-(2 ^ 64) < (104729 : Int) ∧ (104729 : Int) < 2 ^ 64) ∨ (-(2 ^ 64) < (k + 1) ∧ (k + 1) < 2 ^ 64)) = true := decide_eq_true (.inl (by decide))
  have e3 : decide ((0 : Int) ≤ 5 ∧ (5 : Int) ≤ 1000000 ∧ (mixA ns k).natAbs < 2 ^ 64) = true := decide_eq_true ⟨by decide, by decide, h3⟩
  have e4 : decide ((-(2 ^ 64) < mixB ns k / 64 ∧ mixB ns k / 64 < 2 ^ 64) ∨ (-(2 ^ 64) < (69621 : Int) ∧ (69621 : Int) < 2 ^ 64)) = true := decide_eq_true (.inl h5)
  have e5 : decide (0 < (64 : Int) ∧ (64 : Int) < 1073741824) = true := by decide
  have f1 : (cell ns k + 104729 * (k + 1)) % 4294967291 = mixA ns k := rfl
  have f2 : mixA ns k ^ (5 : Int).toNat % 4294967279 = mixB ns k := rfl
  have f3 : (mixB ns k / 64 * 69621 + mixB ns k) % 4294967231 = mix ns k := rfl
  have g1 : decide ((0 : Int) < 4294967291) = true := by decide
  have g2 : decide ((0 : Int) < 4294967279) = true := by decide
  have g3 : decide ((0 : Int) < 4294967231) = true := by decide
  unfold m_law_mix b_law_mix
  simp only [fnOf, ev_seq, ev_asg, sBnd_def, ev_op, ev_un, bnd_def, ev_call, evs_cons, evs_nil, ev_var, ev_c, ev_if, ev_next, ev_expr, ev_tru, ev_bl, ev_and, ev_or, ev_not, ev_yes, ev_andE, ev_orE, ev_notE, ev_ifE, ev_chain, ofB_some, ofO_some, ofO_none, truD_non, truD_bl, truD_int, truD_str, truD_tup, truD_lst, truD_lsk, ev_tup, ev_lst, ev_nwF, ev_nwM, ev_meth, ev_make, ev_fld, ev_setF, ev_bm1, asQ_tup, asQ_lst, asQ_lsk, asL_lst, asL_lsk, dLen_tup, dLen_lst, dLen_lsk, dLen_str, dIx_tup, dIx_lst, dIx_lsk, dIx_str, dAdd_int, dNeg_int, isN_def, notN_def, isNon_non, isNon_int, isNon_bl, isNon_str, isNon_tup, isNon_lst, isNon_obj, isNon_exc, dEq_int, dNe_int, dEq_str, dNe_str, dEq_bl, atI_zero, atI_one, atI_2, atI_3, atI_4, atI_5, atI_6, atI_7, atI_8, atI_9, atI_10, atI_11, atI_12, atI_m1, ev_gT, setAll_nil, setAll_cons, iOp_int, ev_gN, ev_ret, List.map_cons, List.map_nil, List.length_cons, List.length_nil, rep_zero, rep_succ, List.cons_append, List.nil_append, List.getElem?_cons_zero, List.getElem?_cons_succ, List.set_cons_zero, List.set_cons_succ, Nat.sub_self, Nat.reduceAdd, Nat.reduceSub, Option.map_some, Option.bind_some, if_true, Bool.not_true, Bool.not_false, Bool.false_eq_true, if_false, decide_true, e1, e2, f1, e3, f2, e5, e4, f3, g1, g2, g3]
theorem zeros_app (n : Nat) : List.replicate n (Dt.int 0) ++ [.int 0] = List.replicate (n + 1) (.int 0) := by rw [List.replicate_succ']
abbrev zs (n : Nat) : Mo := .lst (List.replicate n (.int 0))
/-- the store, n numbers drawn -/
def tw (s : Sto) (n : Nat) : Sto := s.set 0 (zs n)
theorem tw_at {s : Sto} {n i : Nat} (h : i ≠ 0) : (tw s n)[i]? = s[i]? := by unfold tw; rw [List.getElem?_set_ne (Ne.symm h)]
theorem tw_len (s : Sto) (n : Nat) : (tw s n).length = s.length := by unfold tw; rw [List.length_set]
theorem tw_zero {s : Sto} {n : Nat} (h : 0 < s.length) : (tw s n)[0]? = some (zs n) := by unfold tw; rw [List.getElem?_set_self h]
theorem tw_self {s : Sto} {n : Nat} (h : s[0]? = some (zs n)) : tw s n = s := by
  unfold tw
  apply List.ext_getElem?
  intro i
  by_cases e : 0 = i
  · subst e; rw [List.getElem?_set_self (List.getElem?_eq_some_iff.mp h).1, h]
  · rw [List.getElem?_set_ne e]
theorem tw_set {s : Sto} {n i : Nat} {m : Mo} (h : i ≠ 0) : (tw s n).set i m = tw (s.set i m) n := by unfold tw; rw [List.set_comm _ _ (Ne.symm h)]
theorem tw_app {s : Sto} {n : Nat} {m : Mo} (h : 0 < s.length) : tw s n ++ [m] = tw (s ++ [m]) n := by unfold tw; rw [List.set_append_left _ _ h]
theorem ev_draw (ns : List Int) {n : Nat} {many : Int} {s : Sto} (hs : 0 < s.length) (hn : n < 1000000) (hm : 0 < many) : m_law_draw [sc ns, .obj 0, .int many] (tw s n) = .ok (.int (dr ns (n + 1) many)) (tw s (n + 1)) := by
  have ht : (tw s n)[0]? = some (zs n) := tw_zero hs
  have h1 := isLst_obj ht
  have h2 := dApp_obj (y := .int 0) ht (by rw [List.length_replicate, sizeLine_eq]; omega)
  rw [zeros_app] at h2
  have e0 : (tw s n).set 0 (.lst (List.replicate (n + 1) (.int 0))) = tw s (n + 1) := by unfold tw; rw [List.set_set]
  rw [e0] at h2
  have h3 : dLen (.obj 0) (tw s (n + 1)) = .ok (.int ((n + 1 : Nat) : Int)) (tw s (n + 1)) := by
    rw [dLen_obj (l := List.replicate (n + 1) (.int 0)) (tw_zero hs), List.length_replicate]
  have h4 := ev_mix ns ((n + 1 : Nat) : Int) (tw s (n + 1)) (Int.natCast_nonneg _)
  have f1 : mix ns ((n + 1 : Nat) : Int) / 8 % many = dr ns (n + 1) many := rfl
  have g1 : decide (0 < (8 : Int) ∧ (8 : Int) < 1073741824) = true := by decide
  have g2 : decide (0 < many) = true := decide_eq_true hm
  unfold m_law_draw b_law_draw
  simp only [fnOf, ev_seq, ev_asg, sBnd_def, ev_op, ev_un, bnd_def, ev_call, evs_cons, evs_nil, ev_var, ev_c, ev_if, ev_next, ev_expr, ev_tru, ev_bl, ev_and, ev_or, ev_not, ev_yes, ev_andE, ev_orE, ev_notE, ev_ifE, ev_chain, ofB_some, ofO_some, ofO_none, truD_non, truD_bl, truD_int, truD_str, truD_tup, truD_lst, truD_lsk, ev_tup, ev_lst, ev_nwF, ev_nwM, ev_meth, ev_make, ev_fld, ev_setF, ev_bm1, asQ_tup, asQ_lst, asQ_lsk, asL_lst, asL_lsk, dLen_tup, dLen_lst, dLen_lsk, dLen_str, dIx_tup, dIx_lst, dIx_lsk, dIx_str, dAdd_int, dNeg_int, isN_def, notN_def, isNon_non, isNon_int, isNon_bl, isNon_str, isNon_tup, isNon_lst, isNon_obj, isNon_exc, dEq_int, dNe_int, dEq_str, dNe_str, dEq_bl, atI_zero, atI_one, atI_2, atI_3, atI_4, atI_5, atI_6, atI_7, atI_8, atI_9, atI_10, atI_11, atI_12, atI_m1, ev_gT, setAll_nil, setAll_cons, iOp_int, ev_gN, ev_ret, List.map_cons, List.map_nil, List.length_cons, List.length_nil, rep_zero, rep_succ, List.cons_append, List.nil_append, List.getElem?_cons_zero, List.getElem?_cons_succ, List.set_cons_zero, List.set_cons_succ, Nat.sub_self, Nat.reduceAdd, Nat.reduceSub, Option.map_some, Option.bind_some, if_true, Bool.not_true, Bool.not_false, Bool.false_eq_true, if_false, decide_true, h1, h2, h3, h4, f1, g1, g2]
/-- the item that is picked -/
def pk (ns : List Int) (n : Nat) (l : List Dt) : Dt := (l[(dr ns n l.length).toNat]?).getD .non
theorem pk_mem (ns : List Int) (n : Nat) {l : List Dt} (h : l ≠ []) : pk ns n l ∈ l := by
  have hl : (0 : Int) < l.length := by have := List.length_pos_iff.mpr h; omega
  have h1 := dr_nonneg ns n hl
  have h2 := dr_lt ns n hl
  have h3 : (dr ns n l.length).toNat < l.length := by omega
  unfold pk
  rw [List.getElem?_eq_getElem h3]
  exact List.getElem_mem h3
theorem ev_pick (ns : List Int) {n : Nat} {l : List Dt} {s : Sto} (hs : 0 < s.length) (hn : n < 1000000) (hl : l ≠ []) : m_law_pick [sc ns, .obj 0, .lst l] (tw s n) = .ok (pk ns (n + 1) l) (tw s (n + 1)) := by
  have hl' : (0 : Int) < l.length := by have := List.length_pos_iff.mpr hl; omega
  have h1 := ev_draw ns hs hn hl'
  have h2 := dr_nonneg ns (n + 1) hl'
  have h3 := dr_lt ns (n + 1) hl'
  have h4 : (dr ns (n + 1) l.length).toNat < l.length := by omega
  have h5 : atI l (dr ns (n + 1) l.length) = some (pk ns (n + 1) l) := by
    obtain ⟨j, hj⟩ : ∃ j : Nat, dr ns (n + 1) l.length = j := ⟨(dr ns (n + 1) l.length).toNat, by omega⟩
    have hj2 : j < l.length := by omega
    unfold pk
    rw [hj, atI_ofNat]
    simp [List.getElem?_eq_getElem hj2]
  unfold m_law_pick b_law_pick
  simp only [fnOf, ev_seq, ev_asg, sBnd_def, ev_op, ev_un, bnd_def, ev_call, evs_cons, evs_nil, ev_var, ev_c, ev_if, ev_next, ev_expr, ev_tru, ev_bl, ev_and, ev_or, ev_not, ev_yes, ev_andE, ev_orE, ev_notE, ev_ifE, ev_chain, ofB_some, ofO_some, ofO_none, truD_non, truD_bl, truD_int, truD_str, truD_tup, truD_lst, truD_lsk, ev_tup, ev_lst, ev_nwF, ev_nwM, ev_meth, ev_make, ev_fld, ev_setF, ev_bm1, asQ_tup, asQ_lst, asQ_lsk, asL_lst, asL_lsk, dLen_tup, dLen_lst, dLen_lsk, dLen_str, dIx_tup, dIx_lst, dIx_lsk, dIx_str, dAdd_int, dNeg_int, isN_def, notN_def, isNon_non, isNon_int, isNon_bl, isNon_str, isNon_tup, isNon_lst, isNon_obj, isNon_exc, dEq_int, dNe_int, dEq_str, dNe_str, dEq_bl, atI_zero, atI_one, atI_2, atI_3, atI_4, atI_5, atI_6, atI_7, atI_8, atI_9, atI_10, atI_11, atI_12, atI_m1, ev_gT, setAll_nil, setAll_cons, iOp_int, ev_gN, ev_ret, List.map_cons, List.map_nil, List.length_cons, List.length_nil, rep_zero, rep_succ, List.cons_append, List.nil_append, List.getElem?_cons_zero, List.getElem?_cons_succ, List.set_cons_zero, List.set_cons_succ, Nat.sub_self, Nat.reduceAdd, Nat.reduceSub, Option.map_some, Option.bind_some, if_true, Bool.not_true, Bool.not_false, Bool.false_eq_true, if_false, decide_true, decide_false, Int.reduceBEq, Int.reduceEq, Int.reduceLT, Int.reduceLE, Int.reduceNeg, Int.reduceAdd, Int.reduceSub, Int.reduceMul, Int.reduceToNat, Nat.reduceLT, Nat.reduceLeDiff, beq_self_eq_true, reduceIte, eq_self, Int.reduceNe, Int.reduceBNe, not_true_eq_false, not_false_eq_true, true_and, and_true, true_or, or_true, false_or, or_false, and_false, false_and, decide_eq_true_eq, Bool.true_and, Bool.and_true, Bool.false_and, Bool.and_false, Bool.true_or, Bool.or_true, Bool.false_or, Bool.or_false, h1, h5]
/-! ### a small tiding -/
def isSmall (d : Dt) : Prop := ∃ (nm bd : Str) (g : Int) (kp : Bool), d = .tup [.str nm, .str bd, .int g, .bl kp] ∧ (g = 0 ∨ g = 1 ∨ g = 2)
theorem ev_small (ns : List Int) {n : Nat} {s : Sto} (hs : 0 < s.length) (hn : n + 4 < 1000000) : ∃ d, isSmall d ∧ m_law_small [sc ns, .obj 0] (tw s n) = .ok d (tw s (n + 4)) := by
  have h1 := ev_pick ns (n := n) (s := s) (l := [.str (Str.ofString ""), .str (Str.ofString "x"), .str (Str.ofString "y z"), .str (Str.ofString "#"), .str (Str.ofString "last")]) hs (by omega) (by simp)
  have h2 := ev_pick ns (n := n + 1) (s := s) (l := [.str (Str.ofString "a"), .str (Str.ofString "a/b"), .str (Str.ofString "$s"), .str (Str.ofString "/"), .str (Str.ofString "b//c")]) hs (by omega) (by simp)
  have h3 := ev_draw ns (n := n + 2) (many := 3) hs (by omega) (by decide)
  have h4 := ev_draw ns (n := n + 3) (many := 2) hs (by omega) (by decide)
  obtain ⟨bd, hb⟩ : ∃ x, pk ns (n + 1) [.str (Str.ofString ""), .str (Str.ofString "x"), .str (Str.ofString "y z"), .str (Str.ofString "#"), .str (Str.ofString "last")] = .str x := by
    have := pk_mem ns (n + 1) (l := [.str (Str.ofString ""), .str (Str.ofString "x"), .str (Str.ofString "y z"), .str (Str.ofString "#"), .str (Str.ofString "last")]) (by simp)
    simp only [List.mem_cons, List.not_mem_nil, or_false] at this
    rcases this with h | h | h | h | h <;> exact ⟨_, h⟩
  obtain ⟨nm, hm⟩ : ∃ x, pk ns (n + 1 + 1) [.str (Str.ofString "a"), .str (Str.ofString "a/b"), .str (Str.ofString "$s"), .str (Str.ofString "/"), .str (Str.ofString "b//c")] = .str x := by
    have := pk_mem ns (n + 1 + 1) (l := [.str (Str.ofString "a"), .str (Str.ofString "a/b"), .str (Str.ofString "$s"), .str (Str.ofString "/"), .str (Str.ofString "b//c")]) (by simp)
    simp only [List.mem_cons, List.not_mem_nil, or_false] at this
    rcases this with h | h | h | h | h <;> exact ⟨_, h⟩
  rw [hb] at h1
  rw [hm] at h2
  have g0 := dr_nonneg ns (n + 2 + 1) (m := 3) (by decide)
  have g1 := dr_lt ns (n + 2 + 1) (m := 3) (by decide)
  refine ⟨.tup [.str nm, .str bd, .int (dr ns (n + 2 + 1) 3), .bl (dr ns (n + 3 + 1) 2 == 0)], ⟨nm, bd, _, _, rfl, by omega⟩, ?_⟩
  unfold m_law_small b_law_small
  simp only [fnOf, ev_seq, ev_asg, sBnd_def, ev_op, ev_un, bnd_def, ev_call, evs_cons, evs_nil, ev_var, ev_c, ev_if, ev_next, ev_expr, ev_tru, ev_bl, ev_and, ev_or, ev_not, ev_yes, ev_andE, ev_orE, ev_notE, ev_ifE, ev_chain, ofB_some, ofO_some, ofO_none, truD_non, truD_bl, truD_int, truD_str, truD_tup, truD_lst, truD_lsk, ev_tup, ev_lst, ev_nwF, ev_nwM, ev_meth, ev_make, ev_fld, ev_setF, ev_bm1, asQ_tup, asQ_lst, asQ_lsk, asL_lst, asL_lsk, dLen_tup, dLen_lst, dLen_lsk, dLen_str, dIx_tup, dIx_lst, dIx_lsk, dIx_str, dAdd_int, dNeg_int, isN_def, notN_def, isNon_non, isNon_int, isNon_bl, isNon_str, isNon_tup, isNon_lst, isNon_obj, isNon_exc, dEq_int, dNe_int, dEq_str, dNe_str, dEq_bl, atI_zero, atI_one, atI_2, atI_3, atI_4, atI_5, atI_6, atI_7, atI_8, atI_9, atI_10, atI_11, atI_12, atI_m1, ev_gT, setAll_nil, setAll_cons, iOp_int, ev_gN, ev_ret, List.map_cons, List.map_nil, List.length_cons, List.length_nil, rep_zero, rep_succ, List.cons_append, List.nil_append, List.getElem?_cons_zero, List.getElem?_cons_succ, List.set_cons_zero, List.set_cons_succ, Nat.sub_self, Nat.reduceAdd, Nat.reduceSub, Option.map_some, Option.bind_some, if_true, Bool.not_true, Bool.not_false, Bool.false_eq_true, if_false, decide_true, decide_false, Int.reduceBEq, Int.reduceEq, Int.reduceLT, Int.reduceLE, Int.reduceNeg, Int.reduceAdd, Int.reduceSub, Int.reduceMul, Int.reduceToNat, Nat.reduceLT, Nat.reduceLeDiff, beq_self_eq_true, reduceIte, eq_self, Int.reduceNe, Int.reduceBNe, not_true_eq_false, not_false_eq_true, true_and, and_true, true_or, or_true, false_or, or_false, and_false, false_and, decide_eq_true_eq, Bool.true_and, Bool.and_true, Bool.false_and, Bool.and_false, Bool.true_or, Bool.or_true, Bool.false_or, Bool.or_false, h1, h2, h3, h4]
/-! ### the taker -/
theorem app_at {s : Sto} {m : Mo} {i : Nat} {o : Mo} (h : s[i]? = some o) : (s ++ [m])[i]? = some o := by
  rw [List.getElem?_append_left (List.getElem?_eq_some_iff.mp h).1]
  exact h
theorem app_last {s : Sto} {m : Mo} : (s ++ [m])[s.length]? = some m := by simp
def neI (x : Int) : Dt → Bool
  | .int v => v != x
  | _ => false
theorem filter_neI (x : Int) (a : List Int) : ((a.map Dt.int).filter (neI x)).map id = (a.filter (· != x)).map Dt.int := by
  rw [List.map_id, List.filter_map]
  rfl
theorem eqFree : (Str.ofString "free" == Str.ofString "free") = true := by decide +kernel
theorem eqSay : (Str.ofString "say" == Str.ofString "free") = false := by decide +kernel
theorem took_free {s : Sto} {i j : Nat} {a : List Int} {x : Int} (h1 : s[i]? = some (.ins 0 [.obj j])) (h2 : s[j]? = some (.lst (a.map .int))) :
    m_Taker_took [.obj i, .tup [.str (Str.ofString "free"), .int x]] s = .ok (.tup [.lst [.tup [.str (Str.ofString "done"), .int x]], .lst []]) ((s ++ [Mo.lst ((a.filter (· != x)).map .int)]).set i (.ins 0 [.obj s.length])) := by
  have e1 := insD_obj h1
  have e2 := asQ_obj h2
  have e3 : lcGo (gN 3) (tBl (eOp dNe (eVar 3) (eOp dIx (eVar 1) (eC (.int 1))))) (eVar 3) (fun s' => asQ s' (.obj j) = some (a.map .int)) (a.map .int) [some (.obj i), some (.tup [.str (Str.ofString "free"), .int x]), none, none] s = .ok ((a.filter (· != x)).map .int) s := by
    rw [← filter_neI]
    refine lc_pure e2 fun d hd => ?_
    obtain ⟨v, _, rfl⟩ := List.mem_map.mp hd
    refine ⟨_, rfl, ?_, fun _ => ?_⟩
    · simp only [fnOf, ev_seq, ev_asg, sBnd_def, ev_op, ev_un, bnd_def, ev_call, evs_cons, evs_nil, ev_var, ev_c, ev_if, ev_next, ev_expr, ev_tru, ev_bl, ev_and, ev_or, ev_not, ev_yes, ev_andE, ev_orE, ev_notE, ev_ifE, ev_chain, ofB_some, ofO_some, ofO_none, truD_non, truD_bl, truD_int, truD_str, truD_tup, truD_lst, truD_lsk, ev_tup, ev_lst, ev_nwF, ev_nwM, ev_meth, ev_make, ev_fld, ev_setF, ev_bm1, asQ_tup, asQ_lst, asQ_lsk, asL_lst, asL_lsk, dLen_tup, dLen_lst, dLen_lsk, dLen_str, dIx_tup, dIx_lst, dIx_lsk, dIx_str, dAdd_int, dNeg_int, isN_def, notN_def, isNon_non, isNon_int, isNon_bl, isNon_str, isNon_tup, isNon_lst, isNon_obj, isNon_exc, dEq_int, dNe_int, dEq_str, dNe_str, dEq_bl, atI_zero, atI_one, atI_2, atI_3, atI_4, atI_5, atI_6, atI_7, atI_8, atI_9, atI_10, atI_11, atI_12, atI_m1, ev_gT, setAll_nil, setAll_cons, iOp_int, ev_gN, ev_ret, List.map_cons, List.map_nil, List.length_cons, List.length_nil, rep_zero, rep_succ, List.cons_append, List.nil_append, List.getElem?_cons_zero, List.getElem?_cons_succ, List.set_cons_zero, List.set_cons_succ, Nat.sub_self, Nat.reduceAdd, Nat.reduceSub, Option.map_some, Option.bind_some, if_true, Bool.not_true, Bool.not_false, Bool.false_eq_true, if_false, decide_true, decide_false, Int.reduceBEq, Int.reduceEq, Int.reduceLT, Int.reduceLE, Int.reduceNeg, Int.reduceAdd, Int.reduceSub, Int.reduceMul, Int.reduceToNat, Nat.reduceLT, Nat.reduceLeDiff, beq_self_eq_true, reduceIte, eq_self, Int.reduceNe, Int.reduceBNe, not_true_eq_false, not_false_eq_true, true_and, and_true, true_or, or_true, false_or, or_false, and_false, false_and, decide_eq_true_eq, Bool.true_and, Bool.and_true, Bool.false_and, Bool.and_false, Bool.true_or, Bool.or_true, Bool.false_or, Bool.or_false]
      rfl
    · simp only [fnOf, ev_seq, ev_asg, sBnd_def, ev_op, ev_un, bnd_def, ev_call, evs_cons, evs_nil, ev_var, ev_c, ev_if, ev_next, ev_expr, ev_tru, ev_bl, ev_and, ev_or, ev_not, ev_yes, ev_andE, ev_orE, ev_notE, ev_ifE, ev_chain, ofB_some, ofO_some, ofO_none, truD_non, truD_bl, truD_int, truD_str, truD_tup, truD_lst, truD_lsk, ev_tup, ev_lst, ev_nwF, ev_nwM, ev_meth, ev_make, ev_fld, ev_setF, ev_bm1, asQ_tup, asQ_lst, asQ_lsk, asL_lst, asL_lsk, dLen_tup, dLen_lst, dLen_lsk, dLen_str, dIx_tup, dIx_lst, dIx_lsk, dIx_str, dAdd_int, dNeg_int, isN_def, notN_def, isNon_non, isNon_int, isNon_bl, isNon_str, isNon_tup, isNon_lst, isNon_obj, isNon_exc, dEq_int, dNe_int, dEq_str, dNe_str, dEq_bl, atI_zero, atI_one, atI_2, atI_3, atI_4, atI_5, atI_6, atI_7, atI_8, atI_9, atI_10, atI_11, atI_12, atI_m1, ev_gT, setAll_nil, setAll_cons, iOp_int, ev_gN, ev_ret, List.map_cons, List.map_nil, List.length_cons, List.length_nil, rep_zero, rep_succ, List.cons_append, List.nil_append, List.getElem?_cons_zero, List.getElem?_cons_succ, List.set_cons_zero, List.set_cons_succ, Nat.sub_self, Nat.reduceAdd, Nat.reduceSub, Option.map_some, Option.bind_some, if_true, Bool.not_true, Bool.not_false, Bool.false_eq_true, if_false, decide_true, decide_false, Int.reduceBEq, Int.reduceEq, Int.reduceLT, Int.reduceLE, Int.reduceNeg, Int.reduceAdd, Int.reduceSub, Int.reduceMul, Int.reduceToNat, Nat.reduceLT, Nat.reduceLeDiff, beq_self_eq_true, reduceIte, eq_self, Int.reduceNe, Int.reduceBNe, not_true_eq_false, not_false_eq_true, true_and, and_true, true_or, or_true, false_or, or_false, and_false, false_and, decide_eq_true_eq, Bool.true_and, Bool.and_true, Bool.false_and, Bool.and_false, Bool.true_or, Bool.or_true, Bool.false_or, Bool.or_false, id]
  have e4 : setFD (s ++ [Mo.lst ((a.filter (· != x)).map .int)]) 0 0 (.obj i) (.obj s.length) = some ((s ++ [Mo.lst ((a.filter (· != x)).map .int)]).set i (.ins 0 [.obj s.length])) := setFD_obj (app_at h1) (by simp)
  unfold m_Taker_took b_Taker_took
  simp only [fnOf, ev_seq, ev_asg, sBnd_def, ev_op, ev_un, bnd_def, ev_call, evs_cons, evs_nil, ev_var, ev_c, ev_if, ev_next, ev_expr, ev_tru, ev_bl, ev_and, ev_or, ev_not, ev_yes, ev_andE, ev_orE, ev_notE, ev_ifE, ev_chain, ofB_some, ofO_some, ofO_none, truD_non, truD_bl, truD_int, truD_str, truD_tup, truD_lst, truD_lsk, ev_tup, ev_lst, ev_nwF, ev_nwM, ev_meth, ev_make, ev_fld, ev_setF, ev_bm1, asQ_tup, asQ_lst, asQ_lsk, asL_lst, asL_lsk, dLen_tup, dLen_lst, dLen_lsk, dLen_str, dIx_tup, dIx_lst, dIx_lsk, dIx_str, dAdd_int, dNeg_int, isN_def, notN_def, isNon_non, isNon_int, isNon_bl, isNon_str, isNon_tup, isNon_lst, isNon_obj, isNon_exc, dEq_int, dNe_int, dEq_str, dNe_str, dEq_bl, atI_zero, atI_one, atI_2, atI_3, atI_4, atI_5, atI_6, atI_7, atI_8, atI_9, atI_10, atI_11, atI_12, atI_m1, ev_gT, setAll_nil, setAll_cons, iOp_int, ev_gN, ev_ret, List.map_cons, List.map_nil, List.length_cons, List.length_nil, rep_zero, rep_succ, List.cons_append, List.nil_append, List.getElem?_cons_zero, List.getElem?_cons_succ, List.set_cons_zero, List.set_cons_succ, Nat.sub_self, Nat.reduceAdd, Nat.reduceSub, Option.map_some, Option.bind_some, if_true, Bool.not_true, Bool.not_false, Bool.false_eq_true, if_false, decide_true, decide_false, Int.reduceBEq, Int.reduceEq, Int.reduceLT, Int.reduceLE, Int.reduceNeg, Int.reduceAdd, Int.reduceSub, Int.reduceMul, Int.reduceToNat, Nat.reduceLT, Nat.reduceLeDiff, beq_self_eq_true, reduceIte, eq_self, Int.reduceNe, Int.reduceBNe, not_true_eq_false, not_false_eq_true, true_and, and_true, true_or, or_true, false_or, or_false, and_false, false_and, decide_eq_true_eq, Bool.true_and, Bool.and_true, Bool.false_and, Bool.and_false, Bool.true_or, Bool.or_true, Bool.false_or, Bool.or_false, eqFree, e1, e2, ev_lc, ev_iSeq, wipeD_nil, wipeD_cons, bndN, e3, e4]
theorem dIn_ints {s : Sto} {j : Nat} {a : List Int} {x : Int} (h2 : s[j]? = some (.lst (a.map .int))) : dIn (.int x) (.obj j) s = .ok (.bl (decide (x ∈ a))) s := by
  have hf : (a.map Dt.int).all flatD = true := by simp [flatD]
  have he : ((a.map Dt.int).any fun e => feq e (.int x)) = decide (x ∈ a) := by
    rw [List.any_map]
    rw [Bool.eq_iff_iff, List.any_eq_true]
    simp [feq]
  simp only [dIn, inB, asQ_obj h2, hf, he]
  rfl
theorem asI_self : ∀ a : List Int, asI (a.map .int) = some a
  | [] => rfl
  | b :: r => by simp [asI, asI_self r]
theorem dRem_ints {s : Sto} {j : Nat} {a : List Int} {x : Int} (h2 : s[j]? = some (.lst (a.map .int))) (h : x ∈ a) : dRem (.obj j) (.int x) s = .ok .non (s.set j (.lst ((a.erase x).map .int))) := by
  simp only [dRem, lstAt_obj h2, asI_self, if_pos h]
theorem took_say {s : Sto} {i j : Nat} {a : List Int} {nm bd kp ag : Dt} {g x : Int} (h1 : s[i]? = some (.ins 0 [.obj j])) (h2 : s[j]? = some (.lst (a.map .int))) (hz : a.length < 1000000) (hg : g = 0 ∨ g = 1 ∨ g = 2) :
    m_Taker_took [.obj i, .tup [.str (Str.ofString "say"), nm, bd, .int g, kp, ag, .int x]] s =
      if g = 0 then .ok (.tup [.lst [], .lst [.tup [nm, bd, .int g, kp]]]) s
      else if g = 1 then .ok (.tup [.lst [.tup [.str (Str.ofString "got"), .int x]], .lst [.tup [nm, bd, .int g, kp]]]) s
      else if x ∈ a then .ok (.tup [.lst [.tup [.str (Str.ofString "held"), .int x]], .lst []]) s
      else .ok (.tup [.lst [.tup [.str (Str.ofString "held"), .int x]], .lst [.tup [nm, bd, .int g, kp]]]) (s.set j (.lst ((a ++ [x]).map .int))) := by
  have e1 := insD_obj h1
  have e2 := isLst_obj h2
  have e3 := dApp_obj (y := .int x) h2 (by rw [List.length_map, sizeLine_eq]; omega)
  have e4 := dIn_ints (x := x) h2
  have c : cutD [Dt.str (Str.ofString "say"), nm, bd, .int g, kp, ag, .int x] (some 1) (some 5) = [nm, bd, .int g, kp] := rfl
  unfold m_Taker_took b_Taker_took
  rcases hg with rfl | rfl | rfl
  · simp only [fnOf, ev_seq, ev_asg, sBnd_def, ev_op, ev_un, bnd_def, ev_call, evs_cons, evs_nil, ev_var, ev_c, ev_if, ev_next, ev_expr, ev_tru, ev_bl, ev_and, ev_or, ev_not, ev_yes, ev_andE, ev_orE, ev_notE, ev_ifE, ev_chain, ofB_some, ofO_some, ofO_none, truD_non, truD_bl, truD_int, truD_str, truD_tup, truD_lst, truD_lsk, ev_tup, ev_lst, ev_nwF, ev_nwM, ev_meth, ev_make, ev_fld, ev_setF, ev_bm1, asQ_tup, asQ_lst, asQ_lsk, asL_lst, asL_lsk, dLen_tup, dLen_lst, dLen_lsk, dLen_str, dIx_tup, dIx_lst, dIx_lsk, dIx_str, dAdd_int, dNeg_int, isN_def, notN_def, isNon_non, isNon_int, isNon_bl, isNon_str, isNon_tup, isNon_lst, isNon_obj, isNon_exc, dEq_int, dNe_int, dEq_str, dNe_str, dEq_bl, atI_zero, atI_one, atI_2, atI_3, atI_4, atI_5, atI_6, atI_7, atI_8, atI_9, atI_10, atI_11, atI_12, atI_m1, ev_gT, setAll_nil, setAll_cons, iOp_int, ev_gN, ev_ret, List.map_cons, List.map_nil, List.length_cons, List.length_nil, rep_zero, rep_succ, List.cons_append, List.nil_append, List.getElem?_cons_zero, List.getElem?_cons_succ, List.set_cons_zero, List.set_cons_succ, Nat.sub_self, Nat.reduceAdd, Nat.reduceSub, Option.map_some, Option.bind_some, if_true, Bool.not_true, Bool.not_false, Bool.false_eq_true, if_false, decide_true, decide_false, Int.reduceBEq, Int.reduceEq, Int.reduceLT, Int.reduceLE, Int.reduceNeg, Int.reduceAdd, Int.reduceSub, Int.reduceMul, Int.reduceToNat, Nat.reduceLT, Nat.reduceLeDiff, beq_self_eq_true, reduceIte, eq_self, Int.reduceNe, Int.reduceBNe, not_true_eq_false, not_false_eq_true, true_and, and_true, true_or, or_true, false_or, or_false, and_false, false_and, decide_eq_true_eq, Bool.true_and, Bool.and_true, Bool.false_and, Bool.and_false, Bool.true_or, Bool.or_true, Bool.false_or, Bool.or_false, eqSay, ev_sl, evp_some, evp_none, dSl_tup, c]
  · simp only [fnOf, ev_seq, ev_asg, sBnd_def, ev_op, ev_un, bnd_def, ev_call, evs_cons, evs_nil, ev_var, ev_c, ev_if, ev_next, ev_expr, ev_tru, ev_bl, ev_and, ev_or, ev_not, ev_yes, ev_andE, ev_orE, ev_notE, ev_ifE, ev_chain, ofB_some, ofO_some, ofO_none, truD_non, truD_bl, truD_int, truD_str, truD_tup, truD_lst, truD_lsk, ev_tup, ev_lst, ev_nwF, ev_nwM, ev_meth, ev_make, ev_fld, ev_setF, ev_bm1, asQ_tup, asQ_lst, asQ_lsk, asL_lst, asL_lsk, dLen_tup, dLen_lst, dLen_lsk, dLen_str, dIx_tup, dIx_lst, dIx_lsk, dIx_str, dAdd_int, dNeg_int, isN_def, notN_def, isNon_non, isNon_int, isNon_bl, isNon_str, isNon_tup, isNon_lst, isNon_obj, isNon_exc, dEq_int, dNe_int, dEq_str, dNe_str, dEq_bl, atI_zero, atI_one, atI_2, atI_3, atI_4, atI_5, atI_6, atI_7, atI_8, atI_9, atI_10, atI_11, atI_12, atI_m1, ev_gT, setAll_nil, setAll_cons, iOp_int, ev_gN, ev_ret, List.map_cons, List.map_nil, List.length_cons, List.length_nil, rep_zero, rep_succ, List.cons_append, List.nil_append, List.getElem?_cons_zero, List.getElem?_cons_succ, List.set_cons_zero, List.set_cons_succ, Nat.sub_self, Nat.reduceAdd, Nat.reduceSub, Option.map_some, Option.bind_some, if_true, Bool.not_true, Bool.not_false, Bool.false_eq_true, if_false, decide_true, decide_false, Int.reduceBEq, Int.reduceEq, Int.reduceLT, Int.reduceLE, Int.reduceNeg, Int.reduceAdd, Int.reduceSub, Int.reduceMul, Int.reduceToNat, Nat.reduceLT, Nat.reduceLeDiff, beq_self_eq_true, reduceIte, eq_self, Int.reduceNe, Int.reduceBNe, not_true_eq_false, not_false_eq_true, true_and, and_true, true_or, or_true, false_or, or_false, and_false, false_and, decide_eq_true_eq, Bool.true_and, Bool.and_true, Bool.false_and, Bool.and_false, Bool.true_or, Bool.or_true, Bool.false_or, Bool.or_false, eqSay, ev_sl, evp_some, evp_none, dSl_tup, c]
  · by_cases hx : x ∈ a
    · simp only [fnOf, ev_seq, ev_asg, sBnd_def, ev_op, ev_un, bnd_def, ev_call, evs_cons, evs_nil, ev_var, ev_c, ev_if, ev_next, ev_expr, ev_tru, ev_bl, ev_and, ev_or, ev_not, ev_yes, ev_andE, ev_orE, ev_notE, ev_ifE, ev_chain, ofB_some, ofO_some, ofO_none, truD_non, truD_bl, truD_int, truD_str, truD_tup, truD_lst, truD_lsk, ev_tup, ev_lst, ev_nwF, ev_nwM, ev_meth, ev_make, ev_fld, ev_setF, ev_bm1, asQ_tup, asQ_lst, asQ_lsk, asL_lst, asL_lsk, dLen_tup, dLen_lst, dLen_lsk, dLen_str, dIx_tup, dIx_lst, dIx_lsk, dIx_str, dAdd_int, dNeg_int, isN_def, notN_def, isNon_non, isNon_int, isNon_bl, isNon_str, isNon_tup, isNon_lst, isNon_obj, isNon_exc, dEq_int, dNe_int, dEq_str, dNe_str, dEq_bl, atI_zero, atI_one, atI_2, atI_3, atI_4, atI_5, atI_6, atI_7, atI_8, atI_9, atI_10, atI_11, atI_12, atI_m1, ev_gT, setAll_nil, setAll_cons, iOp_int, ev_gN, ev_ret, List.map_cons, List.map_nil, List.length_cons, List.length_nil, rep_zero, rep_succ, List.cons_append, List.nil_append, List.getElem?_cons_zero, List.getElem?_cons_succ, List.set_cons_zero, List.set_cons_succ, Nat.sub_self, Nat.reduceAdd, Nat.reduceSub, Option.map_some, Option.bind_some, if_true, Bool.not_true, Bool.not_false, Bool.false_eq_true, if_false, decide_true, decide_false, Int.reduceBEq, Int.reduceEq, Int.reduceLT, Int.reduceLE, Int.reduceNeg, Int.reduceAdd, Int.reduceSub, Int.reduceMul, Int.reduceToNat, Nat.reduceLT, Nat.reduceLeDiff, beq_self_eq_true, reduceIte, eq_self, Int.reduceNe, Int.reduceBNe, not_true_eq_false, not_false_eq_true, true_and, and_true, true_or, or_true, false_or, or_false, and_false, false_and, decide_eq_true_eq, Bool.true_and, Bool.and_true, Bool.false_and, Bool.and_false, Bool.true_or, Bool.or_true, Bool.false_or, Bool.or_false, eqSay, ev_sl, evp_some, evp_none, dSl_tup, c, e1, e4, hx]
    · simp only [fnOf, ev_seq, ev_asg, sBnd_def, ev_op, ev_un, bnd_def, ev_call, evs_cons, evs_nil, ev_var, ev_c, ev_if, ev_next, ev_expr, ev_tru, ev_bl, ev_and, ev_or, ev_not, ev_yes, ev_andE, ev_orE, ev_notE, ev_ifE, ev_chain, ofB_some, ofO_some, ofO_none, truD_non, truD_bl, truD_int, truD_str, truD_tup, truD_lst, truD_lsk, ev_tup, ev_lst, ev_nwF, ev_nwM, ev_meth, ev_make, ev_fld, ev_setF, ev_bm1, asQ_tup, asQ_lst, asQ_lsk, asL_lst, asL_lsk, dLen_tup, dLen_lst, dLen_lsk, dLen_str, dIx_tup, dIx_lst, dIx_lsk, dIx_str, dAdd_int, dNeg_int, isN_def, notN_def, isNon_non, isNon_int, isNon_bl, isNon_str, isNon_tup, isNon_lst, isNon_obj, isNon_exc, dEq_int, dNe_int, dEq_str, dNe_str, dEq_bl, atI_zero, atI_one, atI_2, atI_3, atI_4, atI_5, atI_6, atI_7, atI_8, atI_9, atI_10, atI_11, atI_12, atI_m1, ev_gT, setAll_nil, setAll_cons, iOp_int, ev_gN, ev_ret, List.map_cons, List.map_nil, List.length_cons, List.length_nil, rep_zero, rep_succ, List.cons_append, List.nil_append, List.getElem?_cons_zero, List.getElem?_cons_succ, List.set_cons_zero, List.set_cons_succ, Nat.sub_self, Nat.reduceAdd, Nat.reduceSub, Option.map_some, Option.bind_some, if_true, Bool.not_true, Bool.not_false, Bool.false_eq_true, if_false, decide_true, decide_false, Int.reduceBEq, Int.reduceEq, Int.reduceLT, Int.reduceLE, Int.reduceNeg, Int.reduceAdd, Int.reduceSub, Int.reduceMul, Int.reduceToNat, Nat.reduceLT, Nat.reduceLeDiff, beq_self_eq_true, reduceIte, eq_self, Int.reduceNe, Int.reduceBNe, not_true_eq_false, not_false_eq_true, true_and, and_true, true_or, or_true, false_or, or_false, and_false, false_and, decide_eq_true_eq, Bool.true_and, Bool.and_true, Bool.false_and, Bool.and_false, Bool.true_or, Bool.or_true, Bool.false_or, Bool.or_false, eqSay, ev_sl, evp_some, evp_none, dSl_tup, c, e1, e2, e3, e4, hx]
      simp
theorem due_free {s : Sto} {k : Nat} {a : List Int} {x : Int} (h2 : s[k]? = some (.lst (a.map .int))) :
    m_law_due [.tup [.str (Str.ofString "free"), .int x], .obj k] s = .ok (.tup [.lst [.tup [.str (Str.ofString "done"), .int x]], .lst []]) (if x ∈ a then s.set k (.lst ((a.erase x).map .int)) else s) := by
  have e1 := isLst_obj h2
  have e4 := dIn_ints (x := x) h2
  have e5 : [Dt.str (Str.ofString "free"), .int x].getLast? = some (.int x) := rfl
  unfold m_law_due b_law_due
  by_cases hx : x ∈ a
  · have e3 := dRem_ints h2 hx
    simp only [fnOf, ev_seq, ev_asg, sBnd_def, ev_op, ev_un, bnd_def, ev_call, evs_cons, evs_nil, ev_var, ev_c, ev_if, ev_next, ev_expr, ev_tru, ev_bl, ev_and, ev_or, ev_not, ev_yes, ev_andE, ev_orE, ev_notE, ev_ifE, ev_chain, ofB_some, ofO_some, ofO_none, truD_non, truD_bl, truD_int, truD_str, truD_tup, truD_lst, truD_lsk, ev_tup, ev_lst, ev_nwF, ev_nwM, ev_meth, ev_make, ev_fld, ev_setF, ev_bm1, asQ_tup, asQ_lst, asQ_lsk, asL_lst, asL_lsk, dLen_tup, dLen_lst, dLen_lsk, dLen_str, dIx_tup, dIx_lst, dIx_lsk, dIx_str, dAdd_int, dNeg_int, isN_def, notN_def, isNon_non, isNon_int, isNon_bl, isNon_str, isNon_tup, isNon_lst, isNon_obj, isNon_exc, dEq_int, dNe_int, dEq_str, dNe_str, dEq_bl, atI_zero, atI_one, atI_2, atI_3, atI_4, atI_5, atI_6, atI_7, atI_8, atI_9, atI_10, atI_11, atI_12, atI_m1, ev_gT, setAll_nil, setAll_cons, iOp_int, ev_gN, ev_ret, List.map_cons, List.map_nil, List.length_cons, List.length_nil, rep_zero, rep_succ, List.cons_append, List.nil_append, List.getElem?_cons_zero, List.getElem?_cons_succ, List.set_cons_zero, List.set_cons_succ, Nat.sub_self, Nat.reduceAdd, Nat.reduceSub, Option.map_some, Option.bind_some, if_true, Bool.not_true, Bool.not_false, Bool.false_eq_true, if_false, decide_true, decide_false, Int.reduceBEq, Int.reduceEq, Int.reduceLT, Int.reduceLE, Int.reduceNeg, Int.reduceAdd, Int.reduceSub, Int.reduceMul, Int.reduceToNat, Nat.reduceLT, Nat.reduceLeDiff, beq_self_eq_true, reduceIte, eq_self, Int.reduceNe, Int.reduceBNe, not_true_eq_false, not_false_eq_true, true_and, and_true, true_or, or_true, false_or, or_false, and_false, false_and, decide_eq_true_eq, Bool.true_and, Bool.and_true, Bool.false_and, Bool.and_false, Bool.true_or, Bool.or_true, Bool.false_or, Bool.or_false, eqFree, e1, e4, e3, hx, e5]
  · simp only [fnOf, ev_seq, ev_asg, sBnd_def, ev_op, ev_un, bnd_def, ev_call, evs_cons, evs_nil, ev_var, ev_c, ev_if, ev_next, ev_expr, ev_tru, ev_bl, ev_and, ev_or, ev_not, ev_yes, ev_andE, ev_orE, ev_notE, ev_ifE, ev_chain, ofB_some, ofO_some, ofO_none, truD_non, truD_bl, truD_int, truD_str, truD_tup, truD_lst, truD_lsk, ev_tup, ev_lst, ev_nwF, ev_nwM, ev_meth, ev_make, ev_fld, ev_setF, ev_bm1, asQ_tup, asQ_lst, asQ_lsk, asL_lst, asL_lsk, dLen_tup, dLen_lst, dLen_lsk, dLen_str, dIx_tup, dIx_lst, dIx_lsk, dIx_str, dAdd_int, dNeg_int, isN_def, notN_def, isNon_non, isNon_int, isNon_bl, isNon_str, isNon_tup, isNon_lst, isNon_obj, isNon_exc, dEq_int, dNe_int, dEq_str, dNe_str, dEq_bl, atI_zero, atI_one, atI_2, atI_3, atI_4, atI_5, atI_6, atI_7, atI_8, atI_9, atI_10, atI_11, atI_12, atI_m1, ev_gT, setAll_nil, setAll_cons, iOp_int, ev_gN, ev_ret, List.map_cons, List.map_nil, List.length_cons, List.length_nil, rep_zero, rep_succ, List.cons_append, List.nil_append, List.getElem?_cons_zero, List.getElem?_cons_succ, List.set_cons_zero, List.set_cons_succ, Nat.sub_self, Nat.reduceAdd, Nat.reduceSub, Option.map_some, Option.bind_some, if_true, Bool.not_true, Bool.not_false, Bool.false_eq_true, if_false, decide_true, decide_false, Int.reduceBEq, Int.reduceEq, Int.reduceLT, Int.reduceLE, Int.reduceNeg, Int.reduceAdd, Int.reduceSub, Int.reduceMul, Int.reduceToNat, Nat.reduceLT, Nat.reduceLeDiff, beq_self_eq_true, reduceIte, eq_self, Int.reduceNe, Int.reduceBNe, not_true_eq_false, not_false_eq_true, true_and, and_true, true_or, or_true, false_or, or_false, and_false, false_and, decide_eq_true_eq, Bool.true_and, Bool.and_true, Bool.false_and, Bool.and_false, Bool.true_or, Bool.or_true, Bool.false_or, Bool.or_false, eqFree, e1, e4, hx, e5]
theorem due_say {s : Sto} {k : Nat} {a : List Int} {nm bd kp ag : Dt} {g x : Int} (h2 : s[k]? = some (.lst (a.map .int))) (hz : a.length < 1000000) (hg : g = 0 ∨ g = 1 ∨ g = 2) :
    m_law_due [.tup [.str (Str.ofString "say"), nm, bd, .int g, kp, ag, .int x], .obj k] s =
      if g = 0 then .ok (.tup [.lst [], .lst [.tup [nm, bd, .int g, kp]]]) s
      else if g = 1 then .ok (.tup [.lst [.tup [.str (Str.ofString "got"), .int x]], .lst [.tup [nm, bd, .int g, kp]]]) s
      else if x ∈ a then .ok (.tup [.lst [.tup [.str (Str.ofString "held"), .int x]], .lst []]) s
      else .ok (.tup [.lst [.tup [.str (Str.ofString "held"), .int x]], .lst [.tup [nm, bd, .int g, kp]]]) (s.set k (.lst ((a ++ [x]).map .int))) := by
  have e2 := isLst_obj h2
  have e3 := dApp_obj (y := .int x) h2 (by rw [List.length_map, sizeLine_eq]; omega)
  have e4 := dIn_ints (x := x) h2
  have e5 : [Dt.str (Str.ofString "say"), nm, bd, .int g, kp, ag, .int x].getLast? = some (.int x) := rfl
  unfold m_law_due b_law_due
  rcases hg with rfl | rfl | rfl
  · simp only [fnOf, ev_seq, ev_asg, sBnd_def, ev_op, ev_un, bnd_def, ev_call, evs_cons, evs_nil, ev_var, ev_c, ev_if, ev_next, ev_expr, ev_tru, ev_bl, ev_and, ev_or, ev_not, ev_yes, ev_andE, ev_orE, ev_notE, ev_ifE, ev_chain, ofB_some, ofO_some, ofO_none, truD_non, truD_bl, truD_int, truD_str, truD_tup, truD_lst, truD_lsk, ev_tup, ev_lst, ev_nwF, ev_nwM, ev_meth, ev_make, ev_fld, ev_setF, ev_bm1, asQ_tup, asQ_lst, asQ_lsk, asL_lst, asL_lsk, dLen_tup, dLen_lst, dLen_lsk, dLen_str, dIx_tup, dIx_lst, dIx_lsk, dIx_str, dAdd_int, dNeg_int, isN_def, notN_def, isNon_non, isNon_int, isNon_bl, isNon_str, isNon_tup, isNon_lst, isNon_obj, isNon_exc, dEq_int, dNe_int, dEq_str, dNe_str, dEq_bl, atI_zero, atI_one, atI_2, atI_3, atI_4, atI_5, atI_6, atI_7, atI_8, atI_9, atI_10, atI_11, atI_12, atI_m1, ev_gT, setAll_nil, setAll_cons, iOp_int, ev_gN, ev_ret, List.map_cons, List.map_nil, List.length_cons, List.length_nil, rep_zero, rep_succ, List.cons_append, List.nil_append, List.getElem?_cons_zero, List.getElem?_cons_succ, List.set_cons_zero, List.set_cons_succ, Nat.sub_self, Nat.reduceAdd, Nat.reduceSub, Option.map_some, Option.bind_some, if_true, Bool.not_true, Bool.not_false, Bool.false_eq_true, if_false, decide_true, decide_false, Int.reduceBEq, Int.reduceEq, Int.reduceLT, Int.reduceLE, Int.reduceNeg, Int.reduceAdd, Int.reduceSub, Int.reduceMul, Int.reduceToNat, Nat.reduceLT, Nat.reduceLeDiff, beq_self_eq_true, reduceIte, eq_self, Int.reduceNe, Int.reduceBNe, not_true_eq_false, not_false_eq_true, true_and, and_true, true_or, or_true, false_or, or_false, and_false, false_and, decide_eq_true_eq, Bool.true_and, Bool.and_true, Bool.false_and, Bool.and_false, Bool.true_or, Bool.or_true, Bool.false_or, Bool.or_false, eqSay, e5]
  · simp only [fnOf, ev_seq, ev_asg, sBnd_def, ev_op, ev_un, bnd_def, ev_call, evs_cons, evs_nil, ev_var, ev_c, ev_if, ev_next, ev_expr, ev_tru, ev_bl, ev_and, ev_or, ev_not, ev_yes, ev_andE, ev_orE, ev_notE, ev_ifE, ev_chain, ofB_some, ofO_some, ofO_none, truD_non, truD_bl, truD_int, truD_str, truD_tup, truD_lst, truD_lsk, ev_tup, ev_lst, ev_nwF, ev_nwM, ev_meth, ev_make, ev_fld, ev_setF, ev_bm1, asQ_tup, asQ_lst, asQ_lsk, asL_lst, asL_lsk, dLen_tup, dLen_lst, dLen_lsk, dLen_str, dIx_tup, dIx_lst, dIx_lsk, dIx_str, dAdd_int, dNeg_int, isN_def, notN_def, isNon_non, isNon_int, isNon_bl, isNon_str, isNon_tup, isNon_lst, isNon_obj, isNon_exc, dEq_int, dNe_int, dEq_str, dNe_str, dEq_bl, atI_zero, atI_one, atI_2, atI_3, atI_4, atI_5, atI_6, atI_7, atI_8, atI_9, atI_10, atI_11, atI_12, atI_m1, ev_gT, setAll_nil, setAll_cons, iOp_int, ev_gN, ev_ret, List.map_cons, List.map_nil, List.length_cons, List.length_nil, rep_zero, rep_succ, List.cons_append, List.nil_append, List.getElem?_cons_zero, List.getElem?_cons_succ, List.set_cons_zero, List.set_cons_succ, Nat.sub_self, Nat.reduceAdd, Nat.reduceSub, Option.map_some, Option.bind_some, if_true, Bool.not_true, Bool.not_false, Bool.false_eq_true, if_false, decide_true, decide_false, Int.reduceBEq, Int.reduceEq, Int.reduceLT, Int.reduceLE, Int.reduceNeg, Int.reduceAdd, Int.reduceSub, Int.reduceMul, Int.reduceToNat, Nat.reduceLT, Nat.reduceLeDiff, beq_self_eq_true, reduceIte, eq_self, Int.reduceNe, Int.reduceBNe, not_true_eq_false, not_false_eq_true, true_and, and_true, true_or, or_true, false_or, or_false, and_false, false_and, decide_eq_true_eq, Bool.true_and, Bool.and_true, Bool.false_and, Bool.and_false, Bool.true_or, Bool.or_true, Bool.false_or, Bool.or_false, eqSay, e5]
  · by_cases hx : x ∈ a
    · simp only [fnOf, ev_seq, ev_asg, sBnd_def, ev_op, ev_un, bnd_def, ev_call, evs_cons, evs_nil, ev_var, ev_c, ev_if, ev_next, ev_expr, ev_tru, ev_bl, ev_and, ev_or, ev_not, ev_yes, ev_andE, ev_orE, ev_notE, ev_ifE, ev_chain, ofB_some, ofO_some, ofO_none, truD_non, truD_bl, truD_int, truD_str, truD_tup, truD_lst, truD_lsk, ev_tup, ev_lst, ev_nwF, ev_nwM, ev_meth, ev_make, ev_fld, ev_setF, ev_bm1, asQ_tup, asQ_lst, asQ_lsk, asL_lst, asL_lsk, dLen_tup, dLen_lst, dLen_lsk, dLen_str, dIx_tup, dIx_lst, dIx_lsk, dIx_str, dAdd_int, dNeg_int, isN_def, notN_def, isNon_non, isNon_int, isNon_bl, isNon_str, isNon_tup, isNon_lst, isNon_obj, isNon_exc, dEq_int, dNe_int, dEq_str, dNe_str, dEq_bl, atI_zero, atI_one, atI_2, atI_3, atI_4, atI_5, atI_6, atI_7, atI_8, atI_9, atI_10, atI_11, atI_12, atI_m1, ev_gT, setAll_nil, setAll_cons, iOp_int, ev_gN, ev_ret, List.map_cons, List.map_nil, List.length_cons, List.length_nil, rep_zero, rep_succ, List.cons_append, List.nil_append, List.getElem?_cons_zero, List.getElem?_cons_succ, List.set_cons_zero, List.set_cons_succ, Nat.sub_self, Nat.reduceAdd, Nat.reduceSub, Option.map_some, Option.bind_some, if_true, Bool.not_true, Bool.not_false, Bool.false_eq_true, if_false, decide_true, decide_false, Int.reduceBEq, Int.reduceEq, Int.reduceLT, Int.reduceLE, Int.reduceNeg, Int.reduceAdd, Int.reduceSub, Int.reduceMul, Int.reduceToNat, Nat.reduceLT, Nat.reduceLeDiff, beq_self_eq_true, reduceIte, eq_self, Int.reduceNe, Int.reduceBNe, not_true_eq_false, not_false_eq_true, true_and, and_true, true_or, or_true, false_or, or_false, and_false, false_and, decide_eq_true_eq, Bool.true_and, Bool.and_true, Bool.false_and, Bool.and_false, Bool.true_or, Bool.or_true, Bool.false_or, Bool.or_false, eqSay, e5, e2, e4, hx]
    · simp only [fnOf, ev_seq, ev_asg, sBnd_def, ev_op, ev_un, bnd_def, ev_call, evs_cons, evs_nil, ev_var, ev_c, ev_if, ev_next, ev_expr, ev_tru, ev_bl, ev_and, ev_or, ev_not, ev_yes, ev_andE, ev_orE, ev_notE, ev_ifE, ev_chain, ofB_some, ofO_some, ofO_none, truD_non, truD_bl, truD_int, truD_str, truD_tup, truD_lst, truD_lsk, ev_tup, ev_lst, ev_nwF, ev_nwM, ev_meth, ev_make, ev_fld, ev_setF, ev_bm1, asQ_tup, asQ_lst, asQ_lsk, asL_lst, asL_lsk, dLen_tup, dLen_lst, dLen_lsk, dLen_str, dIx_tup, dIx_lst, dIx_lsk, dIx_str, dAdd_int, dNeg_int, isN_def, notN_def, isNon_non, isNon_int, isNon_bl, isNon_str, isNon_tup, isNon_lst, isNon_obj, isNon_exc, dEq_int, dNe_int, dEq_str, dNe_str, dEq_bl, atI_zero, atI_one, atI_2, atI_3, atI_4, atI_5, atI_6, atI_7, atI_8, atI_9, atI_10, atI_11, atI_12, atI_m1, ev_gT, setAll_nil, setAll_cons, iOp_int, ev_gN, ev_ret, List.map_cons, List.map_nil, List.length_cons, List.length_nil, rep_zero, rep_succ, List.cons_append, List.nil_append, List.getElem?_cons_zero, List.getElem?_cons_succ, List.set_cons_zero, List.set_cons_succ, Nat.sub_self, Nat.reduceAdd, Nat.reduceSub, Option.map_some, Option.bind_some, if_true, Bool.not_true, Bool.not_false, Bool.false_eq_true, if_false, decide_true, decide_false, Int.reduceBEq, Int.reduceEq, Int.reduceLT, Int.reduceLE, Int.reduceNeg, Int.reduceAdd, Int.reduceSub, Int.reduceMul, Int.reduceToNat, Nat.reduceLT, Nat.reduceLeDiff, beq_self_eq_true, reduceIte, eq_self, Int.reduceNe, Int.reduceBNe, not_true_eq_false, not_false_eq_true, true_and, and_true, true_or, or_true, false_or, or_false, and_false, false_and, decide_eq_true_eq, Bool.true_and, Bool.and_true, Bool.false_and, Bool.and_false, Bool.true_or, Bool.or_true, Bool.false_or, Bool.or_false, eqSay, e5, e2, e3, e4, hx]
      simp
/-! ### both side by side -/
/-- a taker at i with its list at j, and the law's own list at k, hold the same ids -/
structure Pr (s : Sto) (i j k : Nat) (a : List Int) : Prop where
  ti : s[i]? = some (.ins 0 [.obj j])
  tj : s[j]? = some (.lst (a.map .int))
  tk : s[k]? = some (.lst (a.map .int))
  ij : i ≠ j
  ik : i ≠ k
  jk : j ≠ k
  nd : a.Nodup
theorem nodup_filter {a : List Int} (x : Int) (h : a.Nodup) : a.filter (· != x) = a.erase x := by
  rw [List.Nodup.erase_eq_filter h]
theorem set_at {s : Sto} {i j : Nat} {m o : Mo} (h : s[j]? = some o) (n : i ≠ j) : (s.set i m)[j]? = some o := by rw [List.getElem?_set_ne n]; exact h
theorem set_self {s : Sto} {i : Nat} {m o : Mo} (h : s[i]? = some o) : (s.set i m)[i]? = some m := by rw [List.getElem?_set_self (List.getElem?_eq_some_iff.mp h).1]
/-- what a turn leaves alone -/
def Kept (s s' : Sto) (xs : List Nat) : Prop := s.length ≤ s'.length ∧ ∀ m o, s[m]? = some o → m ∉ xs → s'[m]? = some o
theorem both_free {s : Sto} {i j k : Nat} {a : List Int} {x : Int} (P : Pr s i j k a) : ∃ d s1 s2 j' a', m_Taker_took [.obj i, .tup [.str (Str.ofString "free"), .int x]] s = .ok d s1 ∧ m_law_due [.tup [.str (Str.ofString "free"), .int x], .obj k] s1 = .ok d s2 ∧
    (∃ l, d = .tup l) ∧ (∃ n, dpt d = some n ∧ n ≤ 64) ∧ Pr s2 i j' k a' ∧ (j' = j ∨ s.length ≤ j') ∧ Kept s s2 [i, j, k] ∧ a'.length ≤ a.length + 1 := by
  have hj : j < s.length := (List.getElem?_eq_some_iff.mp P.tj).1
  have hi : i < s.length := (List.getElem?_eq_some_iff.mp P.ti).1
  have hk : k < s.length := (List.getElem?_eq_some_iff.mp P.tk).1
  have h1 := took_free (x := x) P.ti P.tj
  have ek : ((s ++ [Mo.lst ((a.filter (· != x)).map .int)]).set i (.ins 0 [.obj s.length]))[k]? = some (.lst (a.map .int)) := set_at (app_at P.tk) P.ik
  have h2 := due_free (x := x) ek
  have kept1 : Kept s ((s ++ [Mo.lst ((a.filter (· != x)).map .int)]).set i (.ins 0 [.obj s.length])) [i, j, k] := by
    refine ⟨by rw [List.length_set, List.length_append]; omega, fun m o h n => set_at (app_at h) fun z => n ?_⟩
    rw [z]; simp
  by_cases hx : x ∈ a
  · rw [if_pos hx] at h2
    refine ⟨_, _, _, s.length, a.erase x, h1, h2, ⟨_, rfl⟩, ⟨3, rfl, by decide⟩, ⟨?_, ?_, set_self ek, by omega, P.ik, by omega, P.nd.erase x⟩, .inr (Nat.le_refl _), ?_, ?_⟩
    · exact set_at (set_self (app_at P.ti)) (Ne.symm P.ik)
    · rw [← nodup_filter x P.nd]
      exact set_at (set_at app_last (by omega)) (by omega)
    · exact ⟨by rw [List.length_set]; exact kept1.1, fun m o h n => set_at (kept1.2 m o h n) fun z => n (by rw [← z]; simp)⟩
    · exact Nat.le_succ_of_le List.length_erase_le
  · rw [if_neg hx] at h2
    have ef : a.filter (· != x) = a := by rw [nodup_filter x P.nd, List.erase_of_not_mem hx]
    refine ⟨_, _, _, s.length, a, h1, h2, ⟨_, rfl⟩, ⟨3, rfl, by decide⟩, ⟨?_, ?_, ek, by omega, P.ik, by omega, P.nd⟩, .inr (Nat.le_refl _), kept1, Nat.le_succ _⟩
    · exact set_self (app_at P.ti)
    · have := app_last (s := s) (m := Mo.lst ((a.filter (· != x)).map .int))
      rw [ef] at this ⊢
      exact set_at this (by omega)
theorem both_say {s : Sto} {i j k : Nat} {a : List Int} {nm bd : Str} {kp ag : Bool} {g x : Int} (P : Pr s i j k a) (hz : a.length < 1000000) (hg : g = 0 ∨ g = 1 ∨ g = 2) : ∃ d s1 s2 j' a', m_Taker_took [.obj i, .tup [.str (Str.ofString "say"), .str nm, .str bd, .int g, .bl kp, .bl ag, .int x]] s = .ok d s1 ∧ m_law_due [.tup [.str (Str.ofString "say"), .str nm, .str bd, .int g, .bl kp, .bl ag, .int x], .obj k] s1 = .ok d s2 ∧
    (∃ l, d = .tup l) ∧ (∃ n, dpt d = some n ∧ n ≤ 64) ∧ Pr s2 i j' k a' ∧ (j' = j ∨ s.length ≤ j') ∧ Kept s s2 [i, j, k] ∧ a'.length ≤ a.length + 1 := by
  have h1 := took_say (nm := .str nm) (bd := .str bd) (kp := .bl kp) (ag := .bl ag) (g := g) (x := x) P.ti P.tj hz hg
  have h2 := due_say (nm := .str nm) (bd := .str bd) (kp := .bl kp) (ag := .bl ag) (g := g) (x := x) P.tk hz hg
  have kr : Kept s s [i, j, k] := ⟨Nat.le_refl _, fun m o h _ => h⟩
  rcases hg with rfl | rfl | rfl
  · exact ⟨_, s, s, j, a, h1, h2, ⟨_, rfl⟩, ⟨3, rfl, by decide⟩, P, .inl rfl, kr, Nat.le_succ _⟩
  · exact ⟨_, s, s, j, a, h1, h2, ⟨_, rfl⟩, ⟨3, rfl, by decide⟩, P, .inl rfl, kr, Nat.le_succ _⟩
  · by_cases hx : x ∈ a
    · rw [if_pos hx] at h1 h2
      exact ⟨_, s, s, j, a, h1, h2, ⟨_, rfl⟩, ⟨3, rfl, by decide⟩, P, .inl rfl, kr, Nat.le_succ _⟩
    · rw [if_neg hx] at h1
      have h2 := due_say (nm := .str nm) (bd := .str bd) (kp := .bl kp) (ag := .bl ag) (g := 2) (x := x) (s := s.set j (.lst ((a ++ [x]).map .int))) (set_at P.tk P.jk) hz (.inr (.inr rfl))
      rw [if_neg hx] at h2
      refine ⟨_, _, _, j, a ++ [x], h1, h2, ⟨_, rfl⟩, ⟨3, rfl, by decide⟩, ⟨?_, ?_, ?_, P.ij, P.ik, P.jk, ?_⟩, .inl rfl, ?_, by simp⟩
      · exact set_at (set_at P.ti (Ne.symm P.ij)) (Ne.symm P.ik)
      · exact set_at (set_self P.tj) (Ne.symm P.jk)
      · exact set_self (set_at P.tk P.jk)
      · rw [List.nodup_append]
        exact ⟨P.nd, by simp, fun b hb c hc e => hx (by rw [List.mem_singleton] at hc; rw [← hc, ← e]; exact hb)⟩
      · refine ⟨by rw [List.length_set, List.length_set]; exact Nat.le_refl _, fun m o h n => set_at (set_at h fun z => n (by rw [z]; simp)) fun z => n (by rw [z]; simp)⟩
/-! ### the law -/
structure St31 (s : Sto) (n k : Nat) : Prop where
  hn : s[0]? = some (zs n)
  le : n ≤ 8 * k + 1
  pr : ∃ j0 j1 a b, Pr s 1 j0 5 a ∧ Pr s 3 j1 6 b ∧ j0 ≠ 0 ∧ j0 ≠ 3 ∧ j0 ≠ 6 ∧ j1 ≠ 0 ∧ j1 ≠ 1 ∧ j1 ≠ 5 ∧ j0 ≠ j1 ∧ a.length ≤ k ∧ b.length ≤ k
theorem Pr.keep {s s' : Sto} {i j k : Nat} {a : List Int} {xs : List Nat} (P : Pr s i j k a) (h : Kept s s' xs) (hi : i ∉ xs) (hj : j ∉ xs) (hk : k ∉ xs) : Pr s' i j k a :=
  ⟨h.2 _ _ P.ti hi, h.2 _ _ P.tj hj, h.2 _ _ P.tk hk, P.ij, P.ik, P.jk, P.nd⟩
theorem kept_tw (s : Sto) (n : Nat) : Kept s (tw s n) [0] := ⟨by rw [tw_len]; exact Nat.le_refl _, fun m o h x => by rw [tw_at (by simpa using x)]; exact h⟩
/-- a packet as the law makes it -/
def isPk (p : Dt) : Prop := (∃ x : Int, p = .tup [.str (Str.ofString "free"), .int x]) ∨ ∃ (nm bd : Str) (g : Int) (kp ag : Bool) (x : Int), p = .tup [.str (Str.ofString "say"), .str nm, .str bd, .int g, .bl kp, .bl ag, .int x] ∧ (g = 0 ∨ g = 1 ∨ g = 2)
theorem both_pk {s : Sto} {i j k : Nat} {a : List Int} {p : Dt} (P : Pr s i j k a) (hz : a.length < 1000000) (hp : isPk p) : ∃ d s1 s2 j' a', m_Taker_took [.obj i, p] s = .ok d s1 ∧ m_law_due [p, .obj k] s1 = .ok d s2 ∧
    (∃ l, d = .tup l) ∧ (∃ n, dpt d = some n ∧ n ≤ 64) ∧ Pr s2 i j' k a' ∧ (j' = j ∨ s.length ≤ j') ∧ Kept s s2 [i, j, k] ∧ a'.length ≤ a.length + 1 := by
  rcases hp with ⟨x, rfl⟩ | ⟨nm, bd, g, kp, ag, x, rfl, hg⟩
  · exact both_free P
  · exact both_say P hz hg
/-- the deed at one of the two, whatever the draws before -/
theorem deed {s : Sto} {n m k : Nat} {p : Dt} (S : St31 s n k) (hk : k < 41) (hp : isPk p) (hm : m ≤ 8 * (k + 1) + 1) (at_ : Int) (ha : at_ = 0 ∨ at_ = 1) : ∃ i q d s1 s2, atI [Dt.obj 1, Dt.obj 3] at_ = some (.obj i) ∧ atI [Dt.obj 5, Dt.obj 6] at_ = some (.obj q) ∧ (∃ f, insD (tw s m) 0 (.obj i) = some f) ∧
    m_Taker_took [.obj i, p] (tw s m) = .ok d s1 ∧ m_law_due [p, .obj q] s1 = .ok d s2 ∧ (∃ l, d = .tup l) ∧ (∃ n, dpt d = some n ∧ n ≤ 64) ∧ St31 s2 m (k + 1) := by
  obtain ⟨j0, j1, a, b, P, R, h1, h2, h3, h4, h5, h6, h7, h8, h9⟩ := S.pr
  have z : 0 < s.length := (List.getElem?_eq_some_iff.mp S.hn).1
  have P' := P.keep (kept_tw s m) (by decide) (by simpa using h1) (by decide)
  have R' := R.keep (kept_tw s m) (by decide) (by simpa using h4) (by decide)
  have l0 : j0 < s.length := (List.getElem?_eq_some_iff.mp P.tj).1
  have l1 : j1 < s.length := (List.getElem?_eq_some_iff.mp R.tj).1
  have l6 : 6 < s.length := (List.getElem?_eq_some_iff.mp R.tk).1
  rcases ha with rfl | rfl
  · obtain ⟨d, s1, s2, j', a', e1, e2, e3, e4, e5, e6, e7, e8⟩ := both_pk P' (by omega) hp
    refine ⟨1, 5, d, s1, s2, rfl, rfl, ⟨_, insD_obj P'.ti⟩, e1, e2, e3, e4, ⟨e7.2 _ _ (tw_zero z) (by simp; omega), hm, ⟨j', j1, a', b, e5, R'.keep e7 (by simp; omega) (by simp; omega) (by simp; omega), ?_⟩⟩⟩
    rw [tw_len] at e6
    refine ⟨?_, ?_, ?_, h4, h5, h6, ?_, by omega, by omega⟩ <;> omega
  · obtain ⟨d, s1, s2, j', a', e1, e2, e3, e4, e5, e6, e7, e8⟩ := both_pk R' (by omega) hp
    refine ⟨3, 6, d, s1, s2, rfl, rfl, ⟨_, insD_obj R'.ti⟩, e1, e2, e3, e4, ⟨e7.2 _ _ (tw_zero z) (by simp; omega), hm, ⟨j0, j', a, a', P'.keep e7 (by simp; omega) (by simp; omega) (by simp; omega), e5, ?_⟩⟩⟩
    rw [tw_len] at e6
    refine ⟨h1, h2, h3, ?_, ?_, ?_, ?_, by omega, by omega⟩ <;> omega
/-- one turn -/
theorem turn31 (ns : List Int) {s : Sto} {n k : Nat} (S : St31 s n k) (hk : k < 41) (x4 x5 x6 x7 x8 x9 x10 : Option Dt) : ∃ e s' m, l_law_1 [some (sc ns), some (.obj 0), some (.lst [.obj 1, .obj 3]), some (.lst [.obj 5, .obj 6]), x4, x5, x6, x7, x8, x9, x10] s = .fl (.nx e) s' ∧ St31 s' m (k + 1) ∧
    ∃ y4 y5 y6 y7 y8 y9 y10, e = [some (sc ns), some (.obj 0), some (.lst [.obj 1, .obj 3]), some (.lst [.obj 5, .obj 6]), y4, y5, y6, y7, y8, y9, y10] := by
  have z : 0 < s.length := (List.getElem?_eq_some_iff.mp S.hn).1
  have hs : s = tw s n := (tw_self S.hn).symm
  have hle := S.le
  have p1 := ev_pick ns (n := n) (s := s) (l := [.int 0, .int 0, .int 1]) z (by omega) (by simp)
  have p2 := ev_pick ns (n := n + 1) (s := s) (l := [.int 1, .int 2, .int 3, .int 4, .int 65535]) z (by omega) (by simp)
  have p3 := ev_draw ns (n := n + 2) (many := 3) (s := s) z (by omega) (by decide)
  obtain ⟨at_, ha, ea⟩ : ∃ x : Int, (x = 0 ∨ x = 1) ∧ pk ns (n + 1) [.int 0, .int 0, .int 1] = .int x := by
    have := pk_mem ns (n + 1) (l := [.int 0, .int 0, .int 1]) (by simp)
    simp only [List.mem_cons, List.not_mem_nil, or_false] at this
    rcases this with h | h | h <;> exact ⟨_, by omega, h⟩
  obtain ⟨x, ex⟩ : ∃ x : Int, pk ns (n + 1 + 1) [.int 1, .int 2, .int 3, .int 4, .int 65535] = .int x := by
    have := pk_mem ns (n + 1 + 1) (l := [.int 1, .int 2, .int 3, .int 4, .int 65535]) (by simp)
    simp only [List.mem_cons, List.not_mem_nil, or_false] at this
    rcases this with h | h | h | h | h <;> exact ⟨_, h⟩
  rw [ea] at p1
  rw [ex] at p2
  rw [hs]
  have fin : ∀ (p : Dt) (m : Nat) (y8 y9 : Option Dt), isPk p → m ≤ 8 * (k + 1) + 1 → ∃ d s1 s2 i q f, atI [Dt.obj 1, Dt.obj 3] at_ = some (.obj i) ∧ atI [Dt.obj 5, Dt.obj 6] at_ = some (.obj q) ∧ insD (tw s m) 0 (.obj i) = some f ∧ m_Taker_took [.obj i, p] (tw s m) = .ok d s1 ∧ dIsi "tuple" d s1 = .ok (.bl true) s1 ∧ m_law_due [p, .obj q] s1 = .ok d s2 ∧ dNe d d s2 = .ok (.bl false) s2 ∧ St31 s2 m (k + 1) := fun p m y8 y9 hp hm => by
    obtain ⟨i, q, d, s1, s2, h1, h2, ⟨f, h3⟩, h4, h5, ⟨l, h6⟩, ⟨w, h7, h8⟩, h9⟩ := deed S hk hp hm at_ ha
    exact ⟨d, s1, s2, i, q, f, h1, h2, h3, h4, by rw [h6]; exact dIsi_tup, h5, (dEq_self h7 h8).2, h9⟩
  by_cases h3 : dr ns (n + 2 + 1) 3 = 0
  · obtain ⟨d, s1, s2, i, q, f, f1, f2, f3, f4, f5, f6, f7, f8⟩ := fin (.tup [.str (Str.ofString "free"), .int x]) (n + 3) none none (.inl ⟨x, rfl⟩) (by omega)
    rw [h3] at p3
    refine ⟨[some (sc ns), some (.obj 0), some (.lst [.obj 1, .obj 3]), some (.lst [.obj 5, .obj 6]), x4, some (.int at_), some (.int x), some (.tup [.str (Str.ofString "free"), .int x]), x8, x9, some d], s2, n + 3, ?_, f8, ⟨_, _, _, _, _, _, _, rfl⟩⟩
    unfold l_law_1
    simp only [fnOf, ev_seq, ev_asg, sBnd_def, ev_op, ev_un, bnd_def, ev_call, evs_cons, evs_nil, ev_var, ev_c, ev_if, ev_next, ev_expr, ev_tru, ev_bl, ev_and, ev_or, ev_not, ev_yes, ev_andE, ev_orE, ev_notE, ev_ifE, ev_chain, ofB_some, ofO_some, ofO_none, truD_non, truD_bl, truD_int, truD_str, truD_tup, truD_lst, truD_lsk, ev_tup, ev_lst, ev_nwF, ev_nwM, ev_meth, ev_make, ev_fld, ev_setF, ev_bm1, asQ_tup, asQ_lst, asQ_lsk, asL_lst, asL_lsk, dLen_tup, dLen_lst, dLen_lsk, dLen_str, dIx_tup, dIx_lst, dIx_lsk, dIx_str, dAdd_int, dNeg_int, isN_def, notN_def, isNon_non, isNon_int, isNon_bl, isNon_str, isNon_tup, isNon_lst, isNon_obj, isNon_exc, dEq_int, dNe_int, dEq_str, dNe_str, dEq_bl, atI_zero, atI_one, atI_2, atI_3, atI_4, atI_5, atI_6, atI_7, atI_8, atI_9, atI_10, atI_11, atI_12, atI_m1, ev_gT, setAll_nil, setAll_cons, iOp_int, ev_gN, ev_ret, List.map_cons, List.map_nil, List.length_cons, List.length_nil, rep_zero, rep_succ, List.cons_append, List.nil_append, List.getElem?_cons_zero, List.getElem?_cons_succ, List.set_cons_zero, List.set_cons_succ, Nat.sub_self, Nat.reduceAdd, Nat.reduceSub, Option.map_some, Option.bind_some, if_true, Bool.not_true, Bool.not_false, Bool.false_eq_true, if_false, decide_true, decide_false, Int.reduceBEq, Int.reduceEq, Int.reduceLT, Int.reduceLE, Int.reduceNeg, Int.reduceAdd, Int.reduceSub, Int.reduceMul, Int.reduceToNat, Nat.reduceLT, Nat.reduceLeDiff, beq_self_eq_true, reduceIte, eq_self, Int.reduceNe, Int.reduceBNe, not_true_eq_false, not_false_eq_true, true_and, and_true, true_or, or_true, false_or, or_false, and_false, false_and, decide_eq_true_eq, Bool.true_and, Bool.and_true, Bool.false_and, Bool.and_false, Bool.true_or, Bool.or_true, Bool.false_or, Bool.or_false, p1, p2, p3, f1, f2, f3, f4, f5, f6, f7]
  · have h3' : (dr ns (n + 2 + 1) 3 == 0) = false := by simpa using h3
    obtain ⟨td, ⟨nm, bd, g, kp, rfl, hg⟩, p4⟩ := ev_small ns (n := n + 3) (s := s) z (by omega)
    have p5 := ev_draw ns (n := n + 3 + 4) (many := 2) (s := s) z (by omega) (by decide)
    have ad1 : ∀ l m : List Dt, l.length + m.length ≤ 1000 → ∀ s, dAdd nwF (.tup l) (.tup m) s = .ok (.tup (l ++ m)) s := fun l m h s => dAdd_tup h
    by_cases hg0 : g = 0
    · subst hg0
      obtain ⟨d, s1, s2, i, q, f, f1, f2, f3, f4, f5, f6, f7, f8⟩ := fin (.tup [.str (Str.ofString "say"), .str nm, .str bd, .int 0, .bl kp, .bl false, .int 0]) (n + 3 + 4) none none (.inr ⟨nm, bd, 0, kp, false, 0, rfl, .inl rfl⟩) (by omega)
      refine ⟨[some (sc ns), some (.obj 0), some (.lst [.obj 1, .obj 3]), some (.lst [.obj 5, .obj 6]), x4, some (.int at_), some (.int x), some (.tup [.str (Str.ofString "say"), .str nm, .str bd, .int 0, .bl kp, .bl false, .int 0]), some (.tup [.str nm, .str bd, .int 0, .bl kp]), some (.bl false), some d], s2, n + 3 + 4, ?_, f8, ⟨_, _, _, _, _, _, _, rfl⟩⟩
      unfold l_law_1
      simp only [fnOf, ev_seq, ev_asg, sBnd_def, ev_op, ev_un, bnd_def, ev_call, evs_cons, evs_nil, ev_var, ev_c, ev_if, ev_next, ev_expr, ev_tru, ev_bl, ev_and, ev_or, ev_not, ev_yes, ev_andE, ev_orE, ev_notE, ev_ifE, ev_chain, ofB_some, ofO_some, ofO_none, truD_non, truD_bl, truD_int, truD_str, truD_tup, truD_lst, truD_lsk, ev_tup, ev_lst, ev_nwF, ev_nwM, ev_meth, ev_make, ev_fld, ev_setF, ev_bm1, asQ_tup, asQ_lst, asQ_lsk, asL_lst, asL_lsk, dLen_tup, dLen_lst, dLen_lsk, dLen_str, dIx_tup, dIx_lst, dIx_lsk, dIx_str, dAdd_int, dNeg_int, isN_def, notN_def, isNon_non, isNon_int, isNon_bl, isNon_str, isNon_tup, isNon_lst, isNon_obj, isNon_exc, dEq_int, dNe_int, dEq_str, dNe_str, dEq_bl, atI_zero, atI_one, atI_2, atI_3, atI_4, atI_5, atI_6, atI_7, atI_8, atI_9, atI_10, atI_11, atI_12, atI_m1, ev_gT, setAll_nil, setAll_cons, iOp_int, ev_gN, ev_ret, List.map_cons, List.map_nil, List.length_cons, List.length_nil, rep_zero, rep_succ, List.cons_append, List.nil_append, List.getElem?_cons_zero, List.getElem?_cons_succ, List.set_cons_zero, List.set_cons_succ, Nat.sub_self, Nat.reduceAdd, Nat.reduceSub, Option.map_some, Option.bind_some, if_true, Bool.not_true, Bool.not_false, Bool.false_eq_true, if_false, decide_true, decide_false, Int.reduceBEq, Int.reduceEq, Int.reduceLT, Int.reduceLE, Int.reduceNeg, Int.reduceAdd, Int.reduceSub, Int.reduceMul, Int.reduceToNat, Nat.reduceLT, Nat.reduceLeDiff, beq_self_eq_true, reduceIte, eq_self, Int.reduceNe, Int.reduceBNe, not_true_eq_false, not_false_eq_true, true_and, and_true, true_or, or_true, false_or, or_false, and_false, false_and, decide_eq_true_eq, Bool.true_and, Bool.and_true, Bool.false_and, Bool.and_false, Bool.true_or, Bool.or_true, Bool.false_or, Bool.or_false, p1, p2, p3, h3', p4, ad1, f1, f2, f3, f4, f5, f6, f7]
    · have hgp : decide ((0 : Int) < g) = true := decide_eq_true (by omega)
      obtain ⟨d, s1, s2, i, q, f, f1, f2, f3, f4, f5, f6, f7, f8⟩ := fin (.tup [.str (Str.ofString "say"), .str nm, .str bd, .int g, .bl kp, .bl (dr ns (n + 3 + 4 + 1) 2 == 0), .int x]) (n + 3 + 4 + 1) none none (.inr ⟨nm, bd, g, kp, _, x, rfl, hg⟩) (by omega)
      refine ⟨[some (sc ns), some (.obj 0), some (.lst [.obj 1, .obj 3]), some (.lst [.obj 5, .obj 6]), x4, some (.int at_), some (.int x), some (.tup [.str (Str.ofString "say"), .str nm, .str bd, .int g, .bl kp, .bl (dr ns (n + 3 + 4 + 1) 2 == 0), .int x]), some (.tup [.str nm, .str bd, .int g, .bl kp]), some (.bl (dr ns (n + 3 + 4 + 1) 2 == 0)), some d], s2, n + 3 + 4 + 1, ?_, f8, ⟨_, _, _, _, _, _, _, rfl⟩⟩
      have hgq : 0 < g := by omega
      unfold l_law_1
      simp only [fnOf, ev_seq, ev_asg, sBnd_def, ev_op, ev_un, bnd_def, ev_call, evs_cons, evs_nil, ev_var, ev_c, ev_if, ev_next, ev_expr, ev_tru, ev_bl, ev_and, ev_or, ev_not, ev_yes, ev_andE, ev_orE, ev_notE, ev_ifE, ev_chain, ofB_some, ofO_some, ofO_none, truD_non, truD_bl, truD_int, truD_str, truD_tup, truD_lst, truD_lsk, ev_tup, ev_lst, ev_nwF, ev_nwM, ev_meth, ev_make, ev_fld, ev_setF, ev_bm1, asQ_tup, asQ_lst, asQ_lsk, asL_lst, asL_lsk, dLen_tup, dLen_lst, dLen_lsk, dLen_str, dIx_tup, dIx_lst, dIx_lsk, dIx_str, dAdd_int, dNeg_int, isN_def, notN_def, isNon_non, isNon_int, isNon_bl, isNon_str, isNon_tup, isNon_lst, isNon_obj, isNon_exc, dEq_int, dNe_int, dEq_str, dNe_str, dEq_bl, atI_zero, atI_one, atI_2, atI_3, atI_4, atI_5, atI_6, atI_7, atI_8, atI_9, atI_10, atI_11, atI_12, atI_m1, ev_gT, setAll_nil, setAll_cons, iOp_int, ev_gN, ev_ret, List.map_cons, List.map_nil, List.length_cons, List.length_nil, rep_zero, rep_succ, List.cons_append, List.nil_append, List.getElem?_cons_zero, List.getElem?_cons_succ, List.set_cons_zero, List.set_cons_succ, Nat.sub_self, Nat.reduceAdd, Nat.reduceSub, Option.map_some, Option.bind_some, if_true, Bool.not_true, Bool.not_false, Bool.false_eq_true, if_false, decide_true, decide_false, Int.reduceBEq, Int.reduceEq, Int.reduceLT, Int.reduceLE, Int.reduceNeg, Int.reduceAdd, Int.reduceSub, Int.reduceMul, Int.reduceToNat, Nat.reduceLT, Nat.reduceLeDiff, beq_self_eq_true, reduceIte, eq_self, Int.reduceNe, Int.reduceBNe, not_true_eq_false, not_false_eq_true, true_and, and_true, true_or, or_true, false_or, or_false, and_false, false_and, decide_eq_true_eq, Bool.true_and, Bool.and_true, Bool.false_and, Bool.and_false, Bool.true_or, Bool.or_true, Bool.false_or, Bool.or_false, p1, p2, p3, h3', p4, p5, hgp, hgq, ad1, f1, f2, f3, f4, f5, f6, f7]
theorem law_true : ∀ ns : List Int, ns.length ≤ 63 → ∃ s, m_law [.lsk (ns.map .int)] [] = .ok (.bl true) s := by
  intro ns _
  have mk1 : m_Taker_init [.obj 1] [Mo.lst [], .ins 0 []] = .ok .non [Mo.lst [], .ins 0 [.obj 2], .lst []] := rfl
  have mk2 : m_Taker_init [.obj 3] [Mo.lst [], .ins 0 [.obj 2], .lst [], .ins 0 []] = .ok .non [Mo.lst [], .ins 0 [.obj 2], .lst [], .ins 0 [.obj 4], .lst []] := rfl
  have d1 := ev_draw ns (n := 0) (many := 41) (s := [Mo.lst [], .ins 0 [.obj 2], .lst [], .ins 0 [.obj 4], .lst [], .lst [], .lst []]) (by decide) (by decide) (by decide)
  have e0 : tw [Mo.lst [], .ins 0 [.obj 2], .lst [], .ins 0 [.obj 4], .lst [], .lst [], .lst []] 0 = [Mo.lst [], .ins 0 [.obj 2], .lst [], .ins 0 [.obj 4], .lst [], .lst [], .lst []] := rfl
  rw [e0] at d1
  have g0 := dr_nonneg ns (0 + 1) (m := 41) (by decide)
  have g1 := dr_lt ns (0 + 1) (m := 41) (by decide)
  have g2 : dr ns (0 + 1) 41 ≤ 16777216 ∧ -(2 ^ 62) ≤ dr ns (0 + 1) 41 := by omega
  obtain ⟨e, s', hl, _⟩ := for_range_inv (tg := gN 4) (body := l_law_1) (fun k env s => ∃ n, St31 s n k ∧ ∃ x4 x5 x6 x7 x8 x9 x10, env = [some (sc ns), some (.obj 0), some (.lst [.obj 1, .obj 3]), some (.lst [.obj 5, .obj 6]), x4, x5, x6, x7, x8, x9, x10]) (dr ns (0 + 1) 41).toNat
    (env := [some (sc ns), some (.obj 0), some (.lst [.obj 1, .obj 3]), some (.lst [.obj 5, .obj 6]), none, none, none, none, none, none, none]) (s := tw [Mo.lst [], .ins 0 [.obj 2], .lst [], .ins 0 [.obj 4], .lst [], .lst [], .lst []] (0 + 1))
    ⟨1, ⟨rfl, by decide, 2, 4, [], [], ⟨rfl, rfl, rfl, by decide, by decide, by decide, List.nodup_nil⟩, ⟨rfl, rfl, rfl, by decide, by decide, by decide, List.nodup_nil⟩, by decide⟩, _, _, _, _, _, _, _, rfl⟩
    (fun k env s hk ⟨n, S, x4, x5, x6, x7, x8, x9, x10, ee⟩ => by
      subst ee
      obtain ⟨e, s', m, h1, h2, y4, y5, y6, y7, y8, y9, y10, h3⟩ := turn31 ns S (by omega) (some (.int k)) x5 x6 x7 x8 x9 x10
      exact ⟨_, rfl, e, s', .inl h1, m, h2, y4, y5, y6, y7, y8, y9, y10, h3⟩)
  refine ⟨s', ?_⟩
  simp only [Nat.zero_add] at d1 g2 hl
  unfold m_law b_law
  simp only [fnOf, ev_seq, ev_asg, sBnd_def, ev_op, ev_un, bnd_def, ev_call, evs_cons, evs_nil, ev_var, ev_c, ev_if, ev_next, ev_expr, ev_tru, ev_bl, ev_and, ev_or, ev_not, ev_yes, ev_andE, ev_orE, ev_notE, ev_ifE, ev_chain, ofB_some, ofO_some, ofO_none, truD_non, truD_bl, truD_int, truD_str, truD_tup, truD_lst, truD_lsk, ev_tup, ev_lst, ev_nwF, ev_nwM, ev_meth, ev_make, ev_fld, ev_setF, ev_bm1, asQ_tup, asQ_lst, asQ_lsk, asL_lst, asL_lsk, dLen_tup, dLen_lst, dLen_lsk, dLen_str, dIx_tup, dIx_lst, dIx_lsk, dIx_str, dAdd_int, dNeg_int, isN_def, notN_def, isNon_non, isNon_int, isNon_bl, isNon_str, isNon_tup, isNon_lst, isNon_obj, isNon_exc, dEq_int, dNe_int, dEq_str, dNe_str, dEq_bl, atI_zero, atI_one, atI_2, atI_3, atI_4, atI_5, atI_6, atI_7, atI_8, atI_9, atI_10, atI_11, atI_12, atI_m1, ev_gT, setAll_nil, setAll_cons, iOp_int, ev_gN, ev_ret, List.map_cons, List.map_nil, List.length_cons, List.length_nil, rep_zero, rep_succ, List.cons_append, List.nil_append, List.getElem?_cons_zero, List.getElem?_cons_succ, List.set_cons_zero, List.set_cons_succ, Nat.sub_self, Nat.reduceAdd, Nat.reduceSub, Option.map_some, Option.bind_some, if_true, Bool.not_true, Bool.not_false, Bool.false_eq_true, if_false, decide_true, decide_false, Int.reduceBEq, Int.reduceEq, Int.reduceLT, Int.reduceLE, Int.reduceNeg, Int.reduceAdd, Int.reduceSub, Int.reduceMul, Int.reduceToNat, Nat.reduceLT, Nat.reduceLeDiff, beq_self_eq_true, reduceIte, eq_self, Int.reduceNe, Int.reduceBNe, not_true_eq_false, not_false_eq_true, true_and, and_true, true_or, or_true, false_or, or_false, and_false, false_and, decide_eq_true_eq, Bool.true_and, Bool.and_true, Bool.false_and, Bool.and_false, Bool.true_or, Bool.or_true, Bool.false_or, Bool.or_false, ev_for, ev_iRange, mk1, mk2, d1, g2, hl]
end Tx
open PySem PySem.W PyProof.Rows
set_option maxRecDepth 100000 in
set_option maxHeartbeats 0 in
theorem PySem.Challenge.cw_tidinghall_k31_whole_taker_holds : PySem.Challenge.rw_tidinghall_k31_whole_taker.Holds := by
  w_on; o_law; k_head; (case hw => w_witness2)
  k_fill
  refine Tx.walk Tx.law_true (l := PySem.Challenge.rw_tidinghall_k31_whole_taker) rfl rfl (fun w h Y => PySem.W.kIn_of Y) ?F
  case F =>
    intro w mg fa h KX G hmg
    refine' Tx.all_mk KX G hmg ?aC_Taker ?kC_Taker ?a_Taker_init ?i_Taker_init ?l_Taker_init ?c_Taker_init ?k_Taker_init ?a_Taker_took ?i_Taker_took ?l_Taker_took ?c_Taker_took ?k_Taker_took ?a_law_cell ?l_law_cell ?c_law_cell ?k_law_cell ?a_law_due ?l_law_due ?c_law_due ?k_law_due ?a_law_mix ?l_law_mix ?c_law_mix ?k_law_mix ?a_law_draw ?l_law_draw ?c_law_draw ?k_law_draw ?a_law_pick ?l_law_pick ?c_law_pick ?k_law_pick ?a_law_small ?l_law_small ?c_law_small ?k_law_small ?a_law ?l_law ?c_law ?k_law ?pg_Taker ?hd_Taker ?po_Taker ?sa_Taker ?mk_Taker ?n_Taker_numbers ?n_isinstance ?n_len ?n_range ?n_tuple
    (case aC_Taker => k_is)
    (case kC_Taker => k_is)
    (case a_Taker_init => k_is)
    (case i_Taker_init => k_is)
    (case l_Taker_init => k_is)
    (case c_Taker_init => k_is)
    (case k_Taker_init => k_is)
    (case a_Taker_took => k_is)
    (case i_Taker_took => k_is)
    (case l_Taker_took => k_is)
    (case c_Taker_took => k_is)
    (case k_Taker_took => k_is)
    (case a_law_cell => k_is)
    (case l_law_cell => k_is)
    (case c_law_cell => k_is)
    (case k_law_cell => k_is)
    (case a_law_due => k_is)
    (case l_law_due => k_is)
    (case c_law_due => k_is)
    (case k_law_due => k_is)
    (case a_law_mix => k_is)
    (case l_law_mix => k_is)
    (case c_law_mix => k_is)
    (case k_law_mix => k_is)
    (case a_law_draw => k_is)
    (case l_law_draw => k_is)
    (case c_law_draw => k_is)
    (case k_law_draw => k_is)
    (case a_law_pick => k_is)
    (case l_law_pick => k_is)
    (case c_law_pick => k_is)
    (case k_law_pick => k_is)
    (case a_law_small => k_is)
    (case l_law_small => k_is)
    (case c_law_small => k_is)
    (case k_law_small => k_is)
    (case a_law => k_is)
    (case l_law => k_is)
    (case c_law => k_is)
    (case k_law => k_is)
    (case pg_Taker => k_is)
    (case hd_Taker => k_is)
    (case po_Taker => k_is)
    (case sa_Taker => k_is)
    (case mk_Taker => k_is)
    (case n_Taker_numbers => k_is)
    (case n_isinstance => k_is)
    (case n_len => k_is)
    (case n_range => k_is)
    (case n_tuple => k_is)
